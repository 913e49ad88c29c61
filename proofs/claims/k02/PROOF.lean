import PyProof.Rows.All
import Wide.All
import OpenK.AllK
import Wide.FinOn
import HandS.ForMost
import HandS.Style
import HandS.Conv
import HandS.TupAny
import HandS.TupMul
import HandS.IsInst
import HandS.Zip
import HandS.Walk
import HandS.Wide
import HandS.DictComp
import HandS.SortRule
import HandS.TupSets
import HandS.ExcOwn
import HandS.TryOnly
import HandS.WordsExc
import HandS.Deep
import HandS.Small
import HandS.Defaults
import HandS.RaiseMore
import PyProof.ExcBaseAll.ValueError
import HandS.More
import HandS.HeadHook4
import HandS.HeadEnd
import HandS.Codes
import HandS.Head0
import HandS.Head1
import HandS.Head2
import KE.KStateDown
import PySem.Challenge.RW_sheetsfit_k02_whole_rows
set_option Elab.async false
set_option linter.all false
set_option maxRecDepth 100000
/-! Pm1: a small language over data (PyData) and its evaluator. No program in sight. -/
namespace Pm
open PySem

inductive Bop where
  | add | sub | mul | fdiv | mod | pow
inductive Cop where
  | lt | le | gt | ge | eq | ne | inn | nin
inductive Ty where
  | int | bool | str | list | tuple | dict
inductive Blt where
  | len | abs | min | max | int | str | list | tuple | sum | any | all | sorted

/-- what is written as it is -/
inductive Lit where
  | non
  | bl (b : Bool)
  | int (i : Int)
  | str (x : Str)
@[simp] def Lit.d : Lit → PyData
  | .non => .none
  | .bl b => .bool b
  | .int i => .int i
  | .str x => .str x
/-- targets -/
inductive Tg where
  | nm (i : Nat)
  | tp (g : Tg) (r : Tg)
  | nil

mutual
inductive E where
  | var (i : Nat)
  | lit (d : Lit)
  | glo (x : Str) (d : Lit)
  | tup (es : Es) | lst (es : Es)
  | bin (op : Bop) (a b : E)
  | neg (a : E) | not (a : E)
  | and (a b : E) | or (a b : E)
  | cmp (op : Cop) (a b : E)
  | isN (a : E) | notN (a : E)
  | chain (o1 o2 : Cop) (a b c : E)
  | ife (c : T) (a b : E)
  | idx (a i : E)
  | idxV (j : Nat) (i : E)
  | sl (a : E) (lo hi : O)
  | rev (a : E)
  | tabGet (t : Str) (i : E)
  | tabIn (t : Str) (neg : Bool) (i : E)
  | dget (i : Nat) (k : E)
  | dgetOr (i : Nat) (k d : E)
  | call (f : Str) (es : As)
  | meth (c m : Str) (o : Nat) (es : As)
  | att (c : Str) (o : Nat) (f : Str)
  | blt (b : Blt) (es : Es)
  | lenV (j : Nat)
  | isi (a : E) (t : Ty)
  | lrng (a : E)
  | lc (vs : List Nat) (g : Tg) (it : I) (c : C) (e : E)
  | lc2 (vs vs1 : List Nat) (g : Tg) (it : I) (c : C) (g1 : Tg) (it1 : I) (c1 : C) (e : E)
  | lenDc (vs : List Nat) (g : Tg) (it : I) (k v : E)
inductive Es where
  | nil
  | cons (e : E) (r : Es)
/-- a def's arguments: vr a variable as it stands -/
inductive As where
  | nil
  | cons (e : E) (r : As)
  | vr (i : Nat) (r : As)
inductive O where
  | none
  | some (e : E)
/-- a test -/
inductive T where
  | e (e : E)
  | and (a b : T) | or (a b : T) | not (a : T)
inductive C where
  | none
  | some (t : T)
/-- what is walked -/
inductive I where
  | seq (e : E)
  | rng1 (a : E) | rng2 (a b : E) | rng3 (a b c : E)
  | enum (a : E)
  | zip (a b : E)
end

inductive S where
  | skip
  | drop (e : E)
  | asg (i : Nat) (e : E)
  | asgO (i : Nat) (e : E)
  | asgG (g : Tg) (e : E)
  | par2 (i j : Nat) (a b : E)
  | par3 (i j k : Nat) (a b c : E)
  | app (i : Nat) (e : E)
  | setI (i : Nat) (k e : E)
  | set2 (i j : Nat) (k1 k2 e1 e2 : E)
  | asgD (i : Nat) (kvs : List (Sum Int Str × Lit))
  | dput (i : Nat) (k e : E)
  | setA (c : Str) (o : Nat) (f : Str) (e : E)
  | setAO (c : Str) (o : Nat) (f : Str) (e : E)
  | appA (c : Str) (o : Nat) (f : Str) (e : E)
  | mk (i : Nat) (c : Str) (es : As)
  | fz (is : List Nat)
  | fzA (c : Str) (o : Nat) (f : Str)
  | ret (e : E)
  | retN
  | ife (c : T) (a b : S)
  | sfor (g : Tg) (it : I) (b : S)
  | swhile (c : T) (b : S)
  | sraise (x : Str)
  | stry (b : S) (x : Str) (h : S)
  | seq (a b : S)

/-! ### states -/
inductive Slot where
  | no
  | dat (d : PyData)
  | lst (ds : List PyData)
  | dct (kvs : List (Sum Int Str × PyData))
  | obj (k : Nat)
abbrev Env := List Slot
/-- an field: a value, or a list of its own -/
inductive Fld where
  | fz (d : PyData)
  | own (ds : List PyData)
inductive Obj where
  | ml (ds : List PyData)
  | ins (c : Str) (fs : List (Str × Fld))
abbrev Store := List Obj

inductive Out (α : Type) where
  | ok (a : α) (st : Store)
  | ex (x : Str) (st : Store)
  | no

namespace Out
@[simp] def bind {α β : Type} (x : Out α) (f : α → Store → Out β) : Out β := match x with
  | .ok a st => f a st
  | .ex x st => .ex x st
  | .no => .no
@[simp] def ofO {α : Type} (o : Option α) (st : Store) : Out α := match o with
  | some a => .ok a st
  | none => .no
end Out

/-! ### operations upon data -/
def okLen (n : Nat) : Bool := decide (n ≤ sizeLine)
/-- a product's sizes -/
def okMul (i j : Int) : Bool := (decide (-(2 ^ 64) < i) && decide (i < 2 ^ 64)) || (decide (-(2 ^ 64) < j) && decide (j < 2 ^ 64)) || decide (i.natAbs.log2 + j.natAbs.log2 < 1000000)
def okDiv (j : Int) : Bool := decide (0 < j) && (decide (j < 1073741824) || decide (j.natAbs.log2 < 9000))

def binD : Bop → PyData → PyData → Option PyData
  | .add, .int i, .int j => some (.int (i + j))
  | .add, .list xs, .list ys => if okLen (xs.length + ys.length) = true then some (.list (xs ++ ys)) else none
  | .add, .tuple xs, .tuple ys => if okLen (xs.length + ys.length) = true then some (.tuple (xs ++ ys)) else none
  | .add, .str x, .str y => if okLen (x.length + y.length) = true then some (.str (x ++ y)) else none
  | .sub, .int i, .int j => some (.int (i - j))
  | .mul, .int i, .int j => if okMul i j = true then some (.int (i * j)) else none
  | .mul, .list xs, .int k => if decide (0 ≤ k) && decide (k ≤ 1000) && decide (xs.length ≤ 1000) then some (.list (List.replicate k.toNat xs).flatten) else none
  | .mul, .tuple xs, .int k => if decide (2 ≤ k) && decide (k ≤ 1000) && decide (xs.length ≤ 1000) && !xs.isEmpty then some (.tuple (List.replicate k.toNat xs).flatten) else none
  | .fdiv, .int i, .int j => if okDiv j = true then some (.int (i / j)) else none
  | .mod, .int i, .int j => if 0 < j then some (.int (i % j)) else if j ≠ 0 then some (.int (i.fmod j)) else none
  | .pow, .int i, .int j => if decide (0 ≤ j) && decide (j ≤ 1000000) && decide (i.natAbs < 2 ^ 64) then some (.int (i ^ j.toNat)) else none
  | _, _, _ => none

/-- flat: none, bool, int, text -/
def flatD : PyData → Bool
  | .none => true
  | .bool _ => true
  | .int _ => true
  | .str _ => true
  | _ => false
def inD (x : PyData) (ys : List PyData) : Option Bool :=
  if flatD x && ys.all flatD then some (ys.any fun y => PyData.eqv y x)
  else if SeqAt.shaped x && SeqAt.shaped (.list ys) then some (ys.any fun y => PyData.eqv y x) else none
def cmpD : Cop → PyData → PyData → Option Bool
  | .lt, .int i, .int j => some (decide (i < j))
  | .le, .int i, .int j => some (decide (i ≤ j))
  | .gt, .int i, .int j => some (decide (j < i))
  | .ge, .int i, .int j => some (decide (j ≤ i))
  | .eq, a, b => if SeqAt.shaped a && SeqAt.shaped b then some (PyData.eqv a b) else none
  | .ne, a, b => if SeqAt.shaped a && SeqAt.shaped b then some (!PyData.eqv a b) else none
  | .inn, x, .list ys => inD x ys
  | .inn, x, .tuple ys => if flatD x && ys.all flatD then some (ys.any fun y => PyData.eqv y x) else none
  | .inn, .str x, .str y => some (!(Builtin.Str.occurrences y x 0 y.length 1).isEmpty)
  | .nin, x, .list ys => (inD x ys).map (!·)
  | _, _, _ => none
def truth : PyData → Option Bool
  | .none => some false
  | .bool b => some b
  | .int i => some (i != 0)
  | .str y => if okLen y.length = true then some ((y.length : Int) != 0) else none
  | .list xs => some (!xs.isEmpty)
  | .tuple xs => some (!xs.isEmpty)
  | .dict _ => none
def isBool : PyData → Option Bool
  | .bool b => some b
  | _ => none
def atD (xs : List PyData) (i : Int) : Option PyData := L2.atI xs i
def idxD : PyData → PyData → Option PyData
  | .list xs, .int i => atD xs i
  | .tuple xs, .int i => atD xs i
  | .str z, .int i => if okLen z.length = true then (L2.atI z.cps.toList i).map fun c => .str ⟨#[c]⟩ else none
  | _, _ => none
def cutD (xs : List PyData) (lo hi : Option Int) : List PyData := (xs.drop (HT.sIx xs.length 0 lo)).take (HT.sIx xs.length xs.length hi - HT.sIx xs.length 0 lo)
def slD : PyData → Option Int → Option Int → Option PyData
  | .list xs, lo, hi => some (.list (cutD xs lo hi))
  | .tuple xs, lo, hi => some (.tuple (cutD xs lo hi))
  | _, _, _ => none
def intsD : List PyData → Option (List Int)
  | [] => some []
  | .int i :: r => (intsD r).map (i :: ·)
  | _ :: _ => none
def boolsD : List PyData → Option (List Bool)
  | [] => some []
  | .bool b :: r => (boolsD r).map (b :: ·)
  | _ :: _ => none
/-- pairs of ints -/
def pairsD : List PyData → Option (List (Int × Int))
  | [] => some []
  | d :: r => match d with
    | .tuple [.int i, .int j] => (pairsD r).map ((i, j) :: ·)
    | _ => none
def insP (x : Int × Int) : List (Int × Int) → List (Int × Int)
  | [] => [x]
  | y :: ys => if SrtO.lexB y x = true then y :: insP x ys else x :: y :: ys
def sortP (xs : List (Int × Int)) : List (Int × Int) := xs.foldr insP []

def bltD : Blt → List PyData → Option PyData
  | .len, [.list xs] => some (.int xs.length)
  | .len, [.tuple xs] => some (.int xs.length)
  | .len, [.str x] => if okLen x.length = true then some (.int x.length) else none
  | .abs, [.int i] => some (.int (if i < 0 then -i else i))
  | .min, [.int i, .int j] => some (.int (if j < i then j else i))
  | .max, [.int i, .int j] => some (.int (if j > i then j else i))
  | .int, [.int i] => some (.int i)
  | .int, [.bool b] => some (.int (if b then 1 else 0))
  | .str, [.int i] => if decide (i.natAbs.log2 < 1920) then some (.str (toString i)) else none
  | .list, [.list xs] => some (.list xs)
  | .list, [.tuple xs] => some (.list xs)
  | .tuple, [.list xs] => some (.tuple xs)
  | .tuple, [.tuple xs] => some (.tuple xs)
  | .sum, [.list xs] => (intsD xs).map fun ns => .int ns.sum
  | .any, [.list xs] => (boolsD xs).map fun bs => .bool (bs.any id)
  | .all, [.list xs] => (boolsD xs).map fun bs => .bool (bs.all id)
  | .sorted, [.list xs] => (pairsD xs).map fun ps => .list ((sortP ps).map fun p => .tuple [.int p.1, .int p.2])
  | _, _ => none
def isiD : Ty → PyData → Bool
  | .int, .int _ => true
  | .int, .bool _ => true
  | .bool, .bool _ => true
  | .str, .str _ => true
  | .list, .list _ => true
  | .tuple, .tuple _ => true
  | _, _ => false
def negD : PyData → Option PyData
  | .int i => some (.int (-i))
  | _ => none
def partD : PyData → Option Int
  | .int i => some i
  | _ => none
def rngL (lo : Int) (n : Nat) (c : Int) : List PyData := (List.range n).map fun (i : Nat) => .int (lo + i * c)
def okR (i : Int) : Bool := decide (-(2 ^ 62) ≤ i) && decide (i < 2 ^ 62)
def enumL (xs : List PyData) : List PyData := xs.mapIdx fun i x => .tuple [.int (i : Nat), x]
def zipL (xs ys : List PyData) : List PyData := List.zipWith (fun x y => .tuple [x, y]) xs ys
def seqD : PyData → Option (List PyData)
  | .list xs => some xs
  | .tuple xs => some xs
  | _ => none
/-- lists of up to 15 pairs: keys -/
def keyD : PyData → Option (Sum Int Str)
  | .int i => some (.inl i)
  | .str x => some (.inr x)
  | _ => none
def getK (kvs : List (Sum Int Str × PyData)) (k : Sum Int Str) : Option PyData := (kvs.find? fun kv => decide (kv.1 = k)).map (·.2)
def putKD (kvs : List (Sum Int Str × PyData)) (k : Sum Int Str) (v : PyData) : List (Sum Int Str × PyData) :=
  if (kvs.any fun kv => decide (kv.1 = k)) = true then kvs.map (fun kv => if kv.1 = k then (kv.1, v) else kv) else kvs ++ [(k, v)]

/-- no key twice -/
def keysOk {α : Type} (kvs : List (Sum Int Str × α)) : Bool := decide (kvs.map (·.1)).Nodup
/-! ### targets -/
mutual
def setG : Tg → PyData → Env → Option Env
  | .nm i, d, env => some (env.set i (.dat d))
  | .nil, .tuple xs, env => match xs with
    | [] => some env
    | _ :: _ => none
  | .nil, .list xs, env => match xs with
    | [] => some env
    | _ :: _ => none
  | .nil, _, _ => none
  | .tp g r, .tuple xs, env => setGs g r xs env
  | .tp g r, .list xs, env => setGs g r xs env
  | .tp _ _, _, _ => none
def setGs : Tg → Tg → List PyData → Env → Option Env
  | _, _, [], _ => none
  | g, r, x :: xs, env => match setG g x env with
    | some env1 => (match r with
      | .nil => (match xs with
        | [] => some env1
        | _ :: _ => none)
      | .tp g2 r2 => setGs g2 r2 xs env1
      | .nm _ => none)
    | none => none
end

/-! ### the evaluator -/
/-- a comprehension's list -/
def lcL (f : PyData → Store → Out (List PyData)) : List PyData → Store → Out (List PyData)
  | [], st => .ok [] st
  | x :: xs, st => match f x st with
    | .ok ys st1 => (match lcL f xs st1 with
      | .ok zs st2 => .ok (ys ++ zs) st2
      | _ => .no)
    | _ => .no
def okL (x : Out (List PyData)) : Out (List PyData) := match x with
  | .ok ys st => if okLen ys.length = true then .ok ys st else .no
  | _ => .no
/-- a dict comprehension's pairs -/
def dcL (f : PyData → Store → Out (Sum Int Str × PyData)) : List PyData → Store → List (Sum Int Str × PyData) → Out (List (Sum Int Str × PyData))
  | [], st, acc => .ok acc st
  | x :: xs, st, acc => match f x st with
    | .ok kv st1 => if okLen (acc.length + 1) = true then dcL f xs st1 (putKD acc kv.1 kv.2) else .no
    | _ => .no
def gHas (i : Nat) : Tg → Bool
  | .nm j => j == i
  | .nil => false
  | .tp g r => gHas i g || gHas i r
def gIn (vs : List Nat) : Tg → Bool
  | .nm j => vs.contains j
  | .nil => true
  | .tp g r => gIn vs g && gIn vs r
def ownS : Option Slot → Bool
  | some (.lst _) => true
  | some (.dct _) => true
  | _ => false
/-- none of these is a list or dict of one's own -/
def noOwn (env : Env) (vs : List Nat) : Bool := vs.all fun i => !ownS env[i]?
def wipeE (env : Env) : List Nat → Env
  | [] => env
  | v :: vs => (wipeE env vs).set v .no
def noEx {α : Type} (x : Out α) : Out α := match x with
  | .ok a st => .ok a st
  | _ => .no
/-- there is something in the slot -/
def seen (env : Env) (i : Nat) : Bool := match env[i]? with
  | some (.dat _) => true
  | some (.lst _) => true
  | some (.obj _) => true
  | _ => false
def isLst (env : Env) (i : Nat) : Bool := match env[i]? with
  | some (.lst _) => true
  | _ => false
/-- an argument as it is handed on -/
abbrev Arg := Slot
def peekD (env : Env) (st : Store) (i : Nat) : Option PyData := match env[i]? with
  | some (.dat d) => some d
  | some (.lst ds) => some (.list ds)
  | some (.obj k) => (match st[k]? with
    | some (.ml ds) => some (.list ds)
    | _ => none)
  | _ => none
def fldOf (fs : List (Str × Fld)) (f : Str) : Option PyData := match fs.lookup f with
  | some (.fz d) => some d
  | some (.own ds) => some (.list ds)
  | none => none
def getA (env : Env) (st : Store) (c : Str) (o : Nat) (f : Str) : Option PyData := match env[o]? with
  | some (.obj k) => (match st[k]? with
    | some (.ins c2 fs) => if decide (c2 = c) = true then (match fs.lookup f with
      | some (.fz d) => some d
      | _ => none) else none
    | _ => none)
  | _ => none
def selfOf (env : Env) (st : Store) (c m : Str) (o : Nat) : Option Slot := match env[o]? with
  | some (.obj k) => (match st[k]? with
    | some (.ins c2 fs) => if (decide (c2 = c) && (fs.lookup m).isNone) = true then some (.obj k) else none
    | _ => none)
  | _ => none
def isNoneD : PyData → Bool
  | .none => true
  | _ => false
def revD : PyData → Option PyData
  | .list xs => some (.list xs.reverse)
  | _ => none
def strD : PyData → Option Str
  | .str z => some z
  | _ => none
def dctOf (env : Env) (i : Nat) : Option (List (Sum Int Str × PyData)) := match env[i]? with
  | some (.dct kvs) => some kvs
  | _ => none
def argOf (env : Env) (i : Nat) : Option Arg := match env[i]? with
  | some (.dat d) => some (.dat d)
  | some (.obj k) => some (.obj k)
  | _ => none
def rng1D : PyData → Option (List PyData)
  | .int j => if okR j = true then some (rngL 0 j.toNat 1) else none
  | _ => none
def rng2D : PyData → PyData → Option (List PyData)
  | .int i, .int j => if (okR i && okR j) = true then some (rngL i (j - i).toNat 1) else none
  | _, _ => none
def rng3D : PyData → PyData → PyData → Option (List PyData)
  | .int i, .int j, .int k => if (decide (0 ≤ i) && decide (i ≤ 1000) && decide (0 ≤ j) && decide (j ≤ 1000) && decide (k = 2)) = true then some (rngL i ((j - i + 1) / 2).toNat 2) else none
  | _, _, _ => none
def lrngD : PyData → Option PyData
  | .int j => if (decide (0 ≤ j) && decide (j ≤ 1000000)) = true then some (.list (rngL 0 j.toNat 1)) else none
  | _ => none
def enumD : PyData → Option (List PyData)
  | .list xs => some (enumL xs)
  | _ => none
def zipD : PyData → PyData → Option (List PyData)
  | .list xs, .list ys => some (zipL xs ys)
  | .tuple xs, .tuple ys => some (zipL xs ys)
  | _, _ => none
/-- an field's own list -/
def ownA (env : Env) (st : Store) (c : Str) (o : Nat) (f : Str) : Option (List PyData) := match env[o]? with
  | some (.obj k) => (match st[k]? with
    | some (.ins c2 fs) => if decide (c2 = c) = true then (match fs.lookup f with
      | some (.own ds) => some ds
      | _ => none) else none
    | _ => none)
  | _ => none
def putFD (f : Str) (v : Fld) : List (Str × Fld) → List (Str × Fld)
  | [] => [(f, v)]
  | (g, w) :: r => if g = f then (g, v) :: r else (g, w) :: putFD f v r
/-- an field stored (fewer than ten) -/
def putA (env : Env) (st : Store) (c : Str) (o : Nat) (f : Str) (v : Fld) : Option Store := match env[o]? with
  | some (.obj k) => (match st[k]? with
    | some (.ins c2 fs) => if (decide (c2 = c) && decide (fs.length < 10)) = true then some (st.set k (.ins c (putFD f v fs))) else none
    | _ => none)
  | _ => none
/-- own lists made values -/
def fzS : Slot → Slot
  | .lst ds => .dat (.list ds)
  | s => s
def fzE (env : Env) : List Nat → Env
  | [] => env
  | i :: is => fzE (match env[i]? with
    | some s => env.set i (fzS s)
    | none => env) is
structure Fs where
  /-- a def's call -/
  call : Str → List Arg → Store → Out PyData
  /-- a method's -/
  meth : Str → Str → List Arg → Store → Out PyData
  /-- an instance made: its address is handed on by the store's end -/
  make : Str → List Arg → Store → Out Unit
  /-- a written table -/
  tab : Str → List (Str × Lit)
  /-- what is an field -/
  att : Str → Str → Bool
  /-- is the one error class under the other one -/
  sub : Str → Str → Option Bool

def isIntD : PyData → Bool
  | .int _ => true
  | _ => false
def isVar : E → Bool
  | .var _ => true
  | _ => false
/-- plain arithmetic: nothing is made, nothing called -/
def isAr : E → Bool
  | .var _ => true
  | .lit _ => true
  | .lenV _ => true
  | .bin .add a b => isAr a && isAr b
  | .ife (.e (.var _)) a b => isAr a && isAr b
  | _ => false
/-- what makes a new list -/
def isFresh : E → Bool
  | .lst _ => true
  | .bin .add _ _ => true
  | .bin .mul _ _ => true
  | .sl _ _ _ => true
  | .blt .list _ => true
  | .lc _ _ _ _ _ => true
  | _ => false
section
variable (Fn : Fs)
mutual
def ev : E → Env → Store → Out PyData
  | .var i, env, st => match env[i]? with
    | some (.dat d) => .ok d st
    | _ => .no
  | .lit d, _, st => .ok d.d st
  | .glo _ d, _, st => .ok d.d st
  | .tup es, env, st => (evs es env st).bind fun ds st1 => if okLen ds.length = true then .ok (.tuple ds) st1 else .no
  | .lst es, env, st => (evs es env st).bind fun ds st1 => if okLen ds.length = true then .ok (.list ds) st1 else .no
  | .bin op a b, env, st => (ev a env st).bind fun x st1 => (ev b env st1).bind fun y st2 => .ofO (binD op x y) st2
  | .neg a, env, st => (ev a env st).bind fun x st1 => .ofO (negD x) st1
  | .not a, env, st => (ev a env st).bind fun x st1 => .ofO ((isBool x).map fun b => .bool (!b)) st1
  | .and a b, env, st => (ev a env st).bind fun x st1 => match x with
    | .bool true => ev b env st1
    | .bool false => .ok (.bool false) st1
    | _ => .no
  | .or a b, env, st => (ev a env st).bind fun x st1 => match x with
    | .bool true => .ok (.bool true) st1
    | .bool false => ev b env st1
    | _ => .no
  | .cmp op a b, env, st => (ev a env st).bind fun x st1 => (ev b env st1).bind fun y st2 => .ofO ((cmpD op x y).map .bool) st2
  | .isN a, env, st => (ev a env st).bind fun x st1 => .ok (.bool (isNoneD x)) st1
  | .notN a, env, st => (ev a env st).bind fun x st1 => .ok (.bool (!isNoneD x)) st1
  | .chain o1 o2 a b c, env, st => (ev a env st).bind fun x st1 => (ev b env st1).bind fun y st2 => match cmpD o1 x y with
    | some true => (ev c env st2).bind fun z st3 => .ofO ((cmpD o2 y z).map .bool) st3
    | some false => .ok (.bool false) st2
    | none => .no
  | .ife c a b, env, st => (evT c env st).bind fun t st1 => match t with
    | true => ev a env st1
    | false => ev b env st1
  | .idx a i, env, st => (ev a env st).bind fun x st1 => (ev i env st1).bind fun y st2 => .ofO (idxD x y) st2
  | .idxV j i, env, st => if seen env j = true then (ev i env st).bind fun y st1 => .ofO ((peekD env st1 j).bind fun x => idxD x y) st1 else .no
  | .sl a lo hi, env, st => (ev a env st).bind fun x st1 => (evO lo env st1).bind fun l st2 => (evO hi env st2).bind fun h st3 => .ofO (slD x l h) st3
  | .rev a, env, st => (ev a env st).bind fun x st1 => .ofO (revD x) st1
  | .tabGet t i, env, st => (ev i env st).bind fun x st1 => .ofO ((strD x).bind fun z => ((Fn.tab t).lookup z).map Lit.d) st1
  | .tabIn t neg i, env, st => (ev i env st).bind fun x st1 => .ofO (if (Fn.tab t).isEmpty = true then none else (strD x).map fun z => .bool (if neg then !((Fn.tab t).lookup z).isSome else ((Fn.tab t).lookup z).isSome)) st1
  | .dget i k, env, st => if (dctOf env i).isSome = true then (ev k env st).bind fun x st1 => .ofO ((dctOf env i).bind fun kvs => (keyD x).bind fun key => getK kvs key) st1 else .no
  | .dgetOr i k d, env, st => if (dctOf env i).isSome = true then (ev k env st).bind fun x st1 => (ev d env st1).bind fun y st2 => .ofO ((dctOf env i).bind fun kvs => (keyD x).map fun key => (getK kvs key).getD y) st2 else .no
  | .call f es, env, st => (evA es env st).bind fun as st1 => Fn.call f as st1
  | .meth c m o es, env, st => match selfOf env st c m o with
    | some s => (evA es env st).bind fun as st1 => noEx (Fn.meth c m (s :: as) st1)
    | none => .no
  | .att c o f, env, st => if Fn.att c f = true then .ofO (getA env st c o f) st else .no
  | .blt b es, env, st => (evs es env st).bind fun ds st1 => .ofO (bltD b ds) st1
  | .lenV j, env, st => .ofO ((peekD env st j).bind fun x => bltD .len [x]) st
  | .isi a t, env, st => (ev a env st).bind fun x st1 => .ok (.bool (isiD t x)) st1
  | .lrng a, env, st => (ev a env st).bind fun x st1 => .ofO (lrngD x) st1
  | .lc vs g it c e, env, st => if (gIn vs g && noOwn env vs) = true then (evI it env st).bind fun xs st1 =>
      (okL (lcL (fun x st2 => match setG g x (wipeE env vs) with
        | some env2 => (evC c env2 st2).bind fun t st3 => (match t with
          | true => (ev e env2 st3).bind fun y st4 => .ok [y] st4
          | false => .ok [] st3)
        | none => .no) xs st1)).bind fun ys st5 => .ok (.list ys) st5 else .no
  | .lc2 vs vs1 g it c g1 it1 c1 e, env, st => if (gIn vs g && gIn vs1 g1 && (vs1.all fun i => vs.contains i) && noOwn env vs) = true then (evI it env st).bind fun xs st1 =>
      (okL (lcL (fun x st2 => match setG g x (wipeE env vs) with
        | some env2 => (evC c env2 st2).bind fun t st3 => (match t with
          | true => (evI it1 env2 st3).bind fun xs1 st4 => lcL (fun x1 st5 => match setG g1 x1 (wipeE env2 vs1) with
            | some env3 => (evC c1 env3 st5).bind fun t1 st6 => (match t1 with
              | true => (ev e env3 st6).bind fun y st7 => .ok [y] st7
              | false => .ok [] st6)
            | none => .no) xs1 st4
          | false => .ok [] st3)
        | none => .no) xs st1)).bind fun ys st8 => .ok (.list ys) st8 else .no
  | .lenDc vs g it k v, env, st => if (gIn vs g && noOwn env vs) = true then (evI it env st).bind fun xs st1 =>
      (dcL (fun x st2 => match setG g x (wipeE env vs) with
        | some env2 => (ev k env2 st2).bind fun y st3 => (ev v env2 st3).bind fun z st4 => .ofO ((keyD y).map fun key => (key, z)) st4
        | none => .no) xs st1 []).bind fun kvs st5 => .ok (.int kvs.length) st5 else .no
def evs : Es → Env → Store → Out (List PyData)
  | .nil, _, st => .ok [] st
  | .cons e r, env, st => (ev e env st).bind fun x st1 => (evs r env st1).bind fun xs st2 => .ok (x :: xs) st2
def evA : As → Env → Store → Out (List Arg)
  | .nil, _, st => .ok [] st
  | .cons e r, env, st => (ev e env st).bind fun x st1 => (evA r env st1).bind fun xs st2 => .ok (.dat x :: xs) st2
  | .vr i r, env, st => match argOf env i with
    | some a => (evA r env st).bind fun xs st2 => .ok (a :: xs) st2
    | none => .no
def evO : O → Env → Store → Out (Option Int)
  | .none, _, st => .ok none st
  | .some e, env, st => (ev e env st).bind fun x st1 => .ofO ((partD x).map some) st1
def evT : T → Env → Store → Out Bool
  | .e e, env, st => (ev e env st).bind fun x st1 => .ofO (truth x) st1
  | .and a b, env, st => (evT a env st).bind fun x st1 => match x with
    | true => evT b env st1
    | false => .ok false st1
  | .or a b, env, st => (evT a env st).bind fun x st1 => match x with
    | true => .ok true st1
    | false => evT b env st1
  | .not a, env, st => (evT a env st).bind fun x st1 => .ok (!x) st1
def evC : C → Env → Store → Out Bool
  | .none, _, st => .ok true st
  | .some t, env, st => evT t env st
def evI : I → Env → Store → Out (List PyData)
  | .seq e, env, st => (ev e env st).bind fun x st1 => .ofO (seqD x) st1
  | .rng1 a, env, st => (ev a env st).bind fun x st1 => .ofO (rng1D x) st1
  | .rng2 a b, env, st => (ev a env st).bind fun x st1 => (ev b env st1).bind fun y st2 => .ofO (rng2D x y) st2
  | .rng3 a b c, env, st => (ev a env st).bind fun x st1 => (ev b env st1).bind fun y st2 => (ev c env st2).bind fun z st3 => .ofO (rng3D x y z) st3
  | .enum a, env, st => (ev a env st).bind fun x st1 => .ofO (enumD x) st1
  | .zip a b, env, st => (ev a env st).bind fun x st1 => (ev b env st1).bind fun y st2 => .ofO (zipD x y) st2
end

/-! ### statements -/
inductive Ou where
  | nxt (env : Env) (st : Store)
  | ret (d : PyData) (st : Store)
  | brk (env : Env) (st : Store)
  | cnt (env : Env) (st : Store)
  | ex (x : Str) (env : Env) (st : Store)
  | no
@[simp] def Out.thn {α : Type} (x : Out α) (env : Env) (f : α → Store → Ou) : Ou := match x with
  | .ok a st => f a st
  | .ex x st => .ex x env st
  | .no => .no
@[simp] def Ou.seq (x : Ou) (f : Env → Store → Ou) : Ou := match x with
  | .nxt env st => f env st
  | o => o
def noExO (x : Ou) : Ou := match x with
  | .ex _ _ _ => .no
  | o => o
def forL (g : Tg) (f : Env → Store → Ou) : List PyData → Env → Store → Ou
  | [], env, st => .nxt env st
  | x :: xs, env, st => match setG g x env with
    | some env1 => (match f env1 st with
      | .nxt env2 st2 => forL g f xs env2 st2
      | .cnt env2 st2 => forL g f xs env2 st2
      | .brk env2 st2 => .nxt env2 st2
      | o => o)
    | none => .no
def whileL (c : Env → Store → Out Bool) (f : Env → Store → Ou) : Nat → Env → Store → Ou
  | 0, _, _ => .no
  | n + 1, env, st => (c env st).thn env fun t st1 => match t with
    | false => .nxt env st1
    | true => (match f env st1 with
      | .nxt env2 st2 => whileL c f n env2 st2
      | .cnt env2 st2 => whileL c f n env2 st2
      | .brk env2 st2 => .nxt env2 st2
      | o => o)
def ex (wf : Nat) : S → Env → Store → Ou
  | .skip, env, st => .nxt env st
  | .drop e, env, st => (ev Fn e env st).thn env fun _ st1 => .nxt env st1
  | .asg i e, env, st => (ev Fn e env st).thn env fun d st1 => .nxt (env.set i (.dat d)) st1
  | .asgO i e, env, st => if isFresh e = true then (ev Fn e env st).thn env fun d st1 => match d with
    | .list ds => .nxt (env.set i (.lst ds)) st1
    | _ => .no else .no
  | .asgG g e, env, st => (ev Fn e env st).thn env fun d st1 => match setG g d env with
    | some env1 => .nxt env1 st1
    | none => .no
  | .par2 i j a b, env, st => (ev Fn a env st).thn env fun x st1 => (ev Fn b env st1).thn env fun y st2 => .nxt ((env.set i (.dat x)).set j (.dat y)) st2
  | .par3 i j k a b c, env, st => (ev Fn a env st).thn env fun x st1 => (ev Fn b env st1).thn env fun y st2 => (ev Fn c env st2).thn env fun z st3 =>
      .nxt (((env.set i (.dat x)).set j (.dat y)).set k (.dat z)) st3
  | .app i e, env, st => if isLst env i = true then (ev Fn e env st).thn env fun d st1 => match env[i]? with
    | some (.lst ds) => if okLen (ds.length + 1) = true then .nxt (env.set i (.lst (ds ++ [d]))) st1 else .no
    | _ => .no else .no
  | .setI i k e, env, st => if seen env i = true then (ev Fn e env st).thn env fun d st1 => (ev Fn k env st1).thn env fun x st2 => match partD x with
    | some z => (match env[i]? with
      | some (.lst ds) => (match L2.ixN ds.length z with
        | some j => .nxt (env.set i (.lst (ds.set j d))) st2
        | none => .no)
      | some (.obj o) => (match st2[o]? with
        | some (.ml ds) => (match L2.ixN ds.length z with
          | some j => .nxt env (st2.set o (.ml (ds.set j d)))
          | none => .no)
        | _ => .no)
      | _ => .no)
    | none => .no else .no
  | .set2 i1 i2 k1 k2 e1 e2, env, st => if (isLst env i1 && isLst env i2 && decide (i1 ≠ i2)) = true then (ev Fn e1 env st).thn env fun d1 st1 => (ev Fn e2 env st1).thn env fun d2 st2 => (ev Fn k1 env st2).thn env fun x1 st3 => match partD x1 with
    | some z1 => (match env[i1]? with
      | some (.lst ds1) => (match L2.ixN ds1.length z1 with
        | some j1 => let env1 := env.set i1 (.lst (ds1.set j1 d1)); (ev Fn k2 env1 st3).thn env1 fun x2 st4 => (match partD x2 with
          | some z2 => (match env1[i2]? with
            | some (.lst ds2) => (match L2.ixN ds2.length z2 with
              | some j2 => .nxt (env1.set i2 (.lst (ds2.set j2 d2))) st4
              | none => .no)
            | _ => .no)
          | none => .no)
        | none => .no)
      | _ => .no)
    | none => .no else .no
  | .asgD i kvs, env, st => if (decide (kvs.length ≤ 15) && keysOk kvs) = true then .nxt (env.set i (.dct (kvs.map fun kv => (kv.1, kv.2.d)))) st else .no
  | .dput i k e, env, st => if (dctOf env i).isSome = true then (ev Fn e env st).thn env fun d st1 => (ev Fn k env st1).thn env fun x st2 => match dctOf env i, keyD x with
    | some kvs, some key => if okLen (kvs.length + 1) = true then .nxt (env.set i (.dct (putKD kvs key d))) st2 else .no
    | _, _ => .no else .no
  | .setA c o f e, env, st => (ev Fn e env st).thn env fun d st1 => match (if Fn.att c f = true then putA env st1 c o f (.fz d) else none) with
    | some st2 => .nxt env st2
    | none => .no
  | .setAO c o f e, env, st => if isFresh e = true then (ev Fn e env st).thn env fun d st1 => match d with
    | .list ds => (match (if Fn.att c f = true then putA env st1 c o f (.own ds) else none) with
      | some st2 => .nxt env st2
      | none => .no)
    | _ => .no else .no
  | .appA c o f e, env, st => if (isAr e && (ownA env st c o f).isSome) = true then (ev Fn e env st).thn env fun d st1 => match (if Fn.att c f = true && (isIntD d || isVar e) then ownA env st1 c o f else none) with
    | some ds => if okLen (ds.length + 1) = true then (match putA env st1 c o f (.own (ds ++ [d])) with
      | some st2 => .nxt env st2
      | none => .no) else .no
    | none => .no else .no
  | .mk i c es, env, st => (evA Fn es env st).thn env fun as st1 => match Fn.make c (.obj st1.length :: as) (st1 ++ [.ins c []]) with
    | .ok _ st2 => .nxt (env.set i (.obj st1.length)) st2
    | _ => .no
  | .fz is, env, st => .nxt (fzE env is) st
  | .fzA c o f, env, st => match ownA env st c o f with
    | some ds => (match putA env st c o f (.fz (.list ds)) with
      | some st2 => .nxt env st2
      | none => .no)
    | none => .no
  | .ret e, env, st => (ev Fn e env st).thn env fun d st1 => .ret d st1
  | .retN, _, st => .ret .none st
  | .ife c a b, env, st => (evT Fn c env st).thn env fun t st1 => match t with
    | true => ex wf a env st1
    | false => ex wf b env st1
  | .sfor g it b, env, st => (evI Fn it env st).thn env fun xs st1 => forL g (ex wf b) xs env st1
  | .swhile c b, env, st => whileL (evT Fn c) (ex wf b) wf env st
  | .sraise x, env, st => .ex x env st
  | .stry b x h, env, st => match ex wf b env st with
    | .ex y env1 st1 => (match Fn.sub y x with
      | some true => noExO (ex wf h env1 st1)
      | some false => .ex y env1 st1
      | none => .no)
    | o => o
  | .seq a b, env, st => (ex wf a env st).seq fun env1 st1 => ex wf b env1 st1
end

/-! ### a program -/
structure Def where
  /-- parameters -/
  ps : Nat
  /-- names in all -/
  n : Nat
  body : S
structure Prog where
  defs : List (Str × Def)
  /-- methods by class and name -/
  meths : List ((Str × Str) × Def)
  tabs : List (Str × List (Str × Lit))
  atts : List (Str × List Str)
  /-- error classes, each with those that it is under (itself too) -/
  excs : List (Str × List Str)
def attOf (P : Prog) (c f : Str) : Bool := ((P.atts.lookup c).getD []).any fun g => decide (g = f)
def subOf (P : Prog) (y x : Str) : Option Bool := match P.excs.lookup y, P.excs.lookup x with
  | some l, some _ => some (l.any fun g => decide (g = x))
  | _, _ => none
/-- how a def ends -/
def endOf (st0 : Store) : Ou → Out PyData
  | .ret d st => .ok d (st.take st0.length)
  | .nxt _ st => .ok .none (st.take st0.length)
  | .ex x _ st => .ex x (st.take st0.length)
  | _ => .no
def startE (d : Def) (as : List Arg) : Env := as ++ List.replicate (d.n - d.ps) .no
def runDef (Fn : Fs) (wf : Nat) (d : Def) (as : List Arg) (st : Store) : Ou := if as.length = d.ps then ex Fn wf d.body (startE d as) st else .no
/-- all its calls, so deep -/
def fsOf (P : Prog) (wf : Nat) : Nat → Fs
  | 0 => ⟨fun _ _ _ => .no, fun _ _ _ _ => .no, fun _ _ _ => .no, fun t => (P.tabs.lookup t).getD [], attOf P, subOf P⟩
  | n + 1 => ⟨fun f as st => match P.defs.lookup f with
      | some d => endOf st (runDef (fsOf P wf n) wf d as st)
      | none => .no,
    fun c m as st => match P.meths.lookup (c, m) with
      | some d => endOf st (runDef (fsOf P wf n) wf d as st)
      | none => .no,
    fun c as st => match P.meths.lookup (c, ("__init__" : Str)) with
      | some d => (match runDef (fsOf P wf n) wf d as st with
        | .nxt _ st1 => .ok () (st1.take st.length)
        | .ret .none st1 => .ok () (st1.take st.length)
        | _ => .no)
      | none => .no,
    fun t => (P.tabs.lookup t).getD [], attOf P, subOf P⟩

/-! ### the law's own def -/
/-- the draws, at the start -/
def drawsD (ns : List Int) : List PyData := [.list (ns.map .int), .int 0, .int 0, .int 7]
/-- the state behind the first line -/
def lawEnv (n : Nat) : Env := .no :: .obj 0 :: List.replicate (n - 2) .no
def lawSt (ns : List Int) : Store := [.ml (drawsD ns)]
end Pm

/-! Pm2: the readings (HandS) of the small language; data in the abstract heap; what holds between two steps. -/
namespace Pm
open PySem PySem.Spec L2 RZ

/-! ### the readings -/
def litV : Lit → V
  | .non => .non
  | .bl b => .bl b
  | .int i => .int i
  | .str x => .str x
structure RdC where
  K : PySem.W.Frag
  w : World
  fsp : Str → Sp
  msp : Str → Str → Sp
  isp : Str → Sp
  ca : Str → Addr
  ta : Str → Addr
def R2.or (r r' : R2) : R2 := fun x y H Q => r x y H Q ∨ r' x y H Q
def rStrAdd : R2 := fun x y H Q => ∃ i j, x = .str i ∧ y = .str j ∧ i.length + j.length ≤ sizeLine ∧ Q (.str (i ++ j)) H
def rInStr : R2 := fun x y H Q => ∃ i j, x = .str i ∧ y = .str j ∧ Q (.bl (!(Builtin.Str.occurrences j i 0 j.length 1).isEmpty)) H
def rBin (K : PySem.W.Frag) : Bop → R2
  | .add => R2.or (rI0 fun i j => .int (i + j)) (R2.or rCat (R2.or (rCatA K) rStrAdd))
  | .sub => rI0 fun i j => .int (i - j)
  | .mul => R2.or (rI CMul fun i j => .int (i * j)) (R2.or (rI CMulW fun i j => .int (i * j)) (R2.or rRep (rRepT K)))
  | .fdiv => R2.or (rI CDiv fun i j => .int (i / j)) (rI CDivW fun i j => .int (i / j))
  | .mod => R2.or (rI (fun _ j => 0 < j) fun i j => .int (i % j)) (rI (fun _ j => j ≠ 0) fun i j => .int (i.fmod j))
  | .pow => rI CPow fun i j => .int (i ^ j.toNat)
def rCmp (K : PySem.W.Frag) : Cop → R2
  | .lt => rI0 fun i j => .bl (decide (i < j))
  | .le => rI0 fun i j => .bl (decide (i ≤ j))
  | .gt => rI0 fun i j => .bl (decide (j < i))
  | .ge => rI0 fun i j => .bl (decide (j ≤ i))
  | .eq => rEqD K
  | .ne => rNeD K
  | .inn => R2.or (rIn K false) (R2.or (rInD K) rInStr)
  | .nin => R2.or (rIn K true) (rNotInD K)
abbrev RC := List V → Hp → VK → Prop
def RC.or (r r' : RC) : RC := fun xs H Q => r xs H Q ∨ r' xs H Q
def rLen (K : PySem.W.Frag) : RC := fun xs H Q => ∃ x n, xs = [x] ∧ LenV K x H n ∧ Q (.int n) H
def rBltF (K : PySem.W.Frag) : Blt → RC
  | .len => rLen K
  | .abs => fun xs H Q => ∃ i, xs = [.int i] ∧ Q (.int (if i < 0 then -i else i)) H
  | .min => fun xs H Q => ∃ i j, xs = [.int i, .int j] ∧ Q (.int (if j < i then j else i)) H
  | .max => fun xs H Q => ∃ i j, xs = [.int i, .int j] ∧ Q (.int (if j > i then j else i)) H
  | .int => fun xs H Q => (∃ i, xs = [.int i] ∧ Q (.int i) H) ∨ ∃ k, xs = [.bl k] ∧ Q (.int (if k then 1 else 0)) H
  | .str => fun xs H Q => ∃ i, xs = [.int i] ∧ i.natAbs.log2 < 1920 ∧ Q (.str (toString i)) H
  | .list => fun xs H Q => ∃ p ys, xs = [.ref p] ∧ (SqL K H p ys ∨ SqT K H p ys) ∧ ∀ l, H l = none → Q (.ref l) (upd H l (.lst ys))
  | .tuple => fun xs H Q => ∃ p ys, xs = [.ref p] ∧ ((SqL K H p ys ∧ ∀ l, H l = none → Q (.ref l) (upd H l (.tup ys))) ∨ (SqT K H p ys ∧ Q (.ref p) H))
  | .sum => rSum K
  | .any => rAny K
  | .all => rAll K
  | .sorted => rSortedPO K
def tyS : Ty → String
  | .int => "int"
  | .bool => "bool"
  | .str => "str"
  | .list => "list"
  | .tuple => "tuple"
  | .dict => "dict"
def gLen : Tg → Nat
  | .nm _ => 0
  | .nil => 0
  | .tp _ r => gLen r + 1
mutual
def tG (K : PySem.W.Frag) : Tg → TG
  | .nm i => gName i
  | .nil => fun v σ H Q => gTup K 0 gNil v σ H Q ∨ gLst K 0 gNil v σ H Q
  | .tp g r => fun v σ H Q => gTup K (gLen r + 1) (gCons (tG K g) (tGs K r)) v σ H Q ∨ gLst K (gLen r + 1) (gCons (tG K g) (tGs K r)) v σ H Q
def tGs (K : PySem.W.Frag) : Tg → TGs
  | .nm _ => fun _ _ _ _ => False
  | .nil => gNil
  | .tp g r => gCons (tG K g) (tGs K r)
end
def rLenDc : RC := fun xs H Q => ∃ a kvs, xs = [V.ref a] ∧ H a = some (.dK kvs) ∧ Q (.int kvs.length) H
def tKD (K : PySem.W.Frag) (d : Addr) (neg : Bool) (ti : TE) : TE := tOp (fun x y H Q => ∃ (z : Str) (r : Option Value), x = .str z ∧ y = .ref d ∧ PySem.W.nsIn K d z = some r ∧ Q (.bl (if neg then !r.isSome else r.isSome)) H) ti (tC (.ref d))
abbrev EW := St → XK
def EW0 : EW := fun _ _ _ _ => False
section
variable (R : RdC)
mutual
def tE (W : EW) : E → TE
  | .var i => tVar i
  | .lit d => tC (litV d)
  | .glo _ d => tC (litV d)
  | .tup es => tTup (tEs W es)
  | .lst es => tLst (tEs W es)
  | .bin op a b => tOp (rBin R.K op) (tE W a) (tE W b)
  | .neg a => tUn (rU fun i => .int (-i)) (tE W a)
  | .not a => tNotV (tE W a)
  | .and a b => tAndV (tE W a) (tE W b)
  | .or a b => tOrV (tE W a) (tE W b)
  | .cmp op a b => tOp (rCmp R.K op) (tE W a) (tE W b)
  | .isN a => tIsN (tE W a)
  | .notN a => tNotN (tE W a)
  | .chain o1 o2 a b c => tChain (rCmp R.K o1) (rCmp R.K o2) (tE W a) (tE W b) (tE W c)
  | .ife c a b => tIf (tT W c) (tE W a) (tE W b)
  | .idx a i => tOp (rIx R.K) (tE W a) (tE W i)
  | .idxV j i => tOp (rIx R.K) (tVar j) (tE W i)
  | .sl a lo hi => tSl (fun x lo hi H Q => rSlL R.K x lo hi H Q ∨ rSlA R.K x lo hi H Q) (tE W a) (tO W lo) (tO W hi)
  | .rev a => tRevL R.K (tE W a)
  | .tabGet t i => tOp (rIxD R.K R.w) (tC (.ref (R.ta t))) (tE W i)
  | .tabIn t neg i => tKD R.K (R.ta t) neg (tE W i)
  | .dget i k => tDGet (tVar i) (tE W k)
  | .dgetOr i k d => tDGet2 (tVar i) (tE W k) (tE W d)
  | .call f es => fun σ H Q => tAs W es σ H fun vs H1 => R.fsp f vs H1 Q (W σ)
  | .meth c m o es => tMeth (R.ca c) m (R.msp c m) [] (fun _ _ _ => False) (tVar o) (tAs W es)
  | .att c o f => tFld R.K (tVar o) f
  | .blt b es => tCB (rBltF R.K b) (tEs W es)
  | .lenV j => tCB (rBltF R.K .len) (tCons (tVar j) tNil)
  | .isi a t => tCB (rIsi R.K) (tCons (tE W a) (tCons (tC (.ty (tyS t))) tNil))
  | .lrng a => tLstRg (tRg1 (tE W a))
  | .lc vs g it c e => tLc (tI W it) (tG R.K g) (tCd EW0 c) (tE EW0 e) vs
  | .lc2 vs vs1 g it c g1 it1 c1 e => tLc2 (tI W it) (tG R.K g) (tCd EW0 c) (tI EW0 it1) (tG R.K g1) (tCd EW0 c1) (tE EW0 e) vs vs1
  | .lenDc vs g it k v => tCB rLenDc (tCons (tDc (tI W it) (tG R.K g) tYes (tE EW0 k) (tE EW0 v) vs) tNil)
def tEs (W : EW) : Es → TA
  | .nil => tNil
  | .cons e r => tCons (tE W e) (tEs W r)
def tAs (W : EW) : As → TA
  | .nil => tNil
  | .cons e r => tCons (tE W e) (tAs W r)
  | .vr i r => tCons (tVar i) (tAs W r)
def tO (W : EW) : O → TO
  | .none => tNoPart
  | .some e => tPart (tE W e)
def tT (W : EW) : T → TT
  | .e e => fun σ H Q => tE W e σ H fun x H' => ∃ k, TruV R.K x H' k ∧ Q k H'
  | .and a b => tAnd (tT W a) (tT W b)
  | .or a b => tOr (tT W a) (tT W b)
  | .not a => tNot (tT W a)
def tCd (W : EW) : C → TT
  | .none => tYes
  | .some t => tT W t
def tI (W : EW) : I → TI
  | .seq e => fun σ H Rr => iList R.K (tE W e) σ H Rr ∨ iTup R.K (tE W e) σ H Rr
  | .rng1 a => iRng1 (tCons (tE W a) tNil)
  | .rng2 a b => iRng2 (tCons (tE W a) (tCons (tE W b) tNil))
  | .rng3 a b c => iRng3 (tCons (tE W a) (tCons (tE W b) (tCons (tE W c) tNil)))
  | .enum a => iEnum R.K (tCons (tE W a) tNil)
  | .zip a b => iZipA R.K (tCons (tE W a) (tCons (tE W b) tNil))
end
def tPairsOf (kvs : List (Sum Int Str × Lit)) : List (TE × TE) := kvs.map fun kv => (tC (kV kv.1), tC (litV kv.2))
def tS (W : WX) : S → TS
  | .skip => tNext
  | .drop e => tDrop (tE R (WE W) e)
  | .asg i e => tAsg (tE R (WE W) e) (gName i)
  | .asgO i e => tAsg (tE R (WE W) e) (gName i)
  | .asgG g e => tAsg (tE R (WE W) e) (tG R.K g)
  | .par2 i j a b => tPar i j (tCons (tE R (WE W) a) (tCons (tE R (WE W) b) tNil))
  | .par3 i j k a b c => tPar3 i j k (tCons (tE R (WE W) a) (tCons (tE R (WE W) b) (tCons (tE R (WE W) c) tNil)))
  | .app i e => tDrop (tBM R.K "list" rAppend (tVar i) (tCons (tE R (WE W) e) tNil))
  | .setI i k e => tAsg (tE R (WE W) e) (gSub (tVar i) (tE R (WE W) k) rSetL)
  | .set2 i j k1 k2 e1 e2 => tAsg (tTup (tCons (tE R (WE W) e1) (tCons (tE R (WE W) e2) tNil)))
      (gTup R.K 2 (gCons (gSub (tVar i) (tE R (WE W) k1) rSetL) (gCons (gSub (tVar j) (tE R (WE W) k2) rSetL) gNil)))
  | .asgD i kvs => match kvs with
    | [] => tAsg tDNewK (gName i)
    | kv :: r => tAsg (tDisp (tPairsOf (kv :: r))) (gName i)
  | .dput i k e => sDPut (tVar i) (tE R (WE W) k) (tE R (WE W) e)
  | .setA c o f e => sFld R.K (tVar o) (tE R (WE W) e) f
  | .setAO c o f e => sFld R.K (tVar o) (tE R (WE W) e) f
  | .appA c o f e => tDrop (tBM R.K "list" rAppend (tFld R.K (tVar o) f) (tCons (tE R (WE W) e) tNil))
  | .mk i c es => tAsg (tMake (R.ca c) (R.isp c) [] (fun _ _ _ => False) (tAs R (WE W) es)) (gName i)
  | .fz _ => tNext
  | .fzA _ _ _ => tNext
  | .ret e => tRet (tE R (WE W) e)
  | .retN => tRetN
  | .ife c a b => tIfS (tT R (WE W) c) (tS W a) (tS W b)
  | .sfor g it b => tFor (tI R (WE W) it) (tG R.K g) (tS W b)
  | .swhile c b => tWhile (tT R (WE W) c) (tS W b)
  | .sraise x => fun _ σ H => W (.ref (R.ca x)) none σ H
  | .stry b x h => fun D σ H => tS (wOnly R.K (.ref (R.ca x)) (fun _ _ _ => tS (fun _ _ _ _ => False) h) W D) b D σ H
  | .seq a b => tSeq (tS W a) (tS W b)
end

/-! ### data in the heap -/
mutual
inductive Rep (F : Hp) : V → PyData → Prop
  | non : Rep F .non .none
  | bl (b : Bool) : Rep F (.bl b) (.bool b)
  | int (i : Int) : Rep F (.int i) (.int i)
  | str (x : Str) : Rep F (.str x) (.str x)
  | lst {a : Addr} {xs : List V} {ds : List PyData} : F a = some (.lst xs) → RepA F xs ds → Rep F (.ref a) (.list ds)
  | tup {a : Addr} {xs : List V} {ds : List PyData} : F a = some (.tup xs) → RepA F xs ds → Rep F (.ref a) (.tuple ds)
inductive RepA (F : Hp) : List V → List PyData → Prop
  | nil : RepA F [] []
  | cons {v : V} {vs : List V} {d : PyData} {ds : List PyData} : Rep F v d → RepA F vs ds → RepA F (v :: vs) (d :: ds)
end
variable {F F' H H' : Hp}
mutual
theorem Rep.mono (s : Same F F') : ∀ {v : V} {d : PyData}, Rep F v d → Rep F' v d
  | _, _, .non => .non
  | _, _, .bl b => .bl b
  | _, _, .int i => .int i
  | _, _, .str x => .str x
  | _, _, .lst h r => .lst (s _ _ h) (RepA.mono s r)
  | _, _, .tup h r => .tup (s _ _ h) (RepA.mono s r)
theorem RepA.mono (s : Same F F') : ∀ {vs : List V} {ds : List PyData}, RepA F vs ds → RepA F' vs ds
  | _, _, .nil => .nil
  | _, _, .cons h r => .cons (Rep.mono s h) (RepA.mono s r)
end
theorem RepA.len : ∀ {vs : List V} {ds : List PyData}, RepA F vs ds → vs.length = ds.length
  | _, _, .nil => rfl
  | _, _, .cons _ r => congrArg (· + 1) (RepA.len r)
theorem RepA.app : ∀ {vs ws : List V} {ds es : List PyData}, RepA F vs ds → RepA F ws es → RepA F (vs ++ ws) (ds ++ es)
  | _, _, _, _, .nil, s => s
  | _, _, _, _, .cons h r, s => .cons h (RepA.app r s)
theorem RepA.get : ∀ {vs : List V} {ds : List PyData} {i : Nat} {v : V}, RepA F vs ds → vs[i]? = some v → ∃ d, ds[i]? = some d ∧ Rep F v d
  | _, _, _, _, .nil, h => by simp at h
  | _, _, 0, _, .cons h r, e => by simp at e; subst e; exact ⟨_, rfl, h⟩
  | _, _, i + 1, v, .cons h r, e => by
    obtain ⟨d, e1, e2⟩ := RepA.get (i := i) (v := v) r (by simpa using e)
    exact ⟨d, by simpa using e1, e2⟩
theorem RepA.getD : ∀ {vs : List V} {ds : List PyData} {i : Nat} {d : PyData}, RepA F vs ds → ds[i]? = some d → ∃ v, vs[i]? = some v ∧ Rep F v d
  | _, _, _, _, .nil, h => by simp at h
  | _, _, 0, _, .cons h r, e => by simp at e; subst e; exact ⟨_, rfl, h⟩
  | _, _, i + 1, d, .cons h r, e => by
    obtain ⟨v, e1, e2⟩ := RepA.getD (i := i) (d := d) r (by simpa using e)
    exact ⟨v, by simpa using e1, e2⟩
theorem RepA.take : ∀ {vs : List V} {ds : List PyData} (n : Nat), RepA F vs ds → RepA F (vs.take n) (ds.take n)
  | _, _, 0, _ => .nil
  | _, _, _ + 1, .nil => .nil
  | _, _, n + 1, .cons h r => .cons h (RepA.take n r)
theorem RepA.drop : ∀ {vs : List V} {ds : List PyData} (n : Nat), RepA F vs ds → RepA F (vs.drop n) (ds.drop n)
  | _, _, 0, r => r
  | _, _, _ + 1, .nil => .nil
  | _, _, n + 1, .cons _ r => RepA.drop n r
theorem RepA.set : ∀ {vs : List V} {ds : List PyData} {v : V} {d : PyData} (n : Nat), RepA F vs ds → Rep F v d → RepA F (vs.set n v) (ds.set n d)
  | _, _, _, _, _, .nil, _ => .nil
  | _, _, _, _, 0, .cons _ r, h => .cons h r
  | _, _, _, _, n + 1, .cons h0 r, h => .cons h0 (RepA.set n r h)
theorem RepA.rev : ∀ {vs : List V} {ds : List PyData}, RepA F vs ds → RepA F vs.reverse ds.reverse
  | _, _, .nil => .nil
  | _, _, .cons h r => by
    rw [List.reverse_cons, List.reverse_cons]
    exact RepA.app (RepA.rev r) (.cons h .nil)
theorem RepA.rep {vs : List V} {ds : List PyData} (h : RepA F vs ds) : ∀ k : Nat, RepA F (List.replicate k vs).flatten (List.replicate k ds).flatten
  | 0 => .nil
  | k + 1 => by
    rw [List.replicate_succ, List.replicate_succ, List.flatten_cons, List.flatten_cons]
    exact h.app (RepA.rep h k)
theorem litV_rep (d : Lit) : Rep F (litV d) d.d := by
  cases d with
  | non => exact .non
  | bl b => exact .bl b
  | int i => exact .int i
  | str x => exact .str x
mutual
theorem Rep.dp {K : PySem.W.Frag} (s : Same F H) : ∀ {v : V} {d : PyData}, Rep F v d → Dp K H v d
  | _, _, .non => .non
  | _, _, .bl b => .bl b
  | _, _, .int i => .int i
  | _, _, .str x => .str x
  | _, _, .lst h r => .lst (SqL.of (s _ _ h)) (RepA.dp s r)
  | _, _, .tup h r => .tup (SqT.of (s _ _ h)) (RepA.dp s r)
theorem RepA.dp {K : PySem.W.Frag} (s : Same F H) : ∀ {vs : List V} {ds : List PyData}, RepA F vs ds → DpAll K H vs ds
  | _, _, .nil => .nil
  | _, _, .cons h r => .cons (Rep.dp s h) (RepA.dp s r)
end

/-! ### who owns what -/
inductive Own where
  | slot (i : Nat)
  | obj (k : Nat)
  | fld (k : Nat) (f : Str)
  deriving DecidableEq
abbrev GO := Addr → Option Own
structure FldRep (H F : Hp) (G : GO) (k : Nat) (f : Str) (v : V) (x : Fld) : Prop where
  ok : match x with
    | .fz d => Rep F v d
    | .own ds => ∃ p vs, v = .ref p ∧ H p = some (.lst vs) ∧ G p = some (.fld k f) ∧ RepA F vs ds
inductive FldsRep (H F : Hp) (G : GO) (k : Nat) : List (Str × V) → List (Str × Fld) → Prop
  | nil : FldsRep H F G k [] []
  | cons {f : Str} {v : V} {x : Fld} {r : List (Str × V)} {s : List (Str × Fld)} : FldRep H F G k f v x → FldsRep H F G k r s → FldsRep H F G k ((f, v) :: r) ((f, x) :: s)
/-- object k of the store stands at a -/
def ObjRep (ca : Str → Addr) (H F : Hp) (G : GO) (k : Nat) (a : Addr) : Obj → Prop
  | .ml ds => ∃ vs, H a = some (.lst vs) ∧ RepA F vs ds
  | .ins c fs => ∃ dx vs, H a = some (.ins (ca c) dx vs) ∧ FldsRep H F G k vs fs ∧ (fs.map (·.1)).Nodup
/-- heap, frozen part, ownership, store -/
structure Ok (ca : Str → Addr) (st : Store) (H F : Hp) (G : GO) : Prop where
  sf : Same F H
  gf : ∀ a x, G a = some x → F a = none ∧ ∃ o, H a = some o
  gi : ∀ a b x, G a = some x → G b = some x → a = b
  go : ∀ k o, st[k]? = some o → ∃ a, G a = some (.obj k) ∧ ObjRep ca H F G k a o
  gk : ∀ a k, G a = some (.obj k) → k < st.length
  gl : ∀ a k f, G a = some (.fld k f) → k < st.length
/-- from one state to a later one: what is neither owned nor new stands as it was -/
structure Tr (H F : Hp) (G : GO) (H' F' : Hp) (G' : GO) : Prop where
  s0 : Same F F'
  kp : ∀ a o, H a = some o → G a = none → H' a = some o
  fr : ∀ a o, F' a = some o → F a = some o ∨ H a = none ∨ G a ≠ none
  gn : ∀ a x, G' a = some x → H a = none ∨ G a ≠ none
  ob : ∀ a k, G a = some (.obj k) → G' a = some (.obj k)
  th : ∀ a o, H a = some o → ∃ o', H' a = some o'
def SlotRep (H F : Hp) (G : GO) (i : Nat) (σ : St) : Slot → Prop
  | .no => True
  | .dat d => ∃ v, σ[i]? = some (some v) ∧ Rep F v d
  | .lst ds => ∃ p vs, σ[i]? = some (some (.ref p)) ∧ H p = some (.lst vs) ∧ G p = some (.slot i) ∧ RepA F vs ds
  | .dct kvs => ∃ p ks, σ[i]? = some (some (.ref p)) ∧ H p = some (.dK ks) ∧ G p = some (.slot i) ∧ ks.map (·.1) = kvs.map (·.1) ∧ RepA F (ks.map (·.2)) (kvs.map (·.2))
  | .obj k => ∃ a, G a = some (.obj k) ∧ σ[i]? = some (some (.ref a))
def EnvRep (env : Env) (H F : Hp) (G : GO) (σ : St) : Prop := σ.length = env.length ∧ ∀ i s, env[i]? = some s → SlotRep H F G i σ s
structure SI (ca : Str → Addr) (env : Env) (st : Store) (σ : St) (H F : Hp) (G : GO) : Prop where
  ok : Ok ca st H F G
  en : EnvRep env H F G σ

variable {ca : Str → Addr} {env : Env} {st st' : Store} {σ : St} {G G' : GO} {p : Addr} {o : HO}
theorem Tr.refl (H F : Hp) (G : GO) : Tr H F G H F G := ⟨Same.refl _, fun _ _ h _ => h, fun _ _ h => .inl h, fun _ _ h => .inr (by rw [h]; simp), fun _ _ h => h, fun _ o h => ⟨o, h⟩⟩
theorem Tr.trans {H1 F1 H2 F2 H3 F3 : Hp} {G1 G2 G3 : GO} (a : Tr H1 F1 G1 H2 F2 G2) (b : Tr H2 F2 G2 H3 F3 G3) : Tr H1 F1 G1 H3 F3 G3 := by
  have g2 : ∀ c, H1 c ≠ none → G1 c = none → G2 c = none := fun c h g => by
    cases e : G2 c with
    | none => rfl
    | some x => rcases a.gn c x e with z | z
                · exact absurd z h
                · exact absurd g z
  have h2 : ∀ c, H2 c = none → H1 c = none ∨ G1 c ≠ none := fun c e => by
    cases e1 : H1 c with
    | none => exact .inl rfl
    | some o =>
      refine .inr fun g => ?_
      rw [a.kp c o e1 g] at e
      cases e
  refine ⟨a.s0.trans b.s0, fun c o h g => b.kp c o (a.kp c o h g) (g2 c (by rw [h]; simp) g), fun c o h => ?_, fun c x h => ?_, fun c k h => b.ob c k (a.ob c k h), fun c o h => by
    obtain ⟨o', h'⟩ := a.th c o h
    exact b.th c o' h'⟩
  · rcases b.fr c o h with z | z | z
    · exact a.fr c o z
    · exact .inr (h2 c z)
    · cases e : G2 c with
      | none => exact absurd e z
      | some x => exact .inr (a.gn c x e)
  · rcases b.gn c x h with z | z
    · exact h2 c z
    · cases e : G2 c with
      | none => exact absurd e z
      | some y => exact a.gn c y e
theorem Ok.free (k : Ok ca st H F G) (h : H p = none) : F p = none ∧ G p = none := by
  constructor
  · cases e : F p with
    | none => rfl
    | some o => rw [k.sf _ _ e] at h; cases h
  · cases e : G p with
    | none => rfl
    | some x =>
      obtain ⟨_, o, q⟩ := k.gf _ _ e
      rw [q] at h
      cases h
theorem same_upd (h : H p = none) : Same H (upd H p o) := fun b x e => by
  rw [upd_ne (ne_of_none e h)]
  exact e
theorem same_upd2 (s : Same F H) : Same (upd F p o) (upd H p o) := fun b x e => by
  by_cases q : b = p
  · subst q
    rw [upd_same] at e ⊢
    exact e
  · rw [upd_ne q] at e ⊢
    exact s b x e
/-- what is owned stands, what is frozen stays frozen: the data stand -/
theorem FldsRep.mono {k : Nat} (hh : ∀ a x, G a = some x → H' a = H a) (s : Same F F') : ∀ {vs : List (Str × V)} {fs : List (Str × Fld)}, FldsRep H F G k vs fs → FldsRep H' F' G k vs fs
  | _, _, .nil => .nil
  | _, _, .cons (x := x) ⟨h⟩ r => .cons ⟨by
      cases x with
      | fz d => exact Rep.mono s h
      | own ds =>
        obtain ⟨p, vs, e1, e2, e3, e4⟩ := h
        exact ⟨p, vs, e1, by rw [hh _ _ e3]; exact e2, e3, e4.mono s⟩⟩ (FldsRep.mono hh s r)
theorem ObjRep.mono {k : Nat} {a : Addr} {x : Obj} (hh : ∀ a x, G a = some x → H' a = H a) (s : Same F F') (ha : G a = some (.obj k)) (h : ObjRep ca H F G k a x) : ObjRep ca H' F' G k a x := by
  cases x with
  | ml ds =>
    obtain ⟨vs, e1, e2⟩ := h
    exact ⟨vs, by rw [hh _ _ ha]; exact e1, e2.mono s⟩
  | ins c fs =>
    obtain ⟨dx, vs, e1, e2, e3⟩ := h
    exact ⟨dx, vs, by rw [hh _ _ ha]; exact e1, e2.mono hh s, e3⟩
theorem SlotRep.mono {i : Nat} {s : Slot} (hh : ∀ a x, G a = some x → H' a = H a) (sm : Same F F') (h : SlotRep H F G i σ s) : SlotRep H' F' G i σ s := by
  cases s with
  | no => trivial
  | dat d =>
    obtain ⟨v, e, r⟩ := h
    exact ⟨v, e, r.mono sm⟩
  | lst ds =>
    obtain ⟨p, vs, e, h1, g, r⟩ := h
    exact ⟨p, vs, e, by rw [hh _ _ g]; exact h1, g, r.mono sm⟩
  | dct kvs =>
    obtain ⟨p, ks, e, h1, g, q, r⟩ := h
    exact ⟨p, ks, e, by rw [hh _ _ g]; exact h1, g, q, r.mono sm⟩
  | obj k => exact h
theorem EnvRep.mono (hh : ∀ a x, G a = some x → H' a = H a) (sm : Same F F') (h : EnvRep env H F G σ) : EnvRep env H' F' G σ := ⟨h.1, fun i s e => (h.2 i s e).mono hh sm⟩
/-- nothing owned is touched, the frozen part grows by what stands and is not owned -/
theorem Ok.step (k : Ok ca st H F G) (hh : ∀ a x, G a = some x → H' a = H a) (s : Same F F') (sf : Same F' H') (nf : ∀ a x, G a = some x → F' a = none) : Ok ca st H' F' G where
  sf := sf
  gf := fun a x e => ⟨nf a x e, by
    obtain ⟨_, o, q⟩ := k.gf a x e
    exact ⟨o, by rw [hh a x e]; exact q⟩⟩
  gi := k.gi
  go := fun i o e => by
    obtain ⟨a, g, r⟩ := k.go i o e
    exact ⟨a, g, r.mono hh s g⟩
  gk := k.gk
  gl := k.gl
theorem SI.step (k : SI ca env st σ H F G) (hh : ∀ a x, G a = some x → H' a = H a) (s : Same F F') (sf : Same F' H') (nf : ∀ a x, G a = some x → F' a = none) : SI ca env st σ H' F' G := ⟨k.ok.step hh s sf nf, k.en.mono hh s⟩
theorem own_ne (k : Ok ca st H F G) (h : H p = none) {a : Addr} {x : Own} (g : G a = some x) : a ≠ p := fun e => by
  subst e
  rw [(k.free h).2] at g
  cases g
/-- a new value -/
theorem SI.alloc (k : SI ca env st σ H F G) (h : H p = none) : SI ca env st σ (upd H p o) (upd F p o) G :=
  k.step (fun a x g => upd_ne (own_ne k.ok h g)) (same_upd (k.ok.free h).1) (same_upd2 k.ok.sf) fun a x g => by
    rw [upd_ne (own_ne k.ok h g)]
    exact (k.ok.gf a x g).1
theorem Tr.alloc (k : Ok ca st H F G) (h : H p = none) : Tr H F G (upd H p o) (upd F p o) G :=
  ⟨same_upd (k.free h).1, fun a x e _ => same_upd h a x e, fun a x e => by
    by_cases q : a = p
    · subst q; exact .inr (.inl h)
    · rw [upd_ne q] at e; exact .inl e, fun a x g => .inr (by rw [g]; simp), fun _ _ g => g, fun a x e => ⟨x, same_upd h a x e⟩⟩
/-- a new list of one's own -/
theorem SI.fresh (k : SI ca env st σ H F G) (h : H p = none) : SI ca env st σ (upd H p o) F G :=
  k.step (fun a x g => upd_ne (own_ne k.ok h g)) (Same.refl _) (k.ok.sf.trans (same_upd h)) fun a x g => (k.ok.gf a x g).1
theorem Tr.fresh (h : H p = none) : Tr H F G (upd H p o) F G :=
  ⟨Same.refl _, fun a x e _ => same_upd h a x e, fun a x e => .inl e, fun a x g => .inr (by rw [g]; simp), fun _ _ g => g, fun a x e => ⟨x, same_upd h a x e⟩⟩
/-- .. changed -/
theorem SI.chg (k : SI ca env st σ H F G) (hf : F p = none) (hg : G p = none) : SI ca env st σ (upd H p o) F G :=
  k.step (fun a x g => upd_ne (fun e => by subst e; rw [hg] at g; cases g)) (Same.refl _) (fun b x e => by
    rw [upd_ne (fun q => by subst q; rw [hf] at e; cases e)]
    exact k.ok.sf b x e) fun a x g => (k.ok.gf a x g).1
theorem Tr.chg {H0 F0 : Hp} {G0 : GO} (t : Tr H0 F0 G0 H F G) (h0 : H0 p = none) : Tr H0 F0 G0 (upd H p o) F G :=
  ⟨t.s0, fun a x e g => by rw [upd_ne (ne_of_none e h0)]; exact t.kp a x e g, t.fr, t.gn, t.ob, fun a x e => by rw [upd_ne (ne_of_none e h0)]; exact t.th a x e⟩
/-- .. made a value -/
theorem SI.frz (k : SI ca env st σ H F G) (h : H p = some o) (hf : F p = none) (hg : G p = none) : SI ca env st σ H (upd F p o) G :=
  k.step (fun _ _ _ => rfl) (same_upd hf) (fun b x e => by
    by_cases q : b = p
    · subst q; rw [upd_same] at e; cases e; exact h
    · rw [upd_ne q] at e; exact k.ok.sf b x e) fun a x g => by
    rw [upd_ne (fun e => by subst e; rw [hg] at g; cases g)]
    exact (k.ok.gf a x g).1
theorem Tr.frz {H0 F0 : Hp} {G0 : GO} (t : Tr H0 F0 G0 H F G) (h0 : H0 p = none) (hf : F p = none) : Tr H0 F0 G0 H (upd F p o) G :=
  ⟨t.s0.trans (same_upd hf), t.kp, fun a x e => by
    by_cases q : a = p
    · subst q; exact .inr (.inl h0)
    · rw [upd_ne q] at e; exact t.fr a x e, t.gn, t.ob, t.th⟩
/-- a foreign thing stays so -/
theorem Tr.keep (t : Tr H F G H' F' G') {a : Addr} {x : HO} (h : H a = some x) (hf : F a = none) (hg : G a = none) : H' a = some x ∧ F' a = none ∧ G' a = none := by
  refine ⟨t.kp a x h hg, ?_, ?_⟩
  · cases e : F' a with
    | none => rfl
    | some y => rcases t.fr a y e with z | z | z
                · rw [hf] at z; cases z
                · rw [h] at z; cases z
                · exact absurd hg z
  · cases e : G' a with
    | none => rfl
    | some y => rcases t.gn a y e with z | z
                · rw [h] at z; cases z
                · exact absurd hg z

/-! ### what is wanted of an outcome -/
def PX {α : Type} (ca : Str → Addr) (W : EW) (env : Env) (σ : St) (r : Out α) (H F : Hp) (G : GO) (K : α → Store → Hp → Hp → GO → Prop) : Prop := match r with
  | .ok a st' => ∀ H' F' G', SI ca env st' σ H' F' G' → Tr H F G H' F' G' → K a st' H' F' G'
  | .ex x st' => ∀ H' F' G', SI ca env st' σ H' F' G' → Tr H F G H' F' G' → W σ (.ref (ca x)) none H'
  | .no => False
theorem PX.bind {α β : Type} {W : EW} {r : Out α} {f : α → Store → Out β} {K : β → Store → Hp → Hp → GO → Prop} (h : PX ca W env σ (r.bind f) H F G K) : PX ca W env σ r H F G (fun a st1 H1 F1 G1 => PX ca W env σ (f a st1) H1 F1 G1 K) := by
  cases r with
  | no => exact h
  | ex x st' => exact h
  | ok a st' =>
    intro H' F' G' s t
    have h1 : PX ca W env σ (f a st') H F G K := h
    cases e : f a st' with
    | no => rw [e] at h1; exact h1
    | ex x st2 =>
      rw [e] at h1
      exact fun H2 F2 G2 s2 t2 => h1 H2 F2 G2 s2 (t.trans t2)
    | ok b st2 =>
      rw [e] at h1
      exact fun H2 F2 G2 s2 t2 => h1 H2 F2 G2 s2 (t.trans t2)
theorem PX.mono {α : Type} {W : EW} {r : Out α} {K K' : α → Store → Hp → Hp → GO → Prop} (h : PX ca W env σ r H F G K)
    (m : ∀ a st' H' F' G', SI ca env st' σ H' F' G' → Tr H F G H' F' G' → K a st' H' F' G' → K' a st' H' F' G') : PX ca W env σ r H F G K' := by
  cases r with
  | no => exact h
  | ex x st' => exact h
  | ok a st' => exact fun H' F' G' s t => m a st' H' F' G' s t (h H' F' G' s t)
theorem PX.ofO {α : Type} {W : EW} {o : Option α} {K : α → Store → Hp → Hp → GO → Prop} (h : PX ca W env σ (Out.ofO o st) H F G K) : ∃ a, o = some a ∧ ∀ H' F' G', SI ca env st σ H' F' G' → Tr H F G H' F' G' → K a st H' F' G' := by
  cases o with
  | none => exact h.elim
  | some a => exact ⟨a, rfl, h⟩
end Pm

set_option maxHeartbeats 1000000
/-! Pm3: the operations upon data keep their readings. -/
namespace Pm
open PySem PySem.Spec L2 RZ
section
variable {ca : Str → Addr} {env : Env} {st : Store} {σ : St} {H F : Hp} {G : GO} {Q : VK} {K : PySem.W.Frag}
/-- what is wanted of a value d -/
def KV (ca : Str → Addr) (env : Env) (st : Store) (σ : St) (H F : Hp) (G : GO) (Q : VK) (d : PyData) : Prop := ∀ v H' F' G', SI ca env st σ H' F' G' → Tr H F G H' F' G' → Rep F' v d → Q v H'
theorem KV.here {v : V} {d : PyData} (k : KV ca env st σ H F G Q d) (s : SI ca env st σ H F G) (r : Rep F v d) : Q v H := k v H F G s (Tr.refl _ _ _) r
theorem KV.lst {vs : List V} {ds : List PyData} (k : KV ca env st σ H F G Q (.list ds)) (s : SI ca env st σ H F G) (r : RepA F vs ds) : ∀ p, H p = none → Q (.ref p) (upd H p (.lst vs)) := fun p hp =>
  k _ _ _ _ (s.alloc hp) (Tr.alloc s.ok hp) (.lst upd_same (r.mono (same_upd (s.ok.free hp).1)))
theorem KV.tup {vs : List V} {ds : List PyData} (k : KV ca env st σ H F G Q (.tuple ds)) (s : SI ca env st σ H F G) (r : RepA F vs ds) : ∀ p, H p = none → Q (.ref p) (upd H p (.tup vs)) := fun p hp =>
  k _ _ _ _ (s.alloc hp) (Tr.alloc s.ok hp) (.tup upd_same (r.mono (same_upd (s.ok.free hp).1)))
theorem okLen_le {n : Nat} (h : okLen n = true) : n ≤ sizeLine := of_decide_eq_true h
theorem len_eq {vs : List V} {ds : List PyData} (r : RepA F vs ds) (h : okLen ds.length = true) : vs.length ≤ sizeLine := by
  rw [r.len]
  exact okLen_le h
theorem binSound {op : Bop} {x y d : PyData} {v1 v2 : V} (s : SI ca env st σ H F G) (r1 : Rep F v1 x) (r2 : Rep F v2 y) (h : binD op x y = some d) (k : KV ca env st σ H F G Q d) : rBin K op v1 v2 H Q := by
  unfold binD at h
  split at h
  · cases h
    cases r1
    cases r2
    exact .inl ⟨_, _, rfl, rfl, k.here s (.int _)⟩
  · split at h
    · rename_i hl
      cases h
      cases r1 with
      | lst h1 a1 => cases r2 with
        | lst h2 a2 =>
          refine .inr (.inl ⟨_, _, _, _, rfl, rfl, s.ok.sf _ _ h1, s.ok.sf _ _ h2, ?_, k.lst s (a1.app a2)⟩)
          rw [a1.len, a2.len]
          exact okLen_le hl
    · cases h
  · split at h
    · rename_i hl
      cases h
      cases r1 with
      | tup h1 a1 => cases r2 with
        | tup h2 a2 =>
          refine .inr (.inr (.inl ⟨_, _, _, _, rfl, rfl, SqT.of (s.ok.sf _ _ h1), SqT.of (s.ok.sf _ _ h2), ?_, fun e => ?_, fun e1 e2 => ?_, fun _ _ => k.tup s (a1.app a2)⟩))
          · rw [a1.len, a2.len]
            exact okLen_le hl
          · subst e
            cases a1
            exact k.here s (.tup h2 a2)
          · subst e2
            cases a2
            rw [List.append_nil] at k
            exact k.here s (.tup h1 a1)
    · cases h
  · split at h
    · rename_i hl
      cases h
      cases r1
      cases r2
      exact .inr (.inr (.inr ⟨_, _, rfl, rfl, okLen_le hl, k.here s (.str _)⟩))
    · cases h
  · cases h
    cases r1
    cases r2
    exact ⟨_, _, rfl, rfl, k.here s (.int _)⟩
  · split at h
    · rename_i i j hl
      cases h
      cases r1
      cases r2
      unfold okMul at hl
      rw [Bool.or_eq_true, Bool.or_eq_true, Bool.and_eq_true, Bool.and_eq_true] at hl
      rcases hl with (⟨a, b⟩ | ⟨a, b⟩) | a
      · exact .inl ⟨_, _, rfl, rfl, .inl ⟨of_decide_eq_true a, of_decide_eq_true b⟩, k.here s (.int _)⟩
      · exact .inl ⟨_, _, rfl, rfl, .inr ⟨of_decide_eq_true a, of_decide_eq_true b⟩, k.here s (.int _)⟩
      · have a2 : i.natAbs.log2 + j.natAbs.log2 < 1000000 := of_decide_eq_true a
        exact .inr (.inl ⟨_, _, rfl, rfl, a2, k.here s (.int _)⟩)
    · cases h
  · split at h
    · rename_i xs kk hl
      cases h
      rw [Bool.and_eq_true, Bool.and_eq_true] at hl
      have h1 := of_decide_eq_true hl.1.1
      have h2 := of_decide_eq_true hl.1.2
      have h3 := of_decide_eq_true hl.2
      cases r2
      cases r1 with
      | lst g1 a1 =>
        refine .inr (.inr (.inl ⟨_, _, _, rfl, rfl, s.ok.sf _ _ g1, by omega, by omega, ?_, k.lst s (a1.rep _)⟩))
        rw [a1.len]
        have e : xs.length * kk.toNat ≤ 1000 * 1000 := Nat.mul_le_mul h3 (by omega)
        exact Nat.le_trans e (by decide)
    · cases h
  · split at h
    · rename_i xs kk hl
      cases h
      rw [Bool.and_eq_true, Bool.and_eq_true, Bool.and_eq_true] at hl
      have h1 := of_decide_eq_true hl.1.1.1
      have h2 := of_decide_eq_true hl.1.1.2
      have h3 := of_decide_eq_true hl.1.2
      cases r2
      cases r1 with
      | tup g1 a1 =>
        refine .inr (.inr (.inr ⟨_, _, _, rfl, rfl, SqT.of (s.ok.sf _ _ g1), fun e => ?_, by omega, by omega, by rw [a1.len]; exact h3, k.tup s (a1.rep _)⟩))
        subst e
        cases a1
        simp at hl
    · cases h
  · split at h
    · rename_i i j hl
      cases h
      cases r1
      cases r2
      unfold okDiv at hl
      rw [Bool.and_eq_true, Bool.or_eq_true] at hl
      rcases hl.2 with a | a
      · exact .inl ⟨_, _, rfl, rfl, ⟨of_decide_eq_true hl.1, of_decide_eq_true a⟩, k.here s (.int _)⟩
      · exact .inr ⟨_, _, rfl, rfl, ⟨of_decide_eq_true hl.1, of_decide_eq_true a⟩, k.here s (.int _)⟩
    · cases h
  · cases r1
    cases r2
    split at h
    · rename_i hl
      cases h
      exact .inl ⟨_, _, rfl, rfl, hl, k.here s (.int _)⟩
    · split at h
      · rename_i hl
        cases h
        exact .inr ⟨_, _, rfl, rfl, hl, k.here s (.int _)⟩
      · cases h
  · split at h
    · rename_i i j hl
      cases h
      cases r1
      cases r2
      rw [Bool.and_eq_true, Bool.and_eq_true] at hl
      exact ⟨_, _, rfl, rfl, ⟨of_decide_eq_true hl.1.1, of_decide_eq_true hl.1.2, of_decide_eq_true hl.2⟩, k.here s (.int _)⟩
    · cases h
  · cases h
theorem flat_V {v : V} {d : PyData} (r : Rep F v d) (h : flatD d = true) : flatV v = true := by
  cases r with
  | lst _ _ => cases h
  | tup _ _ => cases h
  | _ => rfl
theorem flat_VA : ∀ {vs : List V} {ds : List PyData}, RepA F vs ds → ds.all flatD = true → vs.all flatV = true
  | _, _, .nil, _ => rfl
  | _, _, .cons h r, e => by
    rw [List.all_cons, Bool.and_eq_true] at e
    rw [List.all_cons, flat_V h e.1, flat_VA r e.2] <;> rfl
theorem eqV_D {v w : V} {d e : PyData} (r : Rep F v d) (r' : Rep F w e) (h : flatD d = true) (h' : flatD e = true) : eqV v w = PyData.eqv d e := by
  cases r with
  | lst _ _ => cases h
  | tup _ _ => cases h
  | _ => cases r' with
    | lst _ _ => cases h'
    | tup _ _ => cases h'
    | _ => simp [eqV, PyData.eqv]
theorem inV_D {v : V} {d : PyData} (r : Rep F v d) (h : flatD d = true) : ∀ {vs : List V} {ds : List PyData}, RepA F vs ds → ds.all flatD = true → inV v vs = ds.any fun y => PyData.eqv y d
  | _, _, .nil, _ => rfl
  | _, _, .cons q rr, e => by
    rw [List.all_cons, Bool.and_eq_true] at e
    have ih := inV_D r h rr e.2
    unfold inV at ih ⊢
    rw [List.any_cons, List.any_cons, ih, eqV_D q r e.1 h]
theorem cmpSound {op : Cop} {x y : PyData} {b : Bool} {v1 v2 : V} (s : SI ca env st σ H F G) (r1 : Rep F v1 x) (r2 : Rep F v2 y) (h : cmpD op x y = some b) (k : Q (.bl b) H) : rCmp K op v1 v2 H Q := by
  unfold cmpD at h
  split at h
  · cases h; cases r1; cases r2
    exact ⟨_, _, rfl, rfl, k⟩
  · cases h; cases r1; cases r2
    exact ⟨_, _, rfl, rfl, k⟩
  · cases h; cases r1; cases r2
    exact ⟨_, _, rfl, rfl, k⟩
  · cases h; cases r1; cases r2
    exact ⟨_, _, rfl, rfl, k⟩
  · split at h
    · rename_i hl
      cases h
      rw [Bool.and_eq_true] at hl
      exact ⟨_, _, r1.dp s.ok.sf, r2.dp s.ok.sf, hl.1, hl.2, k⟩
    · cases h
  · split at h
    · rename_i hl
      cases h
      rw [Bool.and_eq_true] at hl
      exact ⟨_, _, r1.dp s.ok.sf, r2.dp s.ok.sf, hl.1, hl.2, k⟩
    · cases h
  · unfold inD at h
    cases r2 with
    | lst g a =>
      split at h
      · rename_i hl
        cases h
        rw [Bool.and_eq_true] at hl
        refine .inl ⟨_, _, rfl, .inl (SqL.of (s.ok.sf _ _ g)), flat_V r1 hl.1, flat_VA a hl.2, ?_⟩
        show Q (.bl (if false = true then _ else inV _ _)) H
        rw [if_neg Bool.false_ne_true, inV_D r1 hl.1 a hl.2]
        exact k
      · split at h
        · rename_i hl
          cases h
          rw [Bool.and_eq_true] at hl
          exact .inr (.inl ⟨_, _, r1.dp s.ok.sf, (Rep.lst g a).dp s.ok.sf, hl.1, hl.2, k⟩)
        · cases h
  · cases r2 with
    | tup g a =>
      split at h
      · rename_i hl
        cases h
        rw [Bool.and_eq_true] at hl
        refine .inl ⟨_, _, rfl, .inr (SqT.of (s.ok.sf _ _ g)), flat_V r1 hl.1, flat_VA a hl.2, ?_⟩
        show Q (.bl (if false = true then _ else inV _ _)) H
        rw [if_neg Bool.false_ne_true, inV_D r1 hl.1 a hl.2]
        exact k
      · cases h
  · cases h; cases r1; cases r2
    exact .inr (.inr ⟨_, _, rfl, rfl, k⟩)
  · unfold inD at h
    cases r2 with
    | lst g a =>
      split at h
      · rename_i hl
        cases h
        rw [Bool.and_eq_true] at hl
        refine .inl ⟨_, _, rfl, .inl (SqL.of (s.ok.sf _ _ g)), flat_V r1 hl.1, flat_VA a hl.2, ?_⟩
        show Q (.bl (if true = true then !inV _ _ else _)) H
        rw [if_pos rfl, inV_D r1 hl.1 a hl.2]
        exact k
      · split at h
        · rename_i hl
          cases h
          rw [Bool.and_eq_true] at hl
          exact .inr ⟨_, _, r1.dp s.ok.sf, (Rep.lst g a).dp s.ok.sf, hl.1, hl.2, k⟩
        · cases h
  · cases h
theorem truSound {x : PyData} {b : Bool} {v : V} (s : SI ca env st σ H F G) (r : Rep F v x) (h : truth x = some b) : TruV K v H b := by
  unfold truth at h
  cases r with
  | non => cases h; rfl
  | bl b => cases h; rfl
  | int i => cases h; rfl
  | str y =>
    dsimp only at h
    split at h
    · rename_i hl
      cases h
      exact ⟨okLen_le hl, rfl⟩
    · cases h
  | @lst a vs ds g q =>
    cases h
    refine .inl ⟨_, SqL.of (s.ok.sf _ _ g), ?_⟩
    cases q <;> rfl
  | @tup a vs ds g q =>
    cases h
    refine .inr (.inl ⟨_, SqT.of (s.ok.sf _ _ g), ?_⟩)
    cases q <;> rfl
theorem atI_rep {vs : List V} {ds : List PyData} {i : Int} {d : PyData} (a : RepA F vs ds) (h : atI ds i = some d) : ∃ v, atI vs i = some v ∧ Rep F v d := by
  unfold atI at h ⊢
  rw [a.len]
  cases e : ixN ds.length i with
  | none => rw [e] at h; cases h
  | some j =>
    rw [e] at h
    have h1 : ds[j]? = some d := h
    obtain ⟨v, e1, e2⟩ := a.getD h1
    exact ⟨v, e1, e2⟩
/-- .. of a list or tuple that stands in the heap, its items frozen -/
theorem idxSoundL {ds : List PyData} {vs : List V} {p : Addr} {i : Int} {d : PyData} (s : SI ca env st σ H F G) (hp : H p = some (.lst vs)) (a : RepA F vs ds) (h : atI ds i = some d) (k : KV ca env st σ H F G Q d) : rIx K (.ref p) (.int i) H Q := by
  obtain ⟨v, e1, e2⟩ := atI_rep a h
  exact .inl ⟨_, _, _, _, rfl, rfl, SqL.of hp, e1, k.here s e2⟩
theorem idxSound {x y d : PyData} {v1 v2 : V} (s : SI ca env st σ H F G) (r1 : Rep F v1 x) (r2 : Rep F v2 y) (h : idxD x y = some d) (k : KV ca env st σ H F G Q d) : rIx K v1 v2 H Q := by
  unfold idxD at h
  split at h
  · cases r2
    cases r1 with
    | lst g a => exact idxSoundL s (s.ok.sf _ _ g) a h k
  · cases r2
    cases r1 with
    | tup g a =>
      obtain ⟨v, e1, e2⟩ := atI_rep a h
      exact .inr (.inl ⟨_, _, _, _, rfl, rfl, SqT.of (s.ok.sf _ _ g), e1, k.here s e2⟩)
  · rename_i z i
    cases r1
    cases r2
    split at h
    · rename_i hl
      cases e : atI z.cps.toList i with
      | none => rw [e] at h; cases h
      | some c =>
        rw [e] at h
        cases h
        exact .inr (.inr ⟨_, _, _, rfl, rfl, okLen_le hl, e, k.here s (.str _)⟩)
    · cases h
  · cases h
theorem cut_rep {vs : List V} {ds : List PyData} {lo hi : Option Int} (a : RepA F vs ds) : RepA F (cutV vs lo hi) (cutD ds lo hi) := by
  unfold cutV cutD
  rw [a.len]
  exact (a.drop _).take _
theorem cut_whole {vs : List V} {ds : List PyData} {lo hi : Option Int} (a : RepA F vs ds) (e : HT.sIx vs.length 0 lo = 0 ∧ HT.sIx vs.length vs.length hi = vs.length) : cutD ds lo hi = ds := by
  unfold cutD
  rw [← a.len, e.1, e.2, List.drop_zero, Nat.sub_zero, a.len, List.take_length]
theorem slSound {x d : PyData} {lo hi : Option Int} {v1 : V} (s : SI ca env st σ H F G) (r1 : Rep F v1 x) (h : slD x lo hi = some d) (k : KV ca env st σ H F G Q d) : rSlL K v1 lo hi H Q ∨ rSlA K v1 lo hi H Q := by
  unfold slD at h
  split at h
  · cases h
    cases r1 with
    | lst g a => exact .inl ⟨_, _, rfl, SqL.of (s.ok.sf _ _ g), k.lst s (cut_rep a)⟩
  · cases h
    cases r1 with
    | tup g a =>
      refine .inr ⟨_, _, rfl, SqT.of (s.ok.sf _ _ g), fun e => ?_, fun _ => k.tup s (cut_rep a)⟩
      rw [cut_whole a e] at k
      exact k.here s (.tup g a)
  · cases h
theorem intsD_map : ∀ {ds : List PyData} {ns : List Int} {vs : List V}, RepA F vs ds → intsD ds = some ns → vs = ns.map V.int
  | _, _, _, .nil, h => by cases h; rfl
  | _, ns, _, .cons q r, h => by
    cases q with
    | int i =>
      unfold intsD at h
      cases e : intsD _ with
      | none => rw [e] at h; cases h
      | some ms =>
        rw [e] at h
        cases h
        rw [intsD_map r e] <;> rfl
    | _ => cases h
theorem boolsD_map : ∀ {ds : List PyData} {bs : List Bool} {vs : List V}, RepA F vs ds → boolsD ds = some bs → vs = bs.map V.bl
  | _, _, _, .nil, h => by cases h; rfl
  | _, ns, _, .cons q r, h => by
    cases q with
    | bl i =>
      unfold boolsD at h
      cases e : boolsD _ with
      | none => rw [e] at h; cases h
      | some ms =>
        rw [e] at h
        cases h
        rw [boolsD_map r e] <;> rfl
    | _ => cases h
/-! ### sorted -/
theorem insP_perm (x : Int × Int) : ∀ ys : List (Int × Int), (insP x ys).Perm (x :: ys)
  | [] => List.Perm.refl _
  | y :: ys => by
    unfold insP
    split
    · exact ((insP_perm x ys).cons y).trans (List.Perm.swap x y ys)
    · exact List.Perm.refl _
theorem sortP_perm : ∀ xs : List (Int × Int), (sortP xs).Perm xs
  | [] => List.Perm.refl _
  | x :: xs => (insP_perm x _).trans ((sortP_perm xs).cons x)
theorem lexB_swo : SrtO.Swo SrtO.lexB := by
  refine ⟨fun x y h => ?_, fun x y z h1 h2 => ?_⟩
  · have a := SrtO.lexB_iff.mp h
    refine SrtO.lexB_no.mpr ?_
    omega
  · have a := SrtO.lexB_no.mp h1
    have b := SrtO.lexB_no.mp h2
    refine SrtO.lexB_no.mpr ?_
    omega
theorem insP_srtd (x : Int × Int) : ∀ ys : List (Int × Int), SrtO.Srtd SrtO.lexB ys → SrtO.Srtd SrtO.lexB (insP x ys)
  | [], _ => List.pairwise_singleton _ _
  | y :: ys, h => by
    obtain ⟨h1, h2⟩ := List.pairwise_cons.mp h
    unfold insP
    split
    · rename_i q
      refine List.pairwise_cons.mpr ⟨fun z hz => ?_, insP_srtd x ys h2⟩
      rcases List.mem_cons.mp ((insP_perm x ys).mem_iff.mp hz) with e | hz
      · rw [e]; exact lexB_swo.asym _ _ q
      · exact h1 z hz
    · rename_i q
      have q2 : SrtO.lexB y x = false := by
        cases e : SrtO.lexB y x with
        | false => rfl
        | true => exact absurd e q
      refine List.pairwise_cons.mpr ⟨fun z hz => ?_, h⟩
      rcases List.mem_cons.mp hz with e | hz
      · rw [e]; exact q2
      · exact lexB_swo.tr x y z q2 (h1 z hz)
theorem sortP_srtd : ∀ xs : List (Int × Int), SrtO.Srtd SrtO.lexB (sortP xs)
  | [] => List.Pairwise.nil
  | x :: xs => insP_srtd x _ (sortP_srtd xs)
theorem lexB_anti {x y : Int × Int} (h1 : SrtO.lexB x y = false) (h2 : SrtO.lexB y x = false) : x = y := by
  have a := SrtO.lexB_no.mp h1
  have b := SrtO.lexB_no.mp h2
  have e1 : x.1 = y.1 := by omega
  have e2 : x.2 = y.2 := by omega
  exact Prod.ext e1 e2
/-- one sorted arrangement alone -/
theorem srtd_uniq : ∀ {l m : List (Int × Int)}, SrtO.Srtd SrtO.lexB l → SrtO.Srtd SrtO.lexB m → l.Perm m → l = m
  | [], m, _, _, p => (List.Perm.eq_nil p.symm).symm
  | x :: l, [], _, _, p => absurd p.length_eq (by simp)
  | x :: l, y :: m, hl, hm, p => by
    have e : x = y := by
      have h1 : SrtO.lexB y x = false := by
        rcases List.mem_cons.mp (p.symm.mem_iff.mp (List.mem_cons_self (a := y) (l := m))) with e | hx
        · rw [e]; exact lexB_swo.refl x
        · exact (List.pairwise_cons.mp hl).1 y hx
      have h2 : SrtO.lexB x y = false := by
        rcases List.mem_cons.mp (p.mem_iff.mp (List.mem_cons_self (a := x) (l := l))) with e | hx
        · rw [e]; exact lexB_swo.refl y
        · exact (List.pairwise_cons.mp hm).1 x hx
      exact lexB_anti h2 h1
    subst e
    rw [srtd_uniq (List.pairwise_cons.mp hl).2 (List.pairwise_cons.mp hm).2 (List.Perm.cons_inv p)]
theorem pairsD_len : ∀ {ds : List PyData} {ps : List (Int × Int)}, pairsD ds = some ps → ps.length = ds.length
  | [], _, h => by cases h; rfl
  | d :: r, ps, h => by
    unfold pairsD at h
    split at h
    · cases e : pairsD r with
      | none => rw [e] at h; cases h
      | some q => rw [e] at h; cases h; rw [List.length_cons, List.length_cons, pairsD_len e]
    · cases h
def pairRep (F : Hp) (v : V) (p : Int × Int) : Prop := ∃ t, v = .ref t ∧ F t = some (.tup [.int p.1, .int p.2])
theorem pairsD_rep : ∀ {ds : List PyData} {ps : List (Int × Int)} {vs : List V}, RepA F vs ds → pairsD ds = some ps → vs.length = ps.length ∧ ∀ (i : Nat) (v : V) (p : Int × Int), vs[i]? = some v → ps[i]? = some p → pairRep F v p
  | _, ps, _, .nil, h => by cases h; exact ⟨rfl, fun i v p e => by simp at e⟩
  | _, ps, _, .cons (d := d) (ds := ds) q r, h => by
    unfold pairsD at h
    split at h
    · cases e : pairsD ds with
      | none => rw [e] at h; cases h
      | some qs =>
        rw [e] at h
        cases h
        obtain ⟨h1, h2⟩ := pairsD_rep r e
        refine ⟨congrArg (· + 1) h1, fun i v p e1 e2 => ?_⟩
        cases i with
        | zero =>
          simp at e1 e2
          subst e1 e2
          cases q with
          | tup g a =>
            cases a with
            | cons a1 a2 => cases a2 with
              | cons b1 b2 =>
                cases b2
                cases a1
                cases b1
                exact ⟨_, rfl, g⟩
        | succ i => exact h2 i v p (by simpa using e1) (by simpa using e2)
    · cases h
/-- which pair an address bears -/
noncomputable def pairOf (F : Hp) (v : V) : Int × Int := match v with
  | .ref t => (match F t with
    | some (.tup [.int i, .int j]) => (i, j)
    | _ => (0, 0))
  | _ => (0, 0)
theorem pairOf_eq {v : V} {p : Int × Int} (h : pairRep F v p) : pairOf F v = p := by
  obtain ⟨t, rfl, e⟩ := h
  show (match F t with
    | some (.tup [.int i, .int j]) => (i, j)
    | _ => (0, 0)) = p
  rw [e]
theorem pairs_map {ds : List PyData} {ps : List (Int × Int)} {vs : List V} (a : RepA F vs ds) (e : pairsD ds = some ps) : vs.map (pairOf F) = ps ∧ ∀ v ∈ vs, ∃ t, v = V.ref t ∧ F t = some (.tup [.int (pairOf F v).1, .int (pairOf F v).2]) := by
  obtain ⟨h1, h2⟩ := pairsD_rep a e
  constructor
  · refine List.ext_getElem? fun i => ?_
    rw [List.getElem?_map]
    cases e1 : vs[i]? with
    | none =>
      have : vs.length ≤ i := List.getElem?_eq_none_iff.mp e1
      rw [List.getElem?_eq_none (by omega)] <;> rfl
    | some v =>
      have : i < vs.length := (List.getElem?_eq_some_iff.mp e1).1
      have e2 : ps[i]? = some (ps[i]'(by omega)) := List.getElem?_eq_getElem (by omega)
      rw [e2]
      exact congrArg some (pairOf_eq (h2 i v _ e1 e2))
  · intro v hv
    obtain ⟨i, hi, e1⟩ := List.mem_iff_getElem.mp hv
    have e1 : vs[i]? = some v := by rw [List.getElem?_eq_getElem hi, e1]
    have e2 : ps[i]? = some (ps[i]'(by omega)) := List.getElem?_eq_getElem (by omega)
    have q := h2 i v _ e1 e2
    rw [pairOf_eq q]
    exact q
theorem pairs_back : ∀ {vs : List V}, (∀ v ∈ vs, ∃ t, v = V.ref t ∧ F t = some (.tup [.int (pairOf F v).1, .int (pairOf F v).2])) → RepA F vs ((vs.map (pairOf F)).map fun p => .tuple [.int p.1, .int p.2])
  | [], _ => .nil
  | v :: vs, h => by
    obtain ⟨t, e, g⟩ := h v List.mem_cons_self
    refine .cons ?_ (pairs_back fun w hw => h w (List.mem_cons_of_mem _ hw))
    rw [e] at g ⊢
    exact .tup g (.cons (.int _) (.cons (.int _) .nil))
theorem bltSound {b : Blt} {xs : List PyData} {d : PyData} {vs : List V} (s : SI ca env st σ H F G) (r : RepA F vs xs) (h : bltD b xs = some d) (k : KV ca env st σ H F G Q d) : rBltF K b vs H Q := by
  unfold bltD at h
  split at h
  · cases h
    cases r with
    | cons r1 r2 => cases r2; cases r1 with
      | lst g a => exact ⟨_, _, rfl, .inl ⟨_, SqL.of (s.ok.sf _ _ g), rfl⟩, by rw [a.len]; exact k.here s (.int _)⟩
  · cases h
    cases r with
    | cons r1 r2 => cases r2; cases r1 with
      | tup g a => exact ⟨_, _, rfl, .inr ⟨_, SqT.of (s.ok.sf _ _ g), rfl⟩, by rw [a.len]; exact k.here s (.int _)⟩
  · split at h
    · rename_i hl
      cases h
      cases r with
      | cons r1 r2 => cases r2; cases r1; exact ⟨_, _, rfl, ⟨okLen_le hl, rfl⟩, k.here s (.int _)⟩
    · cases h
  · cases h
    cases r with
    | cons r1 r2 => cases r2; cases r1; exact ⟨_, rfl, k.here s (.int _)⟩
  · cases h
    cases r with
    | cons r1 r2 => cases r2 with
      | cons r2 r3 => cases r3; cases r1; cases r2; exact ⟨_, _, rfl, k.here s (.int _)⟩
  · cases h
    cases r with
    | cons r1 r2 => cases r2 with
      | cons r2 r3 => cases r3; cases r1; cases r2; exact ⟨_, _, rfl, k.here s (.int _)⟩
  · cases h
    cases r with
    | cons r1 r2 => cases r2; cases r1; exact .inl ⟨_, rfl, k.here s (.int _)⟩
  · cases h
    cases r with
    | cons r1 r2 => cases r2; cases r1; exact .inr ⟨_, rfl, k.here s (.int _)⟩
  · split at h
    · rename_i hl
      cases h
      cases r with
      | cons r1 r2 => cases r2; cases r1; exact ⟨_, rfl, of_decide_eq_true hl, k.here s (.str _)⟩
    · cases h
  · cases h
    cases r with
    | cons r1 r2 => cases r2; cases r1 with
      | lst g a => exact ⟨_, _, rfl, .inl (SqL.of (s.ok.sf _ _ g)), k.lst s a⟩
  · cases h
    cases r with
    | cons r1 r2 => cases r2; cases r1 with
      | tup g a => exact ⟨_, _, rfl, .inr (SqT.of (s.ok.sf _ _ g)), k.lst s a⟩
  · cases h
    cases r with
    | cons r1 r2 => cases r2; cases r1 with
      | lst g a => exact ⟨_, _, rfl, .inl ⟨SqL.of (s.ok.sf _ _ g), k.tup s a⟩⟩
  · cases h
    cases r with
    | cons r1 r2 => cases r2; cases r1 with
      | tup g a => exact ⟨_, _, rfl, .inr ⟨SqT.of (s.ok.sf _ _ g), k.here s (.tup g a)⟩⟩
  · rename_i ys
    cases e : intsD ys with
    | none => rw [e] at h; cases h
    | some ns =>
      rw [e] at h
      cases h
      cases r with
      | cons r1 r2 => cases r2; cases r1 with
        | lst g a =>
          have e2 := intsD_map a e
          subst e2
          exact ⟨_, ns, rfl, SqL.of (s.ok.sf _ _ g), k.here s (.int _)⟩
  · rename_i ys
    cases e : boolsD ys with
    | none => rw [e] at h; cases h
    | some ns =>
      rw [e] at h
      cases h
      cases r with
      | cons r1 r2 => cases r2; cases r1 with
        | lst g a =>
          have e2 := boolsD_map a e
          subst e2
          exact ⟨_, ns, rfl, SqL.of (s.ok.sf _ _ g), k.here s (.bl _)⟩
  · rename_i ys
    cases e : boolsD ys with
    | none => rw [e] at h; cases h
    | some ns =>
      rw [e] at h
      cases h
      cases r with
      | cons r1 r2 => cases r2; cases r1 with
        | lst g a =>
          have e2 := boolsD_map a e
          subst e2
          exact ⟨_, ns, rfl, SqL.of (s.ok.sf _ _ g), k.here s (.bl _)⟩
  · rename_i ys
    cases e : pairsD ys with
    | none => rw [e] at h; cases h
    | some ps =>
      rw [e] at h
      cases h
      cases r with
      | cons r1 r2 => cases r2; cases r1 with
        | lst g a =>
          obtain ⟨e1, e2⟩ := pairs_map a e
          refine ⟨_, _, pairOf F, rfl, SqL.of (s.ok.sf _ _ g), fun x hx => ?_, fun zs p hs hb hp => ?_⟩
          · obtain ⟨t, q1, q2⟩ := e2 x hx
            exact ⟨t, q1, s.ok.sf _ _ q2⟩
          · have hz : zs.map (pairOf F) = sortP ps := srtd_uniq (SrtO.srtd_map hs) (sortP_srtd ps) (by
              have h1 := hb.perm.map (pairOf F)
              rw [e1] at h1
              exact h1.trans (sortP_perm ps).symm)
            have hr := pairs_back (F := F) (vs := zs) fun v hv => e2 v (hb.perm.mem_iff.mp hv)
            rw [hz] at hr
            exact k.lst s hr p hp
  · cases h
theorem kit_NoneType : ∀ t : Ty, kitB "NoneType" (tyS t) = some (isiD t (.none))
  | .int => (by decide +kernel : kitB "NoneType" "int" = some false)
  | .bool => (by decide +kernel : kitB "NoneType" "bool" = some false)
  | .str => (by decide +kernel : kitB "NoneType" "str" = some false)
  | .list => (by decide +kernel : kitB "NoneType" "list" = some false)
  | .tuple => (by decide +kernel : kitB "NoneType" "tuple" = some false)
  | .dict => (by decide +kernel : kitB "NoneType" "dict" = some false)
theorem kit_bool (b : Bool) : ∀ t : Ty, kitB "bool" (tyS t) = some (isiD t (.bool b))
  | .int => (by decide +kernel : kitB "bool" "int" = some true)
  | .bool => (by decide +kernel : kitB "bool" "bool" = some true)
  | .str => (by decide +kernel : kitB "bool" "str" = some false)
  | .list => (by decide +kernel : kitB "bool" "list" = some false)
  | .tuple => (by decide +kernel : kitB "bool" "tuple" = some false)
  | .dict => (by decide +kernel : kitB "bool" "dict" = some false)
theorem kit_int (b : Int) : ∀ t : Ty, kitB "int" (tyS t) = some (isiD t (.int b))
  | .int => (by decide +kernel : kitB "int" "int" = some true)
  | .bool => (by decide +kernel : kitB "int" "bool" = some false)
  | .str => (by decide +kernel : kitB "int" "str" = some false)
  | .list => (by decide +kernel : kitB "int" "list" = some false)
  | .tuple => (by decide +kernel : kitB "int" "tuple" = some false)
  | .dict => (by decide +kernel : kitB "int" "dict" = some false)
theorem kit_str (b : Str) : ∀ t : Ty, kitB "str" (tyS t) = some (isiD t (.str b))
  | .int => (by decide +kernel : kitB "str" "int" = some false)
  | .bool => (by decide +kernel : kitB "str" "bool" = some false)
  | .str => (by decide +kernel : kitB "str" "str" = some true)
  | .list => (by decide +kernel : kitB "str" "list" = some false)
  | .tuple => (by decide +kernel : kitB "str" "tuple" = some false)
  | .dict => (by decide +kernel : kitB "str" "dict" = some false)
theorem kit_list (b : List PyData) : ∀ t : Ty, kitB "list" (tyS t) = some (isiD t (.list b))
  | .int => (by decide +kernel : kitB "list" "int" = some false)
  | .bool => (by decide +kernel : kitB "list" "bool" = some false)
  | .str => (by decide +kernel : kitB "list" "str" = some false)
  | .list => (by decide +kernel : kitB "list" "list" = some true)
  | .tuple => (by decide +kernel : kitB "list" "tuple" = some false)
  | .dict => (by decide +kernel : kitB "list" "dict" = some false)
theorem kit_tuple (b : List PyData) : ∀ t : Ty, kitB "tuple" (tyS t) = some (isiD t (.tuple b))
  | .int => (by decide +kernel : kitB "tuple" "int" = some false)
  | .bool => (by decide +kernel : kitB "tuple" "bool" = some false)
  | .str => (by decide +kernel : kitB "tuple" "str" = some false)
  | .list => (by decide +kernel : kitB "tuple" "list" = some false)
  | .tuple => (by decide +kernel : kitB "tuple" "tuple" = some true)
  | .dict => (by decide +kernel : kitB "tuple" "dict" = some false)
theorem isiSound {t : Ty} {x : PyData} {v : V} (s : SI ca env st σ H F G) (r : Rep F v x) (k : Q (.bl (isiD t x)) H) : rIsi K [v, .ty (tyS t)] H Q := by
  cases r with
  | non => exact ⟨_, _, _, _, _, rfl, .ty _, .base .non, kit_ty (kit_NoneType t), k⟩
  | bl b => exact ⟨_, _, _, _, _, rfl, .ty _, .base (.bl b), kit_ty (kit_bool b t), k⟩
  | int b => exact ⟨_, _, _, _, _, rfl, .ty _, .base (.int b), kit_ty (kit_int b t), k⟩
  | str b => exact ⟨_, _, _, _, _, rfl, .ty _, .base (.str b), kit_ty (kit_str b t), k⟩
  | lst g a => exact ⟨_, _, _, _, _, rfl, .ty _, .base (.lst (s.ok.sf _ _ g)), kit_ty (kit_list _ t), k⟩
  | tup g a => exact ⟨_, _, _, _, _, rfl, .ty _, .base (.tup (s.ok.sf _ _ g)), kit_ty (kit_tuple _ t), k⟩
end
end Pm

set_option maxHeartbeats 1000000
/-! Pm4: walks, targets, calls and who owns what. -/
namespace Pm
open PySem PySem.Spec L2 RZ
variable {ca : Str → Addr} {env env2 : Env} {st st' : Store} {σ σ2 : St} {H F H' F' : Hp} {G G' : GO} {K : PySem.W.Frag}

/-! ### walks -/
structure WalkD (J : It) (F0 : Hp) (xs : List PyData) : Prop where
  go : ∀ H F i, Same F0 F → Same F H → i < xs.length → J.go i H
  stop : ∀ H F i, Same F0 F → Same F H → i = xs.length → J.stop i H
  yld : ∀ H F i d x H', Same F0 F → Same F H → xs[i]? = some d → J.yld i H x H' →
    (H' = H ∧ Rep F x d) ∨ ∃ T ys es, x = .ref T ∧ H T = none ∧ H' = upd H T (.tup ys) ∧ d = .tuple es ∧ RepA F ys es
theorem WalkD.mono {J : It} {xs : List PyData} (w : WalkD J F xs) (s : Same F F') : WalkD J F' xs :=
  ⟨fun H F1 i h => w.go H F1 i (s.trans h), fun H F1 i h => w.stop H F1 i (s.trans h), fun H F1 i d x H' h => w.yld H F1 i d x H' (s.trans h)⟩
theorem walkD_list {a : Addr} {vs : List V} {xs : List PyData} (h : F a = some (.lst vs)) (r : RepA F vs xs) : WalkD (Itl K a) F xs where
  go := fun H F1 i s1 s2 hi => walk_list.goes i H (by rw [r.len]; exact hi) (SqL.of (s2 _ _ (s1 _ _ h)))
  stop := fun H F1 i s1 s2 hi => by
    rw [hi, ← r.len]
    exact walk_list.stops H (SqL.of (s2 _ _ (s1 _ _ h)))
  yld := fun H F1 i d x H' s1 s2 hd y => by
    have hi : i < vs.length := by
      rw [r.len]
      exact (List.getElem?_eq_some_iff.mp hd).1
    obtain ⟨e, q⟩ := (walk_list (K := K)).yields i H x H' hi (SqL.of (s2 _ _ (s1 _ _ h))) y
    obtain ⟨d2, e2, r2⟩ := r.get q
    rw [hd] at e2
    cases e2
    exact .inl ⟨e, r2.mono s1⟩
theorem walkD_tup {a : Addr} {vs : List V} {xs : List PyData} (h : F a = some (.tup vs)) (r : RepA F vs xs) : WalkD (Itt K a) F xs where
  go := fun H F1 i s1 s2 hi => walk_tup.goes i H (by rw [r.len]; exact hi) (SqT.of (s2 _ _ (s1 _ _ h)))
  stop := fun H F1 i s1 s2 hi => by
    rw [hi, ← r.len]
    exact walk_tup.stops H (SqT.of (s2 _ _ (s1 _ _ h)))
  yld := fun H F1 i d x H' s1 s2 hd y => by
    have hi : i < vs.length := by
      rw [r.len]
      exact (List.getElem?_eq_some_iff.mp hd).1
    obtain ⟨e, q⟩ := (walk_tup (K := K)).yields i H x H' hi (SqT.of (s2 _ _ (s1 _ _ h))) y
    obtain ⟨d2, e2, r2⟩ := r.get q
    rw [hd] at e2
    cases e2
    exact .inl ⟨e, r2.mono s1⟩
theorem rngL_len (lo : Int) (n : Nat) (c : Int) : (rngL lo n c).length = n := by
  unfold rngL
  rw [List.length_map, List.length_range]
theorem rngL_get {lo c : Int} {n i : Nat} {d : PyData} (h : (rngL lo n c)[i]? = some d) : d = .int (lo + (i : Nat) * c) := by
  unfold rngL at h
  rw [List.getElem?_map] at h
  cases e : (List.range n)[i]? with
  | none => rw [e] at h; cases h
  | some j =>
    rw [e] at h
    have hi := (List.getElem?_eq_some_iff.mp e).1
    rw [List.length_range] at hi
    rw [List.getElem?_range hi] at e
    cases e
    cases h
    rfl
theorem walkD_range {lo : Int} {n : Nat} : WalkD (Itr lo n) F (rngL lo n 1) where
  go := fun H F1 i _ _ hi => walk_range.goes i H (by rw [rngL_len] at hi; exact hi) trivial
  stop := fun H F1 i _ _ hi => by
    rw [hi, rngL_len]
    exact walk_range.stops H trivial
  yld := fun H F1 i d x H' s1 s2 hd y => by
    have hi : i < n := by
      have := (List.getElem?_eq_some_iff.mp hd).1
      rwa [rngL_len] at this
    obtain ⟨e, q⟩ := walk_range.yields i H x H' hi trivial y
    rw [rngL_get hd, q, Int.mul_one]
    exact .inl ⟨e, .int _⟩
theorem walkD_rangeC {lo c : Int} {n : Nat} : WalkD (Itc lo c n) F (rngL lo n c) where
  go := fun H F1 i _ _ hi => walk_rangeC.goes i H (by rw [rngL_len] at hi; exact hi) trivial
  stop := fun H F1 i _ _ hi => by
    rw [hi, rngL_len]
    exact walk_rangeC.stops H trivial
  yld := fun H F1 i d x H' s1 s2 hd y => by
    have hi : i < n := by
      have := (List.getElem?_eq_some_iff.mp hd).1
      rwa [rngL_len] at this
    obtain ⟨e, q⟩ := walk_rangeC.yields i H x H' hi trivial y
    rw [rngL_get hd, q]
    exact .inl ⟨e, .int _⟩
theorem enumL_len (xs : List PyData) : (enumL xs).length = xs.length := by
  unfold enumL
  rw [List.length_mapIdx]
theorem walkD_enum {a : Addr} {vs : List V} {xs : List PyData} (h : F a = some (.lst vs)) (r : RepA F vs xs) : WalkD (Ite K a) F (enumL xs) where
  go := fun H F1 i s1 s2 hi => walk_enum.goes i H (by rw [enumL_len] at hi; rw [r.len]; exact hi) (SqL.of (s2 _ _ (s1 _ _ h)))
  stop := fun H F1 i s1 s2 hi => by
    rw [hi, enumL_len, ← r.len]
    exact walk_enum.stops H (SqL.of (s2 _ _ (s1 _ _ h)))
  yld := fun H F1 i d x H' s1 s2 hd y => by
    have hi : i < xs.length := by
      have := (List.getElem?_eq_some_iff.mp hd).1
      rwa [enumL_len] at this
    obtain ⟨T, y1, y2, e1, e2, e3, e4, e5⟩ := (walk_enum (K := K)).yields i H x H' (by rw [r.len]; exact hi) (SqL.of (s2 _ _ (s1 _ _ h))) y
    cases e4
    obtain ⟨d2, e6, r2⟩ := r.get e5
    refine .inr ⟨T, _, [.int (i : Nat), d2], e1, e2, e3, ?_, .cons (.int _) (.cons (r2.mono s1) .nil)⟩
    unfold enumL at hd
    rw [List.getElem?_mapIdx, e6] at hd
    exact (Option.some.inj hd).symm
theorem zipL_len (xs ys : List PyData) : (zipL xs ys).length = min xs.length ys.length := by
  unfold zipL
  rw [List.length_zipWith]
theorem zipL_get {xs ys : List PyData} {i : Nat} {x y : PyData} (h1 : xs[i]? = some x) (h2 : ys[i]? = some y) : (zipL xs ys)[i]? = some (.tuple [x, y]) := by
  unfold zipL
  rw [List.getElem?_zipWith, h1, h2]
theorem walkD_zipL {a b : Addr} {vs ws : List V} {xs ys : List PyData} (h : F a = some (.lst vs)) (r : RepA F vs xs) (h2 : F b = some (.lst ws)) (r2 : RepA F ws ys) : WalkD (Itz K a b) F (zipL xs ys) where
  go := fun H F1 i s1 s2 hi => (walk_zip (n := min vs.length ws.length) rfl).goes i H (by rw [zipL_len] at hi; rw [r.len, r2.len]; exact hi) ⟨SqL.of (s2 _ _ (s1 _ _ h)), SqL.of (s2 _ _ (s1 _ _ h2))⟩
  stop := fun H F1 i s1 s2 hi => by
    rw [hi, zipL_len, ← r.len, ← r2.len]
    exact (walk_zip (K := K) rfl).stops H ⟨SqL.of (s2 _ _ (s1 _ _ h)), SqL.of (s2 _ _ (s1 _ _ h2))⟩
  yld := fun H F1 i d x H' s1 s2 hd y => by
    have hi : i < min vs.length ws.length := by
      have := (List.getElem?_eq_some_iff.mp hd).1
      rw [zipL_len] at this
      rw [r.len, r2.len]
      exact this
    obtain ⟨T, y1, y2, e1, e2, e3, e4, e5⟩ := (walk_zip (K := K) rfl).yields i H x H' hi ⟨SqL.of (s2 _ _ (s1 _ _ h)), SqL.of (s2 _ _ (s1 _ _ h2))⟩ y
    obtain ⟨d2, e6, q2⟩ := r.get e4
    obtain ⟨d3, e7, q3⟩ := r2.get e5
    rw [zipL_get e6 e7] at hd
    exact .inr ⟨T, _, [d2, d3], e1, e2, e3, (Option.some.inj hd).symm, .cons (q2.mono s1) (.cons (q3.mono s1) .nil)⟩
theorem walkD_zipT {a b : Addr} {vs ws : List V} {xs ys : List PyData} (h : F a = some (.tup vs)) (r : RepA F vs xs) (h2 : F b = some (.tup ws)) (r2 : RepA F ws ys) : WalkD (ItzT K a b) F (zipL xs ys) where
  go := fun H F1 i s1 s2 hi => by
    rw [zipL_len, ← r.len, ← r2.len] at hi
    have h3 : i < vs.length := by omega
    have h4 : i < ws.length := by omega
    exact ⟨vs, ws, _, _, SqT.of (s2 _ _ (s1 _ _ h)), SqT.of (s2 _ _ (s1 _ _ h2)), List.getElem?_eq_getElem h3, List.getElem?_eq_getElem h4⟩
  stop := fun H F1 i s1 s2 hi => by
    rw [hi, zipL_len, ← r.len, ← r2.len]
    refine ⟨vs, ws, SqT.of (s2 _ _ (s1 _ _ h)), SqT.of (s2 _ _ (s1 _ _ h2)), ?_⟩
    omega
  yld := fun H F1 i d x H' s1 s2 hd y => by
    obtain ⟨T, y1, y2, e1, e2, e3, e4, e5⟩ := y
    have e4 := e4 _ (SqT.of (s2 _ _ (s1 _ _ h)))
    have e5 := e5 _ (SqT.of (s2 _ _ (s1 _ _ h2)))
    obtain ⟨d2, e6, q2⟩ := r.get e4
    obtain ⟨d3, e7, q3⟩ := r2.get e5
    rw [zipL_get e6 e7] at hd
    exact .inr ⟨T, _, [d2, d3], e1, e2, e3, (Option.some.inj hd).symm, .cons (q2.mono s1) (.cons (q3.mono s1) .nil)⟩

/-! ### slots -/
/-- slot i owns nothing any more -/
def dropS (G : GO) (i : Nat) : GO := fun a => if G a = some (.slot i) then none else G a
theorem dropS_some {i : Nat} {a : Addr} {x : Own} (h : dropS G i a = some x) : G a = some x ∧ x ≠ .slot i := by
  unfold dropS at h
  split at h
  · cases h
  · rename_i q
    exact ⟨h, fun e => q (by rw [h, e])⟩
theorem dropS_keep {i : Nat} {a : Addr} {x : Own} (h : G a = some x) (n : x ≠ .slot i) : dropS G i a = some x := by
  unfold dropS
  rw [if_neg (fun e => n (by rw [h] at e; exact Option.some.inj e))]
  exact h
theorem FldsRep.own {k : Nat} (hh : ∀ a f, G a = some (.fld k f) → G' a = some (.fld k f)) : ∀ {vs : List (Str × V)} {fs : List (Str × Fld)}, FldsRep H F G k vs fs → FldsRep H F G' k vs fs
  | _, _, .nil => .nil
  | _, _, .cons (x := x) ⟨h⟩ r => .cons ⟨by
      cases x with
      | fz d => exact h
      | own ds =>
        obtain ⟨p, vs, e1, e2, e3, e4⟩ := h
        exact ⟨p, vs, e1, e2, hh _ _ e3, e4⟩⟩ (FldsRep.own hh r)
theorem ObjRep.own {k : Nat} {a : Addr} {x : Obj} (hh : ∀ a f, G a = some (.fld k f) → G' a = some (.fld k f)) (h : ObjRep ca H F G k a x) : ObjRep ca H F G' k a x := by
  cases x with
  | ml ds => exact h
  | ins c fs =>
    obtain ⟨dx, vs, e1, e2, e3⟩ := h
    exact ⟨dx, vs, e1, e2.own hh, e3⟩
theorem Ok.dropS (k : Ok ca st H F G) (i : Nat) : Ok ca st H F (dropS G i) where
  sf := k.sf
  gf := fun a x e => k.gf a x (dropS_some e).1
  gi := fun a b x e1 e2 => k.gi a b x (dropS_some e1).1 (dropS_some e2).1
  go := fun j o e => by
    obtain ⟨a, g, r⟩ := k.go j o e
    exact ⟨a, dropS_keep g (by simp), r.own fun a f h => dropS_keep h (by simp)⟩
  gk := fun a j e => k.gk a j (dropS_some e).1
  gl := fun a j f e => k.gl a j f (dropS_some e).1
theorem Tr.dropS (i : Nat) : Tr H F G H F (dropS G i) :=
  ⟨Same.refl _, fun _ _ h _ => h, fun _ _ h => .inl h, fun a x h => .inr (by rw [(dropS_some h).1]; simp), fun _ _ h => dropS_keep h (by simp), fun _ o h => ⟨o, h⟩⟩
theorem SlotRep.dropS {i j : Nat} {s : Slot} (h : SlotRep H F G j σ s) (n : j ≠ i) (e : σ2[j]? = σ[j]?) : SlotRep H F (dropS G i) j σ2 s := by
  cases s with
  | no => trivial
  | dat d => obtain ⟨v, e1, r⟩ := h; exact ⟨v, by rw [e]; exact e1, r⟩
  | lst ds =>
    obtain ⟨p, vs, e1, h1, g, r⟩ := h
    exact ⟨p, vs, by rw [e]; exact e1, h1, dropS_keep g (by simp; exact n), r⟩
  | dct kvs =>
    obtain ⟨p, ks, e1, h1, g, q, r⟩ := h
    exact ⟨p, ks, by rw [e]; exact e1, h1, dropS_keep g (by simp; exact n), q, r⟩
  | obj k =>
    obtain ⟨a, g, e1⟩ := h
    exact ⟨a, dropS_keep g (by simp), by rw [e]; exact e1⟩
/-- a slot is set; what it owned is let go -/
theorem SI.set {i : Nat} {s : Slot} {x : Option V} (k : SI ca env st σ H F G) (h : i < env.length → SlotRep H F (dropS G i) i (σ.set i x) s) : SI ca (env.set i s) st (σ.set i x) H F (dropS G i) := by
  refine ⟨k.ok.dropS i, by rw [List.length_set, List.length_set]; exact k.en.1, fun j t e => ?_⟩
  by_cases q : j = i
  · subst q
    have hl : j < env.length := by
      have := (List.getElem?_eq_some_iff.mp e).1
      rwa [List.length_set] at this
    rw [List.getElem?_set_self hl] at e
    cases e
    exact h hl
  · rw [List.getElem?_set_ne (Ne.symm q)] at e
    exact (k.en.2 j t e).dropS q (List.getElem?_set_ne (Ne.symm q))
theorem SI.setDat {i : Nat} {v : V} {d : PyData} (k : SI ca env st σ H F G) (r : Rep F v d) : SI ca (env.set i (.dat d)) st (σ.set i (some v)) H F (dropS G i) :=
  k.set fun hl => ⟨v, List.getElem?_set_self (by rw [k.en.1]; exact hl), r⟩
theorem SI.setNo {i : Nat} {x : Option V} (k : SI ca env st σ H F G) : SI ca (env.set i .no) st (σ.set i x) H F (dropS G i) := k.set fun _ => trivial

/-! ### targets -/
theorem setGs_len : ∀ (g r : Tg) (xs : List PyData) (env env2 : Env), setGs g r xs env = some env2 → xs.length = gLen r + 1
  | _, _, [], _, _, h => by simp [setGs] at h
  | g, .nm _, x :: xs, env, env2, h => by
    unfold setGs at h
    cases e : setG g x env with
    | none => rw [e] at h; cases h
    | some e1 => rw [e] at h; cases h
  | g, .nil, x :: xs, env, env2, h => by
    unfold setGs at h
    cases e : setG g x env with
    | none => rw [e] at h; cases h
    | some e1 =>
      rw [e] at h
      cases xs with
      | nil => rfl
      | cons y ys => cases h
  | g, .tp g2 r2, x :: xs, env, env2, h => by
    unfold setGs at h
    cases e : setG g x env with
    | none => rw [e] at h; cases h
    | some e1 =>
      rw [e] at h
      have := setGs_len g2 r2 xs e1 env2 h
      rw [List.length_cons, this] <;> rfl
/-- what a target leaves as it was -/
def OffG (g : Tg) (env env2 : Env) (σ σ2 : St) : Prop := ∀ i, gHas i g = false → env2[i]? = env[i]? ∧ σ2[i]? = σ[i]?
mutual
theorem setG_sound : ∀ (g : Tg) (d : PyData) (env env2 : Env) (v : V) (σ : St) (G : GO) (Q : St → Hp → Prop), SI ca env st σ H F G → Rep F v d → setG g d env = some env2 →
    (∀ σ2 G2, SI ca env2 st σ2 H F G2 → Tr H F G H F G2 → OffG g env env2 σ σ2 → Q σ2 H) → tG K g v σ H Q
  | .nm i, d, env, env2, v, σ, G, Q, s, r, e, k => by
    unfold setG at e
    cases e
    refine k _ _ (s.setDat r) (Tr.dropS i) fun j hj => ?_
    have hj : ¬ i = j := by simpa [gHas] using hj
    exact ⟨List.getElem?_set_ne hj, List.getElem?_set_ne hj⟩
  | .nil, d, env, env2, v, σ, G, Q, s, r, e, k => by
    cases r with
    | lst g a =>
      unfold setG at e
      cases a with
      | nil => cases e; exact .inr ⟨_, _, rfl, SqL.of (s.ok.sf _ _ g), rfl, rfl, k _ _ s (Tr.refl _ _ _) fun _ _ => ⟨rfl, rfl⟩⟩
      | cons _ _ => cases e
    | tup g a =>
      unfold setG at e
      cases a with
      | nil => cases e; exact .inl ⟨_, _, rfl, SqT.of (s.ok.sf _ _ g), rfl, rfl, k _ _ s (Tr.refl _ _ _) fun _ _ => ⟨rfl, rfl⟩⟩
      | cons _ _ => cases e
    | _ => unfold setG at e; cases e
  | .tp g r0, d, env, env2, v, σ, G, Q, s, r, e, k => by
    cases r with
    | lst q a =>
      unfold setG at e
      exact .inr ⟨_, _, rfl, SqL.of (s.ok.sf _ _ q), by rw [a.len]; exact setGs_len _ _ _ _ _ e, setGs_sound g r0 _ env env2 _ σ G Q s a e k⟩
    | tup q a =>
      unfold setG at e
      exact .inl ⟨_, _, rfl, SqT.of (s.ok.sf _ _ q), by rw [a.len]; exact setGs_len _ _ _ _ _ e, setGs_sound g r0 _ env env2 _ σ G Q s a e k⟩
    | _ => unfold setG at e; cases e
theorem setGs_sound : ∀ (g r0 : Tg) (ds : List PyData) (env env2 : Env) (vs : List V) (σ : St) (G : GO) (Q : St → Hp → Prop), SI ca env st σ H F G → RepA F vs ds → setGs g r0 ds env = some env2 →
    (∀ σ2 G2, SI ca env2 st σ2 H F G2 → Tr H F G H F G2 → OffG (.tp g r0) env env2 σ σ2 → Q σ2 H) → gCons (tG K g) (tGs K r0) vs σ H Q
  | g, .nm _, ds, env, env2, vs, σ, G, Q, s, a, e, k => by
    cases a with
    | nil => simp [setGs] at e
    | cons h t =>
      unfold setGs at e
      split at e
      · cases e
      · cases e
  | g, .nil, ds, env, env2, vs, σ, G, Q, s, a, e, k => by
    cases a with
    | nil => simp [setGs] at e
    | cons h t =>
      unfold setGs at e
      split at e
      · rename_i e1 q
        cases t with
        | nil =>
          cases e
          refine ⟨_, _, rfl, setG_sound g _ env _ _ σ G _ s h q fun σ2 G2 s2 t2 o2 => ⟨rfl, k σ2 G2 s2 t2 fun i hi => o2 i ?_⟩⟩
          simpa [gHas] using hi
        | cons _ _ => cases e
      · cases e
  | g, .tp g2 r2, ds, env, env2, vs, σ, G, Q, s, a, e, k => by
    cases a with
    | nil => simp [setGs] at e
    | cons h t =>
      unfold setGs at e
      split at e
      · rename_i e1 q
        refine ⟨_, _, rfl, setG_sound g _ env e1 _ σ G _ s h q fun σ2 G2 s2 t2 o2 => ?_⟩
        refine setGs_sound g2 r2 _ e1 env2 _ σ2 G2 Q s2 t e fun σ3 G3 s3 t3 o3 => k σ3 G3 s3 (t2.trans t3) fun i hi => ?_
        have h1 : gHas i g = false ∧ gHas i (.tp g2 r2) = false := by
          have h2 : (gHas i g || gHas i (.tp g2 r2)) = false := hi
          rwa [Bool.or_eq_false_iff] at h2
        exact ⟨(o3 i h1.2).1.trans (o2 i h1.1).1, (o3 i h1.2).2.trans (o2 i h1.1).2⟩
      · cases e
end
mutual
theorem setG_len : ∀ (g : Tg) (d : PyData) (env env2 : Env), setG g d env = some env2 → env2.length = env.length
  | .nm i, d, env, env2, e => by
    unfold setG at e
    cases e
    exact List.length_set
  | .nil, d, env, env2, e => by
    cases d with
    | list xs => unfold setG at e; cases xs with
      | nil => cases e; rfl
      | cons _ _ => cases e
    | tuple xs => unfold setG at e; cases xs with
      | nil => cases e; rfl
      | cons _ _ => cases e
    | _ => unfold setG at e; cases e
  | .tp g r, d, env, env2, e => by
    cases d with
    | list xs => unfold setG at e; exact setGs_len2 g r xs env env2 e
    | tuple xs => unfold setG at e; exact setGs_len2 g r xs env env2 e
    | _ => unfold setG at e; cases e
theorem setGs_len2 : ∀ (g r : Tg) (ds : List PyData) (env env2 : Env), setGs g r ds env = some env2 → env2.length = env.length
  | g, r, [], env, env2, e => by simp [setGs] at e
  | g, .nm _, x :: xs, env, env2, e => by
    unfold setGs at e
    split at e
    · cases e
    · cases e
  | g, .nil, x :: xs, env, env2, e => by
    unfold setGs at e
    split at e
    · rename_i q
      cases xs with
      | nil => cases e; exact setG_len g x env _ q
      | cons _ _ => cases e
    · cases e
  | g, .tp g2 r2, x :: xs, env, env2, e => by
    unfold setGs at e
    split at e
    · rename_i q
      exact (setGs_len2 g2 r2 xs _ env2 e).trans (setG_len g x env _ q)
    · cases e
end
theorem gHas_in {vs : List Nat} : ∀ {g : Tg} {i : Nat}, gIn vs g = true → i ∉ vs → gHas i g = false
  | .nm j, i, h, n => by
    unfold gHas
    unfold gIn at h
    cases e : j == i with
    | false => rfl
    | true =>
      have e := eq_of_beq e
      subst e
      exact absurd (List.contains_iff_mem.mp h) n
  | .nil, _, _, _ => rfl
  | .tp g r, i, h, n => by
    unfold gIn at h
    rw [Bool.and_eq_true] at h
    unfold gHas
    rw [gHas_in h.1 n, gHas_in h.2 n] <;> rfl
/-! ### a comprehension's frame -/
theorem wipeE_len (env : Env) : ∀ vs : List Nat, (wipeE env vs).length = env.length
  | [] => rfl
  | v :: vs => by
    unfold wipeE
    rw [List.length_set, wipeE_len env vs]
theorem wipeE_off {i : Nat} : ∀ {vs : List Nat}, i ∉ vs → (wipeE env vs)[i]? = env[i]?
  | [], _ => rfl
  | v :: vs, h => by
    unfold wipeE
    rw [List.getElem?_set_ne (fun e => h (by rw [e]; exact List.mem_cons_self)), wipeE_off fun q => h (List.mem_cons_of_mem _ q)]
theorem SI.wipe (s : SI ca env st σ H F G) : ∀ vs : List Nat, ∃ G2, SI ca (wipeE env vs) st (wipe σ vs) H F G2 ∧ Tr H F G H F G2
  | [] => ⟨G, s, Tr.refl _ _ _⟩
  | v :: vs => by
    obtain ⟨G2, s2, t2⟩ := SI.wipe s vs
    exact ⟨dropS G2 v, s2.setNo, t2.trans (Tr.dropS v)⟩
/-- two frames that part in vs alone -/
theorem wipe_eq : ∀ {vs : List Nat}, σ2.length = σ.length → (∀ i, i ∉ vs → σ2[i]? = σ[i]?) → wipe σ2 vs = wipe σ vs := fun {vs} hl h => by
  refine List.ext_getElem? fun i => ?_
  by_cases q : i ∈ vs
  · have key : ∀ (ρ : St), ∀ ws : List Nat, i ∈ ws → (wipe ρ ws)[i]? = if i < ρ.length then some none else none := fun ρ ws => by
      induction ws with
      | nil => intro h; cases h
      | cons w ws ih =>
        intro h
        show ((wipe ρ ws).set w none)[i]? = _
        by_cases e : w = i
        · subst e
          by_cases hl : w < ρ.length
          · rw [List.getElem?_set_self (by rw [wipe_length]; exact hl), if_pos hl]
          · rw [if_neg hl, List.getElem?_eq_none (by rw [List.length_set, wipe_length]; omega)]
        · rw [List.getElem?_set_ne e]
          exact ih ((List.mem_cons.mp h).resolve_left (fun z => e z.symm))
    rw [key σ2 vs q, key σ vs q, hl]
  · rw [wipe_out q, wipe_out q]
    exact h i q
/-- back from a comprehension's frame -/
theorem SI.back {st0 : Store} {H0 F0 : Hp} {G0 : GO} {vs : List Nat} (s0 : SI ca env st0 σ H0 F0 G0) (t : Tr H0 F0 G0 H F G) (s : SI ca env2 st σ2 H F G) (hl : env2.length = env.length) (no : noOwn env vs = true)
    (off : ∀ i, i ∉ vs → env2[i]? = env[i]? ∧ σ2[i]? = σ[i]?) : SI ca env st σ H F G := by
  refine ⟨s.ok, s0.en.1, fun i x e => ?_⟩
  by_cases q : i ∈ vs
  · have h1 := List.all_eq_true.mp no i q
    rw [e] at h1
    have h2 := s0.en.2 i x e
    cases x with
    | no => trivial
    | dat d => obtain ⟨v, e1, r⟩ := h2; exact ⟨v, e1, r.mono t.s0⟩
    | obj k => obtain ⟨a, g, e1⟩ := h2; exact ⟨a, t.ob a k g, e1⟩
    | lst _ => cases h1
    | dct _ => cases h1
  · obtain ⟨e1, e2⟩ := off i q
    have h1 := s.en.2 i x (by rw [e1]; exact e)
    cases x with
    | no => trivial
    | dat d => obtain ⟨v, e3, r⟩ := h1; exact ⟨v, by rw [← e2]; exact e3, r⟩
    | obj k => obtain ⟨a, g, e3⟩ := h1; exact ⟨a, g, by rw [← e2]; exact e3⟩
    | lst ds => obtain ⟨p, ws, e3, r⟩ := h1; exact ⟨p, ws, by rw [← e2]; exact e3, r⟩
    | dct ds => obtain ⟨p, ws, e3, r⟩ := h1; exact ⟨p, ws, by rw [← e2]; exact e3, r⟩

mutual
theorem setG_dat : ∀ (g : Tg) (d : PyData) (env env2 : Env), setG g d env = some env2 → ∀ (i : Nat), env2[i]? = env[i]? ∨ ∃ x, env2[i]? = some (Slot.dat x)
  | .nm j, d, env, env2, e, i => by
    unfold setG at e
    cases e
    by_cases q : j = i
    · subst q
      by_cases hl : j < env.length
      · exact .inr ⟨d, List.getElem?_set_self hl⟩
      · left
        rw [List.getElem?_eq_none (by rw [List.length_set]; omega), List.getElem?_eq_none (by omega)]
    · exact .inl (List.getElem?_set_ne q)
  | .nil, d, env, env2, e, i => by
    cases d with
    | list xs => unfold setG at e; cases xs with
      | nil => cases e; exact .inl rfl
      | cons _ _ => cases e
    | tuple xs => unfold setG at e; cases xs with
      | nil => cases e; exact .inl rfl
      | cons _ _ => cases e
    | _ => unfold setG at e; cases e
  | .tp g r, d, env, env2, e, i => by
    cases d with
    | list xs => unfold setG at e; exact setGs_dat g r xs env env2 e i
    | tuple xs => unfold setG at e; exact setGs_dat g r xs env env2 e i
    | _ => unfold setG at e; cases e
theorem setGs_dat : ∀ (g r : Tg) (ds : List PyData) (env env2 : Env), setGs g r ds env = some env2 → ∀ (i : Nat), env2[i]? = env[i]? ∨ ∃ x, env2[i]? = some (Slot.dat x)
  | g, r, [], env, env2, e, _ => by simp [setGs] at e
  | g, .nm _, x :: xs, env, env2, e, _ => by
    unfold setGs at e
    split at e
    · cases e
    · cases e
  | g, .nil, x :: xs, env, env2, e, i => by
    unfold setGs at e
    split at e
    · rename_i q
      cases xs with
      | nil => cases e; exact setG_dat g x env _ q i
      | cons _ _ => cases e
    · cases e
  | g, .tp g2 r2, x :: xs, env, env2, e, i => by
    unfold setGs at e
    split at e
    · rename_i q
      rcases setGs_dat g2 r2 xs _ env2 e i with h | h
      · rcases setG_dat g x env _ q i with h2 | ⟨y, h2⟩
        · exact .inl (h.trans h2)
        · exact .inr ⟨y, h.trans h2⟩
      · exact .inr h
    · cases e
end
theorem wipeE_in {i : Nat} : ∀ {vs : List Nat}, i ∈ vs → (wipeE env vs)[i]? = none ∨ (wipeE env vs)[i]? = some .no
  | [], h => by cases h
  | v :: vs, h => by
    unfold wipeE
    by_cases q : v = i
    · subst q
      by_cases hl : v < (wipeE env vs).length
      · exact .inr (List.getElem?_set_self hl)
      · exact .inl (List.getElem?_eq_none (by rw [List.length_set]; omega))
    · rw [List.getElem?_set_ne q]
      exact wipeE_in ((List.mem_cons.mp h).resolve_left fun z => q z.symm)
theorem own_off {vs : List Nat} {g : Tg} {d : PyData} {i : Nat} (e : setG g d (wipeE env vs) = some env2) (h : i ∈ vs) : (!ownS env2[i]?) = true := by
  rcases setG_dat g d _ _ e i with q | ⟨x, q⟩
  · rw [q]
    rcases wipeE_in (env := env) h with z | z
    · rw [z] <;> rfl
    · rw [z] <;> rfl
  · rw [q] <;> rfl

/-! ### calls -/
def hideS (G : GO) : GO := fun a => match G a with
  | some (.slot _) => none
  | x => x
def NoSlot (G : GO) : Prop := ∀ a i, G a ≠ some (.slot i)
theorem hideS_some {a : Addr} {x : Own} (h : hideS G a = some x) : G a = some x := by
  unfold hideS at h
  split at h
  · cases h
  · exact h
theorem hideS_no : NoSlot (hideS G) := fun a i h => by
  unfold hideS at h
  split at h
  · cases h
  · rename_i q
    exact q i h
theorem hideS_keep {a : Addr} {x : Own} (h : G a = some x) (n : ∀ i, x ≠ .slot i) : hideS G a = some x := by
  unfold hideS
  rw [h]
  cases x with
  | slot i => exact absurd rfl (n i)
  | _ => rfl
theorem Ok.hide (k : Ok ca st H F G) : Ok ca st H F (hideS G) where
  sf := k.sf
  gf := fun a x e => k.gf a x (hideS_some e)
  gi := fun a b x e1 e2 => k.gi a b x (hideS_some e1) (hideS_some e2)
  go := fun j o e => by
    obtain ⟨a, g, r⟩ := k.go j o e
    exact ⟨a, hideS_keep g (by simp), r.own fun a f h => hideS_keep h (by simp)⟩
  gk := fun a j e => k.gk a j (hideS_some e)
  gl := fun a j f e => k.gl a j f (hideS_some e)
/-- the caller's slots are put back -/
def backS (G G1 : GO) : GO := fun a => match G a with
  | some (.slot i) => some (.slot i)
  | _ => G1 a
theorem backS_slot {a : Addr} {i : Nat} {G1 : GO} (h : G a = some (.slot i)) : backS G G1 a = some (.slot i) := by
  unfold backS
  rw [h]
theorem backS_cases {a : Addr} {x : Own} {G1 : GO} (h : backS G G1 a = some x) : (∃ i, G a = some (.slot i) ∧ x = .slot i) ∨ ((∀ i, G a ≠ some (.slot i)) ∧ G1 a = some x) := by
  unfold backS at h
  split at h
  · rename_i i e
    cases h
    exact .inl ⟨i, e, rfl⟩
  · rename_i q
    exact .inr ⟨q, h⟩
theorem backS_other {a : Addr} {G1 : GO} (h : ∀ i, G a ≠ some (.slot i)) : backS G G1 a = G1 a := by
  unfold backS
  split
  · rename_i i e
    exact absurd e (h i)
  · rfl
theorem SI.called {G1 : GO} (s : SI ca env st σ H F G) (o1 : Ok ca st' H' F' G1) (n1 : NoSlot G1) (t : Tr H F (hideS G) H' F' G1) : SI ca env st' σ H' F' (backS G G1) ∧ Tr H F G H' F' (backS G G1) := by
  have slotk : ∀ a i, G a = some (.slot i) → ∀ x, H a = some x → H' a = some x ∧ F' a = none ∧ G1 a = none := fun a i g x hx =>
    t.keep hx (s.ok.gf a _ g).1 (by unfold hideS; rw [g])
  have own1 : ∀ a x, G1 a = some x → backS G G1 a = some x := fun a x g => by
    by_cases q : ∃ i, G a = some (.slot i)
    · obtain ⟨i, e⟩ := q
      obtain ⟨_, o, ho⟩ := s.ok.gf a _ e
      rw [(slotk a i e o ho).2.2] at g
      cases g
    · rw [backS_other fun i e => q ⟨i, e⟩]
      exact g
  refine ⟨⟨⟨o1.sf, fun a x e => ?_, fun a b x e1 e2 => ?_, fun j o e => ?_, fun a j e => ?_, fun a j f e => ?_⟩, s.en.1, fun i x e => ?_⟩, ⟨t.s0, fun a o h g => t.kp a o h (by unfold hideS; rw [g]), fun a o h => ?_, fun a x h => ?_, fun a k h => own1 a _ (t.ob a k (hideS_keep h (by simp))), t.th⟩⟩
  · rcases backS_cases e with ⟨i, g, _⟩ | ⟨_, g⟩
    · obtain ⟨_, o, ho⟩ := s.ok.gf a _ g
      obtain ⟨h1, h2, _⟩ := slotk a i g o ho
      exact ⟨h2, o, h1⟩
    · exact o1.gf a x g
  · rcases backS_cases e1 with ⟨i, g, ex⟩ | ⟨_, g⟩
    · rcases backS_cases e2 with ⟨j, g2, ex2⟩ | ⟨_, g2⟩
      · rw [ex] at ex2
        cases ex2
        exact s.ok.gi a b _ g g2
      · rw [ex] at g2
        exact absurd g2 (n1 b i)
    · rcases backS_cases e2 with ⟨j, g2, ex2⟩ | ⟨_, g2⟩
      · rw [ex2] at g
        exact absurd g (n1 a j)
      · exact o1.gi a b x g g2
  · obtain ⟨a, g, r⟩ := o1.go j o e
    exact ⟨a, own1 a _ g, r.own fun a f h => own1 a _ h⟩
  · rcases backS_cases e with ⟨i, g, ex⟩ | ⟨_, g⟩
    · cases ex
    · exact o1.gk a j g
  · rcases backS_cases e with ⟨i, g, ex⟩ | ⟨_, g⟩
    · cases ex
    · exact o1.gl a j f g
  · have h := s.en.2 i x e
    cases x with
    | no => trivial
    | dat d => obtain ⟨v, e1, r⟩ := h; exact ⟨v, e1, r.mono t.s0⟩
    | lst ds =>
      obtain ⟨p, vs, e1, h1, g, r⟩ := h
      exact ⟨p, vs, e1, (slotk p i g _ h1).1, backS_slot g, r.mono t.s0⟩
    | dct kvs =>
      obtain ⟨p, ks, e1, h1, g, q, r⟩ := h
      exact ⟨p, ks, e1, (slotk p i g _ h1).1, backS_slot g, q, r.mono t.s0⟩
    | obj k =>
      obtain ⟨a, g, e1⟩ := h
      exact ⟨a, own1 a _ (t.ob a k (hideS_keep g (by simp))), e1⟩
  · rcases t.fr a o h with z | z | z
    · exact .inl z
    · exact .inr (.inl z)
    · refine .inr (.inr fun e => z ?_)
      unfold hideS
      rw [e]
  · rcases backS_cases h with ⟨i, g, _⟩ | ⟨_, g⟩
    · exact .inr (by rw [g]; simp)
    · rcases t.gn a x g with z | z
      · exact .inl z
      · refine .inr fun e => z ?_
        unfold hideS
        rw [e]
/-- an argument -/
def ArgRep (F : Hp) (G : GO) (v : V) : Arg → Prop
  | .dat d => Rep F v d
  | .obj k => ∃ a, v = .ref a ∧ G a = some (.obj k)
  | _ => False
inductive ArgsRep (F : Hp) (G : GO) : List V → List Arg → Prop
  | nil : ArgsRep F G [] []
  | cons {v : V} {a : Arg} {vs : List V} {as : List Arg} : ArgRep F G v a → ArgsRep F G vs as → ArgsRep F G (v :: vs) (a :: as)
theorem ArgRep.mono {v : V} {a : Arg} (h : ArgRep F G v a) (t : Tr H F G H' F' G') : ArgRep F' G' v a := by
  cases a with
  | dat d => exact Rep.mono t.s0 h
  | obj k => obtain ⟨a, e, g⟩ := h; exact ⟨a, e, t.ob a k g⟩
  | _ => exact h.elim
theorem ArgsRep.hide : ∀ {vs : List V} {as : List Arg}, ArgsRep F G vs as → ArgsRep F (hideS G) vs as
  | _, _, .nil => .nil
  | _, _, .cons (a := a) h r => .cons (by
      cases a with
      | dat d => exact h
      | obj k => obtain ⟨a, e, g⟩ := h; exact ⟨a, e, hideS_keep g (by simp)⟩
      | _ => exact h.elim) r.hide
theorem ArgsRep.len : ∀ {vs : List V} {as : List Arg}, ArgsRep F G vs as → vs.length = as.length
  | _, _, .nil => rfl
  | _, _, .cons _ r => congrArg (· + 1) r.len
/-- what is wanted of a call's outcome -/
def PF (ca : Str → Addr) (r : Out PyData) (H F : Hp) (G : GO) (Q : VK) (E : XK) : Prop := match r with
  | .ok d st' => ∀ v H' F' G', Ok ca st' H' F' G' → NoSlot G' → Tr H F G H' F' G' → Rep F' v d → Q v H'
  | .ex x st' => ∀ H' F' G', Ok ca st' H' F' G' → NoSlot G' → Tr H F G H' F' G' → E (.ref (ca x)) none H'
  | .no => False
end Pm

set_option maxHeartbeats 1000000
/-! Pm5: an expression that the evaluator gives a value keeps its reading. -/
namespace Pm
open PySem PySem.Spec L2 RZ

structure FsOk (R : RdC) (Fn : Fs) : Prop where
  call : ∀ f as st H F G vs Q E, Ok R.ca st H F G → NoSlot G → ArgsRep F G vs as → PF R.ca (Fn.call f as st) H F G Q E → R.fsp f vs H Q E
  meth : ∀ c m as st H F G vs Q, Ok R.ca st H F G → NoSlot G → ArgsRep F G vs as → PF R.ca (Fn.meth c m as st) H F G Q (fun _ _ _ => False) → R.msp c m vs H Q (fun _ _ _ => False)
  make : ∀ c as st H F G vs Q, Ok R.ca st H F G → NoSlot G → ArgsRep F G vs as → (match Fn.make c as st with
    | .ok _ st' => ∀ H' F' G', Ok R.ca st' H' F' G' → NoSlot G' → Tr H F G H' F' G' → Q .non H'
    | _ => False) → R.isp c vs H Q (fun _ _ _ => False)
  tab : ∀ t, (Fn.tab t).isEmpty = false → ∀ z, ∃ r, PySem.W.nsIn R.K (R.ta t) z = some r ∧ (match (Fn.tab t).lookup z with
    | some d => ∃ u, r = some u ∧ RelV (litV d) u
    | none => r = none)
  tabD : ∀ t, (Fn.tab t).isEmpty = false → ∃ es n, KDict R.K R.w (R.ta t) es n
  att : ∀ c f, Fn.att c f = true → Cls R.K (R.ca c) ∧ NoAttr R.K (R.ca c) f
  exm : ∀ y x b, Fn.sub y x = some b → PySem.W.exmOne R.K (.ref (R.ca y)) (.ref (R.ca x)) = some b

section
variable {ca : Str → Addr} {env env2 : Env} {st st' st1 : Store} {σ σ2 : St} {H F H' F' H1 F1 : Hp} {G G' G1 : GO} {K : PySem.W.Frag}

theorem selfOf_eq {env : Env} {st : Store} {c m : Str} {o : Nat} {x : Slot} (h : selfOf env st c m o = some x) : ∃ k fs, env[o]? = some (.obj k) ∧ st[k]? = some (.ins c fs) ∧ fs.lookup m = none ∧ x = .obj k := by
  unfold selfOf at h
  split at h
  · rename_i k e
    split at h
    · rename_i c2 fs e2
      split at h
      · rename_i q
        cases h
        rw [Bool.and_eq_true] at q
        have q1 := of_decide_eq_true q.1
        subst q1
        exact ⟨k, fs, e, e2, Option.isNone_iff_eq_none.mp q.2, rfl⟩
      · cases h
    · cases h
  · cases h
theorem FldsRep.none {k : Nat} {m : Str} : ∀ {vs : List (Str × V)} {fs : List (Str × Fld)}, FldsRep H F G k vs fs → fs.lookup m = none → vs.lookup m = none
  | _, _, .nil, _ => rfl
  | _, _, .cons (f := f) (r := r) (s := s) h t, e => by
    rw [List.lookup_cons] at e ⊢
    cases q : m == f with
    | true => rw [q] at e; cases e
    | false => rw [q] at e; exact t.none e
theorem FldsRep.get {k : Nat} {m : Str} {x : Fld} : ∀ {vs : List (Str × V)} {fs : List (Str × Fld)}, FldsRep H F G k vs fs → fs.lookup m = some x → ∃ v, vs.lookup m = some v ∧ FldRep H F G k m v x
  | _, _, .nil, e => by cases e
  | _, _, .cons (f := f) (v := v) (x := y) (r := r) (s := s) h t, e => by
    rw [List.lookup_cons] at e ⊢
    cases q : m == f with
    | true =>
      rw [q] at e
      cases e
      have q := eq_of_beq q
      subst q
      exact ⟨v, rfl, h⟩
    | false => rw [q] at e; exact t.get e
theorem getA_eq {env : Env} {st : Store} {c f : Str} {o : Nat} {d : PyData} (h : getA env st c o f = some d) : ∃ k fs, env[o]? = some (.obj k) ∧ st[k]? = some (.ins c fs) ∧ fs.lookup f = some (.fz d) := by
  unfold getA at h
  split at h
  · rename_i k e
    split at h
    · rename_i c2 fs e2
      split at h
      · rename_i q
        have q1 := of_decide_eq_true q
        subst q1
        split at h
        · rename_i e3
          cases h
          exact ⟨k, fs, e, e2, e3⟩
        · cases h
      · cases h
    · cases h
  · cases h

/-! ### lists comprehended -/
/-- between two turns: the list so far stands at D -/
structure LS (ca : Str → Addr) (env : Env) (σ : St) (H1 F1 : Hp) (G1 : GO) (D : Addr) (st : Store) (H F : Hp) (G : GO) (acc : List V) (ds : List PyData) : Prop where
  s : SI ca env st σ H F G
  t : Tr H1 F1 G1 H F G
  d : H D = some (.lst acc)
  f : F D = none
  g : G D = none
  r : RepA F acc ds
def Yld (F H : Hp) (d : PyData) (x : V) (H' : Hp) : Prop := (H' = H ∧ Rep F x d) ∨ ∃ T ys es, x = .ref T ∧ H T = none ∧ H' = upd H T (.tup ys) ∧ d = .tuple es ∧ RepA F ys es
/-- the item is there as a value -/
theorem LS.yld {D : Addr} {acc : List V} {ds : List PyData} {d : PyData} {x : V} (l : LS ca env σ H1 F1 G1 D st H F G acc ds) (y : Yld F H d x H') : ∃ F', LS ca env σ H1 F1 G1 D st H' F' G acc ds ∧ Rep F' x d ∧ Tr H F G H' F' G := by
  rcases y with ⟨rfl, r⟩ | ⟨T, ys, es, rfl, hT, rfl, rfl, r⟩
  · exact ⟨F, l, r, Tr.refl _ _ _⟩
  · have n : D ≠ T := ne_of_none l.d hT
    refine ⟨upd F T (.tup ys), ⟨l.s.alloc hT, l.t.trans (Tr.alloc l.s.ok hT), by rw [upd_ne n]; exact l.d, by rw [upd_ne n]; exact l.f, l.g, l.r.mono (same_upd (l.s.ok.free hT).1)⟩, ?_, Tr.alloc l.s.ok hT⟩
    exact .tup upd_same (r.mono (same_upd (l.s.ok.free hT).1))
/-- .. behind an expression -/
theorem LS.step {D : Addr} {acc : List V} {ds : List PyData} (l : LS ca env σ H1 F1 G1 D st H F G acc ds) (s : SI ca env st' σ H' F' G') (t : Tr H F G H' F' G') : LS ca env σ H1 F1 G1 D st' H' F' G' acc ds := by
  obtain ⟨h1, h2, h3⟩ := t.keep l.d l.f l.g
  exact ⟨s, l.t.trans t, h1, h2, h3, l.r.mono t.s0⟩
theorem LS.app {D : Addr} {acc : List V} {ds : List PyData} {v : V} {d : PyData} (l : LS ca env σ H1 F1 G1 D st H F G acc ds) (h1 : H1 D = none) (r : Rep F v d) : LS ca env σ H1 F1 G1 D st (upd H D (.lst (acc ++ [v]))) F G (acc ++ [v]) (ds ++ [d]) :=
  ⟨l.s.chg l.f l.g, l.t.chg h1, upd_same, l.f, l.g, l.r.app (.cons r .nil)⟩
theorem lcL_sound {J : It} {xs : List PyData} {Fw : Hp} (w : WalkD J Fw xs) (f : PyData → Store → Out (List PyData)) (RD : V → Hp → (Hp → Prop) → Prop) {D : Addr}
    (el : ∀ d st H F G x H' acc ds ys st', f d st = .ok ys st' → LS ca env σ H1 F1 G1 D st H F G acc ds → Same Fw F → Yld F H d x H' → ds.length + ys.length ≤ sizeLine →
      ∀ Nx : Hp → Prop, (∀ H2 F2 G2 acc2, LS ca env σ H1 F1 G1 D st' H2 F2 G2 acc2 (ds ++ ys) → Same Fw F2 → Nx H2) → RD x H' Nx)
    {ys : List PyData} {st5 : Store} {acc0 : List V} {ds0 : List PyData} (h : lcL f xs st1 = .ok ys st5) (hl : ds0.length + ys.length ≤ sizeLine)
    (l : LS ca env σ H1 F1 G1 D st1 H F G acc0 ds0) (sw : Same Fw F) (Qd : Hp → Prop) (k : ∀ H F G acc, LS ca env σ H1 F1 G1 D st5 H F G acc (ds0 ++ ys) → Same Fw F → Qd H) :
    ∃ W : Nat → Nat → Hp → Prop, (∃ m, W 0 m H) ∧ ∀ i m H, W i m H → (J.stop i H ∧ Qd H) ∨ (J.go i H ∧ ∃ Nx : Hp → Prop, (∀ H', Nx H' → ∃ m', m' < m ∧ W (i + 1) m' H') ∧ ∀ x H', J.yld i H x H' → RD x H' Nx) := by
  refine ⟨fun i m H => m = xs.length - i ∧ i ≤ xs.length ∧ ∃ st F G acc ds zs, LS ca env σ H1 F1 G1 D st H F G acc ds ∧ Same Fw F ∧ lcL f (xs.drop i) st = .ok zs st5 ∧ ds ++ zs = ds0 ++ ys,
    ⟨xs.length, by simp, Nat.zero_le _, st1, F, G, acc0, ds0, ys, l, sw, by rw [List.drop_zero]; exact h, rfl⟩, ?_⟩
  rintro i m H ⟨rfl, hi, st, F, G, acc, ds, zs, l, sw, e, ez⟩
  by_cases hlt : i < xs.length
  · rw [List.drop_eq_getElem_cons hlt] at e
    unfold lcL at e
    split at e
    · rename_i ys1 st2 e1
      split at e
      · rename_i zs1 st3 e2
        cases e
        have hlen : ds.length + ys1.length ≤ sizeLine := by
          have := congrArg List.length ez
          rw [List.length_append, List.length_append, List.length_append] at this
          omega
        refine .inr ⟨w.go H F i sw l.s.ok.sf hlt, fun H' => ∃ F G acc, LS ca env σ H1 F1 G1 D st2 H' F G acc (ds ++ ys1) ∧ Same Fw F, fun H' ⟨F', G', acc', l', sw'⟩ => ⟨xs.length - (i + 1), by omega, rfl, hlt, st2, F', G', acc', _, zs1, l', sw', e2, ?_⟩, fun x H' y => ?_⟩
        · rw [List.append_assoc]; exact ez
        · exact el _ _ _ _ _ _ _ _ _ _ _ e1 l sw (w.yld H F i _ x H' sw l.s.ok.sf (List.getElem?_eq_getElem hlt) y) hlen _ fun H2 F2 G2 acc2 l2 sw2 => ⟨F2, G2, acc2, l2, sw2⟩
      · cases e
    · cases e
  · have ei : i = xs.length := by omega
    subst ei
    rw [List.drop_length] at e
    cases e
    rw [List.append_nil] at ez
    subst ez
    exact .inl ⟨w.stop H F _ sw l.s.ok.sf rfl, k H F G acc l sw⟩

/-! ### a dict comprehended -/
structure LD (ca : Str → Addr) (env : Env) (σ : St) (H1 F1 : Hp) (G1 : GO) (D : Addr) (st : Store) (H F : Hp) (G : GO) (ks : List (Key × V)) (kvs : List (Sum Int Str × PyData)) : Prop where
  s : SI ca env st σ H F G
  t : Tr H1 F1 G1 H F G
  d : H D = some (.dK ks)
  f : F D = none
  g : G D = none
  k : ks.map (·.1) = kvs.map (·.1)
  r : RepA F (ks.map (·.2)) (kvs.map (·.2))
theorem putK_mapr {v : V} {d : PyData} {k : Key} (q : Rep F v d) : ∀ {ks : List (Key × V)} {kvs : List (Sum Int Str × PyData)}, ks.map (·.1) = kvs.map (·.1) → RepA F (ks.map (·.2)) (kvs.map (·.2)) →
    RepA F ((ks.map fun kv => if kv.1 = k then (kv.1, v) else kv).map (·.2)) ((kvs.map fun kv => if kv.1 = k then (kv.1, d) else kv).map (·.2))
  | [], [], _, _ => .nil
  | [], _ :: _, e, _ => by simp at e
  | _ :: _, [], e, _ => by simp at e
  | a :: ks, b :: kvs, e, r => by
    simp only [List.map_cons, List.cons.injEq] at e
    cases r with
    | cons r1 r2 =>
      refine .cons ?_ (putK_mapr q e.2 r2)
      show Rep F (if a.1 = k then (a.1, v) else a).2 (if b.1 = k then (b.1, d) else b).2
      rw [e.1]
      split
      · exact q
      · exact r1
theorem putK_rep {v : V} {d : PyData} {k : Key} (q : Rep F v d) : ∀ {ks : List (Key × V)} {kvs : List (Sum Int Str × PyData)}, ks.map (·.1) = kvs.map (·.1) → RepA F (ks.map (·.2)) (kvs.map (·.2)) →
    (putK ks k v).map (·.1) = (putKD kvs k d).map (·.1) ∧ RepA F ((putK ks k v).map (·.2)) ((putKD kvs k d).map (·.2)) := by
  intro ks kvs e r
  have ea : (ks.any fun kv => decide (kv.1 = k)) = (kvs.any fun kv => decide (kv.1 = k)) := by
    have h : ∀ {α : Type} (l : List (Sum Int Str × α)), (l.any fun kv => decide (kv.1 = k)) = (l.map (·.1)).any fun x => decide (x = k) := fun l => by
      rw [List.any_map] <;> rfl
    rw [h ks, h kvs, e]
  unfold putK putKD
  rw [ea]
  split
  · have h1 : ∀ {α : Type} (l : List (Sum Int Str × α)) (w : α), (l.map fun kv => if kv.1 = k then (kv.1, w) else kv).map (·.1) = l.map (·.1) := fun l w => by
      rw [List.map_map]
      refine List.map_congr_left fun x _ => ?_
      show (if x.1 = k then (x.1, w) else x).1 = x.1
      split <;> rfl
    exact ⟨by rw [h1 ks v, h1 kvs d]; exact e, putK_mapr q e r⟩
  · rw [List.map_append, List.map_append, List.map_append, List.map_append, e]
    exact ⟨rfl, r.app (.cons q .nil)⟩
theorem dcL_sound {J : It} {xs : List PyData} {Fw : Hp} (w : WalkD J Fw xs) (f : PyData → Store → Out (Sum Int Str × PyData)) (RD : V → Hp → (Hp → Prop) → Prop) {D : Addr}
    (el : ∀ d st H F G x H' ks kvs kv st', f d st = .ok kv st' → LD ca env σ H1 F1 G1 D st H F G ks kvs → Same Fw F → Yld F H d x H' → kvs.length + 1 ≤ sizeLine →
      ∀ Nx : Hp → Prop, (∀ H2 F2 G2 ks2, LD ca env σ H1 F1 G1 D st' H2 F2 G2 ks2 (putKD kvs kv.1 kv.2) → Same Fw F2 → Nx H2) → RD x H' Nx)
    {kvsE : List (Sum Int Str × PyData)} {st5 : Store} (h : dcL f xs st1 [] = .ok kvsE st5)
    (l : LD ca env σ H1 F1 G1 D st1 H F G [] []) (sw : Same Fw F) (Qd : Hp → Prop) (k : ∀ H F G ks, LD ca env σ H1 F1 G1 D st5 H F G ks kvsE → Qd H) :
    ∃ W : Nat → Nat → Hp → Prop, (∃ m, W 0 m H) ∧ ∀ i m H, W i m H → (J.stop i H ∧ Qd H) ∨ (J.go i H ∧ ∃ Nx : Hp → Prop, (∀ H', Nx H' → ∃ m', m' < m ∧ W (i + 1) m' H') ∧ ∀ x H', J.yld i H x H' → RD x H' Nx) := by
  refine ⟨fun i m H => m = xs.length - i ∧ i ≤ xs.length ∧ ∃ st F G ks kvs, LD ca env σ H1 F1 G1 D st H F G ks kvs ∧ Same Fw F ∧ dcL f (xs.drop i) st kvs = .ok kvsE st5,
    ⟨xs.length, by simp, Nat.zero_le _, st1, F, G, [], [], l, sw, by rw [List.drop_zero]; exact h⟩, ?_⟩
  rintro i m H ⟨rfl, hi, st, F, G, ks, kvs, l, sw, e⟩
  by_cases hlt : i < xs.length
  · rw [List.drop_eq_getElem_cons hlt] at e
    unfold dcL at e
    split at e
    · rename_i kv st2 e1
      split at e
      · rename_i hl
        refine .inr ⟨w.go H F i sw l.s.ok.sf hlt, fun H' => ∃ F G ks, LD ca env σ H1 F1 G1 D st2 H' F G ks (putKD kvs kv.1 kv.2) ∧ Same Fw F, fun H' ⟨F', G', ks', l', sw'⟩ => ⟨xs.length - (i + 1), by omega, rfl, hlt, st2, F', G', ks', _, l', sw', e⟩, fun x H' y => ?_⟩
        exact el _ _ _ _ _ _ _ _ _ _ _ e1 l sw (w.yld H F i _ x H' sw l.s.ok.sf (List.getElem?_eq_getElem hlt) y) (of_decide_eq_true hl) _ fun H2 F2 G2 ks2 l2 sw2 => ⟨F2, G2, ks2, l2, sw2⟩
      · cases e
    · cases e
  · have ei : i = xs.length := by omega
    subst ei
    rw [List.drop_length] at e
    cases e
    exact .inl ⟨w.stop H F _ sw l.s.ok.sf rfl, k H F G ks l⟩

section
variable {R : RdC} {Fn : Fs}
/-- what is asked of a test within a comprehension -/
def ElC (R : RdC) (Fn : Fs) (c : C) : Prop := ∀ env st σ H F G (Q : Bool → Hp → Prop), SI R.ca env st σ H F G → PX R.ca EW0 env σ (evC Fn c env st) H F G (fun b st' H' F' G' => Q b H') → tCd R EW0 c σ H Q
def ElE (R : RdC) (Fn : Fs) (e : E) : Prop := ∀ env st σ H F G (Q : VK), SI R.ca env st σ H F G → PX R.ca EW0 env σ (ev Fn e env st) H F G (fun d st' H' F' G' => ∀ v, Rep F' v d → Q v H') → tE R EW0 e σ H Q
/-- one turn's frame -/
theorem turn_frame {vs : List Nat} {g : Tg} {D : Addr} {acc : List V} {ds : List PyData} {d : PyData} {x : V} (l : LS R.ca env σ H1 F1 G1 D st H F G acc ds) (y : Yld F H d x H') (hg : gIn vs g = true) (no : noOwn env vs = true)
    (e : setG g d (wipeE env vs) = some env2) (Q : St → Hp → Prop)
    (k : ∀ σ2 F2 G2, SI R.ca env2 st σ2 H' F2 G2 → Tr H F G H' F2 G2 → wipe σ2 vs = wipe σ vs → (∀ st' H3 F3 G3, SI R.ca env2 st' σ2 H3 F3 G3 → Tr H' F2 G2 H3 F3 G3 → LS R.ca env σ H1 F1 G1 D st' H3 F3 G3 acc ds) →
      (∀ st0, SI R.ca env st0 σ H1 F1 G1 → ∀ st' H3 F3 G3, SI R.ca env2 st' σ2 H3 F3 G3 → Tr H1 F1 G1 H3 F3 G3 → SI R.ca env st' σ H3 F3 G3) → Q σ2 H') :
    tG R.K g x (wipe σ vs) H' Q := by
  obtain ⟨F', l', r, t⟩ := l.yld y
  obtain ⟨G2, sw, tw⟩ := l'.s.wipe vs
  refine setG_sound g d (wipeE env vs) env2 x (wipe σ vs) G2 Q sw r e fun σ2 G3 s3 t3 off => ?_
  have hlen : env2.length = env.length := by
    rw [setG_len g d _ _ e, wipeE_len]
  have hoff : ∀ i, i ∉ vs → env2[i]? = env[i]? ∧ σ2[i]? = σ[i]? := fun i hi => by
    obtain ⟨a, b⟩ := off i (gHas_in hg hi)
    rw [wipeE_off hi] at a
    rw [wipe_out hi] at b
    exact ⟨a, b⟩
  refine k σ2 F' G3 s3 (t.trans (tw.trans t3)) (wipe_eq (by rw [s3.en.1, hlen, l.s.en.1]) fun i hi => (hoff i hi).2) (fun st' H3 F3 G3' s4 t4 => ?_) fun st0 s1 st' H3 F3 G3' s4 t4 => SI.back s1 t4 s4 hlen no hoff
  have tt : Tr H' F' G H3 F3 G3' := (tw.trans t3).trans t4
  exact l'.step (SI.back l'.s tt s4 hlen no hoff) tt
end
end
end Pm

set_option maxHeartbeats 4000000
/-! Pm6: every expression. -/
namespace Pm
open PySem PySem.Spec L2 RZ
section
variable {ca : Str → Addr} {env env2 : Env} {st st' st1 : Store} {σ σ2 : St} {H F H' F' H1 F1 : Hp} {G G' G1 : GO} {K : PySem.W.Frag} {Q : VK}
theorem kv_of {d : PyData} (h : ∀ H' F' G', SI ca env st σ H' F' G' → Tr H F G H' F' G' → ∀ v, Rep F' v d → Q v H') : KV ca env st σ H F G Q d := fun v H' F' G' s t r => h H' F' G' s t v r
theorem isN_D {v : V} {d : PyData} (r : Rep F v d) : decide (v = .non) = isNoneD d := by
  cases r <;> simp [isNoneD]
theorem getK_V : ∀ {ks : List (Key × V)} {kvs : List (Sum Int Str × PyData)} {k : Key}, ks.map (·.1) = kvs.map (·.1) → RepA F (ks.map (·.2)) (kvs.map (·.2)) →
    (∀ d, getK kvs k = some d → ∃ v, valV ks k = some v ∧ Rep F v d) ∧ (getK kvs k = none → valV ks k = none)
  | [], [], k, _, _ => ⟨fun d h => by simp [getK] at h, fun _ => rfl⟩
  | [], _ :: _, k, e, _ => by simp at e
  | _ :: _, [], k, e, _ => by simp at e
  | (a, v) :: ks, (b, d0) :: kvs, k, e, r => by
    simp only [List.map_cons, List.cons.injEq] at e
    obtain ⟨e1, e2⟩ := e
    subst e1
    cases r with
    | cons r1 r2 =>
      obtain ⟨ih1, ih2⟩ := getK_V (k := k) e2 r2
      by_cases q : a = k
      · subst q
        rw [valV_pos rfl]
        refine ⟨fun d h => ⟨v, rfl, ?_⟩, fun h => ?_⟩
        · simp [getK] at h; subst h; exact r1
        · simp [getK] at h
      · rw [valV_neg q]
        have e3 : getK ((a, d0) :: kvs) k = getK kvs k := by simp [getK, q]
        rw [e3]
        exact ⟨ih1, ih2⟩
theorem keyD_V {v : V} {d : PyData} {k : Key} (r : Rep F v d) (h : keyD d = some k) : v = kV k := by
  cases r with
  | int i => cases h; rfl
  | str x => cases h; rfl
  | _ => cases h
theorem dctOf_eq {i : Nat} {kvs : List (Sum Int Str × PyData)} (h : dctOf env i = some kvs) : env[i]? = some (.dct kvs) := by
  unfold dctOf at h
  split at h
  · cases h; assumption
  · cases h
theorem range2 {i j : Int} (h1 : 0 ≤ i) (h2 : i ≤ 1000) (h3 : 0 ≤ j) (h4 : j ≤ 1000) : RgC i j 2 ((j - i + 1) / 2).toNat := by
  have e : Builtin.Range.rangeSize i j 2 = (((j - i + 1) / 2).toNat : Int) := by
    unfold Builtin.Range.rangeSize
    rw [if_pos (by decide)]
    split <;> omega
  refine ⟨by decide, by decide, ?_, e⟩
  unfold Builtin.Range.small
  rw [e]
  simp only [Builtin.Range.rangeFitsLong, Bool.and_eq_true, Bool.or_eq_true, decide_eq_true_eq, beq_iff_eq, show (2 : Int) > 0 by decide, if_true]
  omega
theorem rg_rep (n : Nat) : RepA F (rgV 0 n) (rngL 0 n 1) := by
  unfold rgV rngL
  rw [show ((n : Int) - 0).toNat = n by omega]
  have key : ∀ l : List Nat, RepA F (l.map fun i => V.int (0 + (i : Nat))) (l.map fun (i : Nat) => PyData.int (0 + i * 1)) := fun l => by
    induction l with
    | nil => exact .nil
    | cons a l ih =>
      refine .cons ?_ ih
      show Rep F (.int (0 + (a : Nat))) (.int (0 + (a : Nat) * 1))
      rw [Int.mul_one]
      exact .int _
  exact key _
theorem len_peek {j : Nat} {x d : PyData} (s : SI ca env st σ H F G) (e : peekD env st j = some x) (h : bltD .len [x] = some d) (k : KV ca env st σ H F G Q d) : ∃ v, σ[j]? = some (some v) ∧ rLen K [v] H Q := by
  unfold peekD at e
  split at e
  · rename_i d0 e1
    cases e
    obtain ⟨v, h1, r⟩ := s.en.2 j _ e1
    exact ⟨v, h1, bltSound (b := .len) s (.cons r .nil) h k⟩
  · rename_i ds e1
    cases e
    obtain ⟨p, vs, h1, h2, _, r⟩ := s.en.2 j _ e1
    cases h
    exact ⟨_, h1, _, _, rfl, .inl ⟨_, SqL.of h2, rfl⟩, by rw [r.len]; exact k.here s (.int _)⟩
  · rename_i o e1
    split at e
    · rename_i ds e2
      cases e
      obtain ⟨a, g, h1⟩ := s.en.2 j _ e1
      obtain ⟨a2, g2, vs, h2, r⟩ := s.ok.go o _ e2
      have ea := s.ok.gi _ _ _ g g2
      subst ea
      cases h
      exact ⟨_, h1, _, _, rfl, .inl ⟨_, SqL.of h2, rfl⟩, by rw [r.len]; exact k.here s (.int _)⟩
    · cases e
  · cases e
theorem idx_peek {j : Nat} {x y d : PyData} {v w : V} (s : SI ca env st σ H F G) (hv : σ[j]? = some (some v)) (e : peekD env st j = some x) (r2 : Rep F w y) (h : idxD x y = some d) (k : KV ca env st σ H F G Q d) : rIx K v w H Q := by
  unfold peekD at e
  split at e
  · rename_i d0 e1
    cases e
    obtain ⟨v, h1, r⟩ := s.en.2 j _ e1
    rw [hv] at h1
    cases h1
    exact idxSound s r r2 h k
  · rename_i ds e1
    cases e
    obtain ⟨p, vs, h1, h2, _, r⟩ := s.en.2 j _ e1
    rw [hv] at h1
    cases h1
    unfold idxD at h
    split at h
    · rename_i q
      cases q
      cases r2
      exact idxSoundL s h2 r h k
    · rename_i q; cases q
    · rename_i q; cases q
    · cases h
  · rename_i o e1
    split at e
    · rename_i ds e2
      cases e
      obtain ⟨a, g, h1⟩ := s.en.2 j _ e1
      rw [hv] at h1
      cases h1
      obtain ⟨a2, g2, vs, h2, r⟩ := s.ok.go o _ e2
      have ea := s.ok.gi _ _ _ g g2
      subst ea
      unfold idxD at h
      split at h
      · rename_i q
        cases q
        cases r2
        exact idxSoundL s h2 r h k
      · rename_i q; cases q
      · rename_i q; cases q
      · cases h
    · cases e
  · cases e
theorem seen_v {j : Nat} (s : SI ca env st σ H F G) (h : seen env j = true) : ∃ v, σ[j]? = some (some v) := by
  unfold seen at h
  split at h
  · rename_i d e; obtain ⟨v, h1, _⟩ := s.en.2 j _ e; exact ⟨v, h1⟩
  · rename_i d e; obtain ⟨p, _, h1, _⟩ := s.en.2 j _ e; exact ⟨_, h1⟩
  · rename_i d e; obtain ⟨p, _, h1⟩ := s.en.2 j _ e; exact ⟨_, h1⟩
  · cases h
section
variable {R : RdC} {Fn : Fs}
theorem call_sound (ok : FsOk R Fn) {W : EW} {f : Str} {as : List Arg} {vs : List V} {E : XK} (s : SI R.ca env st σ H F G) (a : ArgsRep F G vs as) (hE : W σ = E)
    (p : PX R.ca W env σ (Fn.call f as st) H F G (fun d st' H' F' G' => ∀ v, Rep F' v d → Q v H')) : R.fsp f vs H Q E := by
  refine ok.call f as st H F (hideS G) vs Q E s.ok.hide hideS_no a.hide ?_
  cases e : Fn.call f as st with
  | no => rw [e] at p; exact p
  | ok d st' =>
    rw [e] at p
    intro v H' F' G1 o1 n1 t r
    obtain ⟨s2, t2⟩ := s.called o1 n1 t
    exact p H' F' _ s2 t2 v r
  | ex x st' =>
    rw [e] at p
    intro H' F' G1 o1 n1 t
    obtain ⟨s2, t2⟩ := s.called o1 n1 t
    rw [← hE]
    exact p H' F' _ s2 t2
theorem meth_sound (ok : FsOk R Fn) {W : EW} {c m : Str} {as : List Arg} {vs : List V} (s : SI R.ca env st σ H F G) (a : ArgsRep F G vs as)
    (p : PX R.ca W env σ (noEx (Fn.meth c m as st)) H F G (fun d st' H' F' G' => ∀ v, Rep F' v d → Q v H')) : R.msp c m vs H Q (fun _ _ _ => False) := by
  refine ok.meth c m as st H F (hideS G) vs Q s.ok.hide hideS_no a.hide ?_
  cases e : Fn.meth c m as st with
  | no => rw [e] at p; exact p
  | ok d st' =>
    rw [e] at p
    intro v H' F' G1 o1 n1 t r
    obtain ⟨s2, t2⟩ := s.called o1 n1 t
    exact p H' F' _ s2 t2 v r
  | ex x st' => rw [e] at p; exact p.elim
/-- the element of a list comprehension -/
theorem el_sound {c : C} {e : E} (hc : ElC R Fn c) (he : ElE R Fn e) {vs : List Nat} {g : Tg} {D : Addr} (hD : H1 D = none) (hg : gIn vs g = true) (no : noOwn env vs = true) :
    ∀ d st H F G x H' acc ds ys st', (match setG g d (wipeE env vs) with
        | some env2 => (evC Fn c env2 st).bind fun t st3 => (match t with
          | true => (ev Fn e env2 st3).bind fun y st4 => .ok [y] st4
          | false => .ok [] st3)
        | none => Out.no) = .ok ys st' → LS R.ca env σ H1 F1 G1 D st H F G acc ds → Yld F H d x H' → ds.length + ys.length ≤ sizeLine →
      ∀ Nx : Hp → Prop, (∀ H2 F2 G2 acc2, LS R.ca env σ H1 F1 G1 D st' H2 F2 G2 acc2 (ds ++ ys) → Same F F2 → Nx H2) →
        tG R.K g x (wipe σ vs) H' fun σ2 H2 => wipe σ2 vs = wipe σ vs ∧ tCd R EW0 c σ2 H2 fun b H3 =>
          if b = true then tE R EW0 e σ2 H3 fun y H4 => ∃ acc, H4 D = some (.lst acc) ∧ acc.length < sizeLine ∧ Nx (upd H4 D (.lst (acc ++ [y]))) else Nx H3 := by
  intro d st H F G x H' acc ds ys st' h l y hlen Nx nx
  split at h
  · rename_i env2 e2
    refine turn_frame l y hg no e2 _ fun σ2 F2 G2 s2 t2 w back _ => ⟨w, ?_⟩
    cases ec : evC Fn c env2 st with
    | no => rw [ec] at h; cases h
    | ex _ _ => rw [ec] at h; cases h
    | ok b st3 =>
      rw [ec] at h
      refine hc env2 st σ2 H' F2 G2 _ s2 ?_
      rw [ec]
      intro H3 F3 G3 s3 t3
      cases b with
      | false =>
        have h : Out.ok ([] : List PyData) st3 = .ok ys st' := h
        cases h
        rw [if_neg Bool.false_ne_true]
        refine nx H3 F3 G3 acc ?_ (t2.trans t3).s0
        rw [List.append_nil]
        exact back _ _ _ _ s3 t3
      | true =>
        have h : (ev Fn e env2 st3).bind (fun y st4 => .ok [y] st4) = .ok ys st' := h
        rw [if_pos rfl]
        refine he env2 st3 σ2 H3 F3 G3 _ s3 ?_
        cases ee : ev Fn e env2 st3 with
        | no => rw [ee] at h; cases h
        | ex _ _ => rw [ee] at h; cases h
        | ok z st4 =>
          rw [ee] at h
          cases h
          intro H4 F4 G4 s4 t4 v r
          have l4 := back _ _ _ _ s4 (t3.trans t4)
          refine ⟨acc, l4.d, ?_, nx _ F4 G4 _ (l4.app hD r) ((t2.trans t3).trans t4).s0⟩
          rw [l4.r.len]
          have : ds.length + 1 ≤ sizeLine := hlen
          omega
  · cases h
/-- a pair of a dict comprehension -/
theorem LD.ls {D : Addr} {ks : List (Key × V)} {kvs : List (Sum Int Str × PyData)} (l : LD ca env σ H1 F1 G1 D st H F G ks kvs) : SI ca env st σ H F G := l.s
theorem turn_frameD {vs : List Nat} {g : Tg} {D : Addr} {ks : List (Key × V)} {kvs : List (Sum Int Str × PyData)} {d : PyData} {x : V} (l : LD R.ca env σ H1 F1 G1 D st H F G ks kvs) (y : Yld F H d x H') (hg : gIn vs g = true) (no : noOwn env vs = true)
    (e : setG g d (wipeE env vs) = some env2) (Q : St → Hp → Prop)
    (k : ∀ σ2 F2 G2, SI R.ca env2 st σ2 H' F2 G2 → Tr H F G H' F2 G2 → wipe σ2 vs = wipe σ vs → (∀ st' H3 F3 G3, SI R.ca env2 st' σ2 H3 F3 G3 → Tr H' F2 G2 H3 F3 G3 → LD R.ca env σ H1 F1 G1 D st' H3 F3 G3 ks kvs) → Q σ2 H') :
    tG R.K g x (wipe σ vs) H' Q := by
  have ht : ∃ F', SI R.ca env st σ H' F' G ∧ Rep F' x d ∧ Tr H F G H' F' G := by
    rcases y with ⟨rfl, r⟩ | ⟨T, ys, es, rfl, hT, rfl, rfl, r⟩
    · exact ⟨F, l.s, r, Tr.refl _ _ _⟩
    · exact ⟨upd F T (.tup ys), l.s.alloc hT, .tup upd_same (r.mono (same_upd (l.s.ok.free hT).1)), Tr.alloc l.s.ok hT⟩
  obtain ⟨F', s', r, t⟩ := ht
  obtain ⟨G2, sw, tw⟩ := s'.wipe vs
  refine setG_sound g d (wipeE env vs) env2 x (wipe σ vs) G2 Q sw r e fun σ2 G3 s3 t3 off => ?_
  have hlen : env2.length = env.length := by
    rw [setG_len g d _ _ e, wipeE_len]
  have hoff : ∀ i, i ∉ vs → env2[i]? = env[i]? ∧ σ2[i]? = σ[i]? := fun i hi => by
    obtain ⟨a, b⟩ := off i (gHas_in hg hi)
    rw [wipeE_off hi] at a
    rw [wipe_out hi] at b
    exact ⟨a, b⟩
  refine k σ2 F' G3 s3 (t.trans (tw.trans t3)) (wipe_eq (by rw [s3.en.1, hlen, l.s.en.1]) fun i hi => (hoff i hi).2) fun st' H3 F3 G3' s4 t4 => ?_
  have tt : Tr H' F' G H3 F3 G3' := (tw.trans t3).trans t4
  have t5 := t.trans tt
  obtain ⟨k1, k2, k3⟩ := t5.keep l.d l.f l.g
  exact ⟨SI.back s' tt s4 hlen no hoff, l.t.trans t5, k1, k2, k3, l.k, l.r.mono t5.s0⟩
theorem eld_sound {k x : E} (hk : ElE R Fn k) (he : ElE R Fn x) {vs : List Nat} {g : Tg} {D : Addr} (hD : H1 D = none) (hg : gIn vs g = true) (no : noOwn env vs = true) :
    ∀ d st H F G y H' ks kvs kv st', (match setG g d (wipeE env vs) with
        | some env2 => (ev Fn k env2 st).bind fun y st3 => (ev Fn x env2 st3).bind fun z st4 => Out.ofO ((keyD y).map fun key => (key, z)) st4
        | none => Out.no) = .ok kv st' → LD R.ca env σ H1 F1 G1 D st H F G ks kvs → Yld F H d y H' → kvs.length + 1 ≤ sizeLine →
      ∀ Nx : Hp → Prop, (∀ H2 F2 G2 ks2, LD R.ca env σ H1 F1 G1 D st' H2 F2 G2 ks2 (putKD kvs kv.1 kv.2) → Same F F2 → Nx H2) →
        tG R.K g y (wipe σ vs) H' fun σ2 H2 => wipe σ2 vs = wipe σ vs ∧ tYes σ2 H2 fun b H3 =>
          if b = true then tE R EW0 k σ2 H3 fun y H4 => tE R EW0 x σ2 H4 fun z H5 => ∃ kvs k, y = kV k ∧ H5 D = some (.dK kvs) ∧ kvs.length < sizeLine ∧ Nx (upd H5 D (.dK (putK kvs k z))) else Nx H3 := by
  intro d st H F G y H' ks kvs kv st' h l yy hlen Nx nx
  split at h
  · rename_i env2 e2
    refine turn_frameD l yy hg no e2 _ fun σ2 F2 G2 s2 t2 w back => ⟨w, ?_⟩
    unfold tYes
    refine iteT ?_
    cases ec : ev Fn k env2 st with
    | no => rw [ec] at h; cases h
    | ex _ _ => rw [ec] at h; cases h
    | ok b st3 =>
      rw [ec] at h
      refine hk env2 st σ2 H' F2 G2 _ s2 ?_
      rw [ec]
      intro H3 F3 G3 s3 t3 v3 r3
      have h : ((ev Fn x env2 st3).bind fun z st4 => Out.ofO ((keyD b).map fun key => (key, z)) st4) = .ok kv st' := h
      refine he env2 st3 σ2 H3 F3 G3 _ s3 ?_
      cases ee : ev Fn x env2 st3 with
      | no => rw [ee] at h; cases h
      | ex _ _ => rw [ee] at h; cases h
      | ok z st4 =>
        rw [ee] at h
        have h : Out.ofO ((keyD b).map fun key => (key, z)) st4 = .ok kv st' := h
        cases eb : keyD b with
        | none => rw [eb] at h; cases h
        | some key =>
          rw [eb] at h
          cases h
          intro H4 F4 G4 s4 t4 v4 r4
          have l4 := back _ _ _ _ s4 (t3.trans t4)
          obtain ⟨p1, p2⟩ := putK_rep (k := key) r4 l4.k l4.r
          have e7 : ks.length = kvs.length := by
            have := congrArg List.length l4.k
            simpa using this
          exact ⟨ks, key, keyD_V r3 eb, l4.d, by omega, nx _ F4 G4 _ ⟨l4.s.chg l4.f l4.g, l4.t.chg hD, upd_same, l4.f, l4.g, p1, p2⟩ ((t2.trans t3).trans t4).s0⟩
  · cases h
theorem dcL_noex {f : PyData → Store → Out (Sum Int Str × PyData)} : ∀ {xs : List PyData} {st : Store} {acc : List (Sum Int Str × PyData)}, (∃ ys st2, dcL f xs st acc = .ok ys st2) ∨ dcL f xs st acc = .no
  | [], st, acc => .inl ⟨_, _, rfl⟩
  | x :: xs, st, acc => by
    unfold dcL
    split
    · split
      · exact dcL_noex
      · exact .inr rfl
    · exact .inr rfl
theorem okL_ok {x : Out (List PyData)} {ys : List PyData} {st5 : Store} (h : okL x = .ok ys st5) : x = .ok ys st5 ∧ ys.length ≤ sizeLine := by
  unfold okL at h
  split at h
  · split at h
    · rename_i q
      cases h
      exact ⟨rfl, okLen_le q⟩
    · cases h
  · cases h
theorem okL_noex {x : Out (List PyData)} : (∃ ys st, okL x = .ok ys st) ∨ okL x = .no := by
  unfold okL
  split
  · split
    · exact .inl ⟨_, _, rfl⟩
    · exact .inr rfl
  · exact .inr rfl
theorem Tr.fresh0 {H F H1 F1 : Hp} {G G1 : GO} {D : Addr} (t : Tr H F G H1 F1 G1) (h : H1 D = none) : H D = none := by
  cases e : H D with
  | none => rfl
  | some o =>
    obtain ⟨o', e'⟩ := t.th D o e
    rw [h] at e'
    cases e'
end
end
end Pm

set_option maxHeartbeats 4000000
/-! Pm7: every expression keeps its reading. -/
namespace Pm
open PySem PySem.Spec L2 RZ
section
variable {R : RdC} {Fn : Fs}
mutual
theorem evS (ok : FsOk R Fn) : ∀ (e : E) (W : EW) (env : Env) (st : Store) (σ : St) (H F : Hp) (G : GO) (Q : VK), SI R.ca env st σ H F G →
    PX R.ca W env σ (ev Fn e env st) H F G (fun d st' H' F' G' => ∀ v, Rep F' v d → Q v H') → tE R W e σ H Q
  | .var i, W, env, st, σ, H, F, G, Q, s, p => by
    rw [ev] at p
    cases e : env[i]? with
    | none => rw [e] at p; exact p.elim
    | some x =>
      rw [e] at p
      cases x with
      | dat d =>
        obtain ⟨v, h1, r⟩ := s.en.2 i _ e
        exact ⟨v, h1, p H F G s (Tr.refl _ _ _) v r⟩
      | _ => exact p.elim
  | .lit d, W, env, st, σ, H, F, G, Q, s, p => by
    rw [ev] at p
    exact p H F G s (Tr.refl _ _ _) _ (litV_rep d)
  | .glo _ d, W, env, st, σ, H, F, G, Q, s, p => by
    rw [ev] at p
    exact p H F G s (Tr.refl _ _ _) _ (litV_rep d)
  | .tup es, W, env, st, σ, H, F, G, Q, s, p => by
    rw [ev] at p
    refine evsS ok es W env st σ H F G _ s (PX.mono (PX.bind p) fun ds st1 H1 F1 G1 s1 t1 h vs a => ?_)
    split at h
    · rename_i hl
      exact ⟨len_eq a hl, KV.tup (kv_of h) s1 a⟩
    · exact h.elim
  | .lst es, W, env, st, σ, H, F, G, Q, s, p => by
    rw [ev] at p
    refine evsS ok es W env st σ H F G _ s (PX.mono (PX.bind p) fun ds st1 H1 F1 G1 s1 t1 h vs a => ?_)
    split at h
    · rename_i hl
      exact ⟨len_eq a hl, KV.lst (kv_of h) s1 a⟩
    · exact h.elim
  | .bin op a b, W, env, st, σ, H, F, G, Q, s, p => by
    rw [ev] at p
    refine evS ok a W env st σ H F G _ s (PX.mono (PX.bind p) fun x st1 H1 F1 G1 s1 t1 h v1 r1 => ?_)
    refine evS ok b W env st1 σ H1 F1 G1 _ s1 (PX.mono (PX.bind h) fun y st2 H2 F2 G2 s2 t2 h2 v2 r2 => ?_)
    obtain ⟨d, e, h3⟩ := PX.ofO h2
    exact binSound s2 (r1.mono t2.s0) r2 e (kv_of h3)
  | .neg a, W, env, st, σ, H, F, G, Q, s, p => by
    rw [ev] at p
    refine evS ok a W env st σ H F G _ s (PX.mono (PX.bind p) fun x st1 H1 F1 G1 s1 t1 h v1 r1 => ?_)
    obtain ⟨d, e, h3⟩ := PX.ofO h
    cases r1 with
    | int i => cases e; exact ⟨_, rfl, h3 H1 F1 G1 s1 (Tr.refl _ _ _) _ (.int _)⟩
    | _ => cases e
  | .not a, W, env, st, σ, H, F, G, Q, s, p => by
    rw [ev] at p
    refine evS ok a W env st σ H F G _ s (PX.mono (PX.bind p) fun x st1 H1 F1 G1 s1 t1 h v1 r1 => ?_)
    obtain ⟨d, e, h3⟩ := PX.ofO h
    cases r1 with
    | bl i => cases e; exact ⟨_, rfl, h3 H1 F1 G1 s1 (Tr.refl _ _ _) _ (.bl _)⟩
    | _ => cases e
  | .and a b, W, env, st, σ, H, F, G, Q, s, p => by
    rw [ev] at p
    refine evS ok a W env st σ H F G _ s (PX.mono (PX.bind p) fun x st1 H1 F1 G1 s1 t1 h v1 r1 => ?_)
    cases r1 with
    | bl i =>
      refine ⟨i, rfl, ?_⟩
      cases i with
      | true => rw [if_pos rfl]; exact evS ok b W env st1 σ H1 F1 G1 Q s1 h
      | false => rw [if_neg Bool.false_ne_true]; exact h H1 F1 G1 s1 (Tr.refl _ _ _) _ (.bl _)
    | _ => exact h.elim
  | .or a b, W, env, st, σ, H, F, G, Q, s, p => by
    rw [ev] at p
    refine evS ok a W env st σ H F G _ s (PX.mono (PX.bind p) fun x st1 H1 F1 G1 s1 t1 h v1 r1 => ?_)
    cases r1 with
    | bl i =>
      refine ⟨i, rfl, ?_⟩
      cases i with
      | false => rw [if_neg Bool.false_ne_true]; exact evS ok b W env st1 σ H1 F1 G1 Q s1 h
      | true => rw [if_pos rfl]; exact h H1 F1 G1 s1 (Tr.refl _ _ _) _ (.bl _)
    | _ => exact h.elim
  | .cmp op a b, W, env, st, σ, H, F, G, Q, s, p => by
    rw [ev] at p
    refine evS ok a W env st σ H F G _ s (PX.mono (PX.bind p) fun x st1 H1 F1 G1 s1 t1 h v1 r1 => ?_)
    refine evS ok b W env st1 σ H1 F1 G1 _ s1 (PX.mono (PX.bind h) fun y st2 H2 F2 G2 s2 t2 h2 v2 r2 => ?_)
    obtain ⟨d, e, h3⟩ := PX.ofO h2
    cases ec : cmpD op x y with
    | none => rw [ec] at e; cases e
    | some c =>
      rw [ec] at e
      cases e
      exact cmpSound s2 (r1.mono t2.s0) r2 ec (h3 H2 F2 G2 s2 (Tr.refl _ _ _) _ (.bl _))
  | .isN a, W, env, st, σ, H, F, G, Q, s, p => by
    rw [ev] at p
    refine evS ok a W env st σ H F G _ s (PX.mono (PX.bind p) fun x st1 H1 F1 G1 s1 t1 h v1 r1 => ?_)
    show Q (.bl (decide (v1 = .non))) H1
    rw [isN_D r1]
    exact h H1 F1 G1 s1 (Tr.refl _ _ _) _ (.bl _)
  | .notN a, W, env, st, σ, H, F, G, Q, s, p => by
    rw [ev] at p
    refine evS ok a W env st σ H F G _ s (PX.mono (PX.bind p) fun x st1 H1 F1 G1 s1 t1 h v1 r1 => ?_)
    show Q (.bl (!decide (v1 = .non))) H1
    rw [isN_D r1]
    exact h H1 F1 G1 s1 (Tr.refl _ _ _) _ (.bl _)
  | .chain o1 o2 a b c, W, env, st, σ, H, F, G, Q, s, p => by
    rw [ev] at p
    refine evS ok a W env st σ H F G _ s (PX.mono (PX.bind p) fun x st1 H1 F1 G1 s1 t1 h v1 r1 => ?_)
    refine evS ok b W env st1 σ H1 F1 G1 _ s1 (PX.mono (PX.bind h) fun y st2 H2 F2 G2 s2 t2 h2 v2 r2 => ?_)
    cases ec : cmpD o1 x y with
    | none => rw [ec] at h2; exact h2.elim
    | some t =>
      rw [ec] at h2
      refine cmpSound s2 (r1.mono t2.s0) r2 ec ⟨t, rfl, ?_⟩
      cases t with
      | false => rw [if_neg Bool.false_ne_true]; exact h2 H2 F2 G2 s2 (Tr.refl _ _ _) _ (.bl _)
      | true =>
        rw [if_pos rfl]
        refine evS ok c W env st2 σ H2 F2 G2 _ s2 (PX.mono (PX.bind h2) fun z st3 H3 F3 G3 s3 t3 h3 v3 r3 => ?_)
        obtain ⟨d, e, h4⟩ := PX.ofO h3
        cases ec2 : cmpD o2 y z with
        | none => rw [ec2] at e; cases e
        | some c =>
          rw [ec2] at e
          cases e
          exact cmpSound s3 (r2.mono t3.s0) r3 ec2 (h4 H3 F3 G3 s3 (Tr.refl _ _ _) _ (.bl _))
  | .ife c a b, W, env, st, σ, H, F, G, Q, s, p => by
    rw [ev] at p
    refine evTS ok c W env st σ H F G _ s (PX.mono (PX.bind p) fun t st1 H1 F1 G1 s1 t1 h => ?_)
    cases t with
    | true => rw [if_pos rfl]; exact evS ok a W env st1 σ H1 F1 G1 Q s1 h
    | false => rw [if_neg Bool.false_ne_true]; exact evS ok b W env st1 σ H1 F1 G1 Q s1 h
  | .idx a b, W, env, st, σ, H, F, G, Q, s, p => by
    rw [ev] at p
    refine evS ok a W env st σ H F G _ s (PX.mono (PX.bind p) fun x st1 H1 F1 G1 s1 t1 h v1 r1 => ?_)
    refine evS ok b W env st1 σ H1 F1 G1 _ s1 (PX.mono (PX.bind h) fun y st2 H2 F2 G2 s2 t2 h2 v2 r2 => ?_)
    obtain ⟨d, e, h3⟩ := PX.ofO h2
    exact idxSound s2 (r1.mono t2.s0) r2 e (kv_of h3)
  | .idxV j b, W, env, st, σ, H, F, G, Q, s, p => by
    rw [ev] at p
    split at p
    · rename_i hs
      obtain ⟨v, hv⟩ := seen_v s hs
      refine ⟨v, hv, ?_⟩
      refine evS ok b W env st σ H F G _ s (PX.mono (PX.bind p) fun y st2 H2 F2 G2 s2 t2 h2 v2 r2 => ?_)
      obtain ⟨d, e, h3⟩ := PX.ofO h2
      cases ex : peekD env st2 j with
      | none => rw [ex] at e; cases e
      | some x =>
        rw [ex] at e
        exact idx_peek s2 hv ex r2 e (kv_of h3)
    · exact p.elim
  | .sl a lo hi, W, env, st, σ, H, F, G, Q, s, p => by
    rw [ev] at p
    refine evS ok a W env st σ H F G _ s (PX.mono (PX.bind p) fun x st1 H1 F1 G1 s1 t1 h v1 r1 => ?_)
    refine evOS ok lo W env st1 σ H1 F1 G1 _ s1 (PX.mono (PX.bind h) fun l st2 H2 F2 G2 s2 t2 h2 => ?_)
    refine evOS ok hi W env st2 σ H2 F2 G2 _ s2 (PX.mono (PX.bind h2) fun u st3 H3 F3 G3 s3 t3 h3 => ?_)
    obtain ⟨d, e, h4⟩ := PX.ofO h3
    exact slSound s3 ((r1.mono t2.s0).mono t3.s0) e (kv_of h4)
  | .rev a, W, env, st, σ, H, F, G, Q, s, p => by
    rw [ev] at p
    refine evS ok a W env st σ H F G _ s (PX.mono (PX.bind p) fun x st1 H1 F1 G1 s1 t1 h v1 r1 => ?_)
    obtain ⟨d, e, h3⟩ := PX.ofO h
    cases r1 with
    | lst g q => cases e; exact ⟨_, _, rfl, SqL.of (s1.ok.sf _ _ g), KV.lst (kv_of h3) s1 q.rev⟩
    | _ => cases e
  | .tabGet t i, W, env, st, σ, H, F, G, Q, s, p => by
    rw [ev] at p
    refine evS ok i W env st σ H F G _ s (PX.mono (PX.bind p) fun x st1 H1 F1 G1 s1 t1 h v1 r1 => ?_)
    obtain ⟨d, e, h3⟩ := PX.ofO h
    cases r1 with
    | str z =>
      have e : ((Fn.tab t).lookup z).map Lit.d = some d := e
      cases el : (Fn.tab t).lookup z with
      | none => rw [el] at e; cases e
      | some l =>
        rw [el] at e
        cases e
        have ne : (Fn.tab t).isEmpty = false := by
          cases q : Fn.tab t with
          | nil => rw [q] at el; cases el
          | cons _ _ => rfl
        obtain ⟨es, n, kd⟩ := ok.tabD t ne
        obtain ⟨r, hr, hm⟩ := ok.tab t ne z
        rw [el] at hm
        obtain ⟨u, er, ru⟩ := hm
        subst er
        exact ⟨_, z, _, rfl, rfl, ⟨es, n, u, kd.at_, kd.lit, hr, ru⟩, h3 H1 F1 G1 s1 (Tr.refl _ _ _) _ (litV_rep l)⟩
    | _ => cases e
  | .tabIn t neg i, W, env, st, σ, H, F, G, Q, s, p => by
    rw [ev] at p
    refine evS ok i W env st σ H F G _ s (PX.mono (PX.bind p) fun x st1 H1 F1 G1 s1 t1 h v1 r1 => ?_)
    obtain ⟨d, e, h3⟩ := PX.ofO h
    split at e
    · cases e
    · rename_i ne
      have ne : (Fn.tab t).isEmpty = false := by
        cases q : (Fn.tab t).isEmpty with
        | false => rfl
        | true => exact absurd q ne
      cases r1 with
      | str z =>
        cases e
        obtain ⟨r, hr, hm⟩ := ok.tab t ne z
        refine ⟨z, r, rfl, rfl, hr, ?_⟩
        have er : r.isSome = ((Fn.tab t).lookup z).isSome := by
          cases el : (Fn.tab t).lookup z with
          | none => rw [el] at hm; rw [hm] <;> rfl
          | some l => rw [el] at hm; obtain ⟨u, er, _⟩ := hm; rw [er] <;> rfl
        rw [er]
        exact h3 H1 F1 G1 s1 (Tr.refl _ _ _) _ (.bl _)
      | _ => cases e
  | .dget i k, W, env, st, σ, H, F, G, Q, s, p => by
    rw [ev] at p
    split at p
    · rename_i hs
      obtain ⟨kvs, hk⟩ := Option.isSome_iff_exists.mp hs
      obtain ⟨q, ks, h1, h2, g, e1, a⟩ := s.en.2 i _ (dctOf_eq hk)
      refine ⟨_, h1, ?_⟩
      refine evS ok k W env st σ H F G _ s (PX.mono (PX.bind p) fun y st2 H2 F2 G2 s2 t2 hh v2 r2 => ?_)
      obtain ⟨d, e, h3⟩ := PX.ofO hh
      rw [hk] at e
      have e : ((keyD y).bind fun key => getK kvs key) = some d := e
      cases ek : keyD y with
      | none => rw [ek] at e; cases e
      | some key =>
        rw [ek] at e
        have e : getK kvs key = some d := e
        have e5 := keyD_V r2 ek
        subst e5
        obtain ⟨q2, ks2, h12, h22, g2, e12, a2⟩ := s2.en.2 i _ (dctOf_eq hk)
        rw [h1] at h12
        cases h12
        obtain ⟨v, ev1, rv⟩ := (getK_V (k := key) e12 a2).1 d e
        refine ⟨q, v, rfl, ?_, h3 H2 F2 G2 s2 (Tr.refl _ _ _) v rv⟩
        rw [← ev1]
        exact DGet.k h22
    · exact p.elim
  | .dgetOr i k x, W, env, st, σ, H, F, G, Q, s, p => by
    rw [ev] at p
    split at p
    · rename_i hs
      obtain ⟨kvs, hk⟩ := Option.isSome_iff_exists.mp hs
      obtain ⟨q, ks, h1, h2, g, e1, a⟩ := s.en.2 i _ (dctOf_eq hk)
      refine ⟨_, h1, q, rfl, .inl ⟨_, .inl h2⟩, ?_⟩
      refine evS ok k W env st σ H F G _ s (PX.mono (PX.bind p) fun y st2 H2 F2 G2 s2 t2 hh v2 r2 => ?_)
      refine evS ok x W env st2 σ H2 F2 G2 _ s2 (PX.mono (PX.bind hh) fun z st3 H3 F3 G3 s3 t3 hh3 v3 r3 => ?_)
      obtain ⟨d, e, h3⟩ := PX.ofO hh3
      rw [hk] at e
      have e : ((keyD y).map fun key => (getK kvs key).getD z) = some d := e
      cases ek : keyD y with
      | none => rw [ek] at e; cases e
      | some key =>
        rw [ek] at e
        have e : some ((getK kvs key).getD z) = some d := e
        cases e
        have e5 := keyD_V r2 ek
        subst e5
        obtain ⟨q2, ks2, h12, h22, g2, e12, a2⟩ := s3.en.2 i _ (dctOf_eq hk)
        rw [h1] at h12
        cases h12
        refine ⟨_, DGet.k h22, ?_⟩
        cases eg : getK kvs key with
        | none =>
          rw [(getK_V (k := key) e12 a2).2 eg]
          rw [eg] at h3
          exact h3 H3 F3 G3 s3 (Tr.refl _ _ _) _ r3
        | some d =>
          obtain ⟨v, ev1, rv⟩ := (getK_V (k := key) e12 a2).1 d eg
          rw [ev1]
          rw [eg] at h3
          exact h3 H3 F3 G3 s3 (Tr.refl _ _ _) _ rv
    · exact p.elim
  | .call f es, W, env, st, σ, H, F, G, Q, s, p => by
    rw [ev] at p
    exact evAS ok es W env st σ H F G _ s (PX.mono (PX.bind p) fun as st1 H1 F1 G1 s1 t1 h vs a => call_sound ok s1 a rfl h)
  | .meth c m o es, W, env, st, σ, H, F, G, Q, s, p => by
    rw [ev] at p
    split at p
    · rename_i x hx
      obtain ⟨k, fs, e1, e2, e3, rfl⟩ := selfOf_eq hx
      obtain ⟨a, g, h1⟩ := s.en.2 o _ e1
      obtain ⟨a2, g2, dx, vs, h2, fr, _⟩ := s.ok.go k _ e2
      have ea := s.ok.gi _ _ _ g g2
      subst ea
      refine ⟨_, h1, a, dx, vs, rfl, h2, fr.none e3, ?_⟩
      refine evAS ok es W env st σ H F G _ s (PX.mono (PX.bind p) fun as st1 H1 F1 G1 s1 t1 h ws aw => ?_)
      rw [List.append_nil]
      exact meth_sound ok s1 (.cons (show ArgRep F1 G1 (.ref a) (.obj k) from ⟨a, rfl, t1.ob a k g⟩) aw) h
    · exact p.elim
  | .att c o f, W, env, st, σ, H, F, G, Q, s, p => by
    rw [ev] at p
    split at p
    · rename_i ha
      obtain ⟨d, e, h3⟩ := PX.ofO p
      obtain ⟨k, fs, e1, e2, e3⟩ := getA_eq e
      obtain ⟨a, g, h1⟩ := s.en.2 o _ e1
      obtain ⟨a2, g2, dx, vs, h2, fr, _⟩ := s.ok.go k _ e2
      have ea := s.ok.gi _ _ _ g g2
      subst ea
      obtain ⟨v, hv, ⟨rv⟩⟩ := fr.get e3
      obtain ⟨cl, na⟩ := ok.att c f ha
      exact ⟨_, h1, a, _, dx, vs, v, rfl, h2, cl, na, hv, h3 H F G s (Tr.refl _ _ _) v rv⟩
    · exact p.elim
  | .blt b es, W, env, st, σ, H, F, G, Q, s, p => by
    rw [ev] at p
    refine evsS ok es W env st σ H F G _ s (PX.mono (PX.bind p) fun ds st1 H1 F1 G1 s1 t1 h vs a => ?_)
    obtain ⟨d, e, h3⟩ := PX.ofO h
    exact bltSound s1 a e (kv_of h3)
  | .lenV j, W, env, st, σ, H, F, G, Q, s, p => by
    rw [ev] at p
    obtain ⟨d, e, h3⟩ := PX.ofO p
    cases ex : peekD env st j with
    | none => rw [ex] at e; cases e
    | some x =>
      rw [ex] at e
      obtain ⟨v, hv, hl⟩ := len_peek (K := R.K) s ex e (kv_of h3)
      exact ⟨v, hv, hl⟩
  | .isi a t, W, env, st, σ, H, F, G, Q, s, p => by
    rw [ev] at p
    refine evS ok a W env st σ H F G _ s (PX.mono (PX.bind p) fun x st1 H1 F1 G1 s1 t1 h v1 r1 => ?_)
    exact isiSound s1 r1 (h H1 F1 G1 s1 (Tr.refl _ _ _) _ (.bl _))
  | .lrng a, W, env, st, σ, H, F, G, Q, s, p => by
    rw [ev] at p
    refine evS ok a W env st σ H F G _ s (PX.mono (PX.bind p) fun x st1 H1 F1 G1 s1 t1 h v1 r1 => ?_)
    obtain ⟨d, e, h3⟩ := PX.ofO h
    cases r1 with
    | int j =>
      have e : (if (decide (0 ≤ j) && decide (j ≤ 1000000)) = true then some (PyData.list (rngL 0 j.toNat 1)) else none) = some d := e
      split at e
      · rename_i hj
        rw [Bool.and_eq_true] at hj
        have j0 := of_decide_eq_true hj.1
        have j1 := of_decide_eq_true hj.2
        cases e
        obtain ⟨n, rfl⟩ := Int.eq_ofNat_of_zero_le j0
        refine ⟨_, rfl, RgOk.of_le (by omega) (by omega) (by omega) (by omega), KV.lst (kv_of h3) s1 ?_⟩
        exact rg_rep n
      · cases e
    | _ => cases e
  | .lc vs g it c e, W, env, st, σ, H, F, G, Q, s, p => by
    rw [ev] at p
    split at p
    · rename_i hgo
      rw [Bool.and_eq_true] at hgo
      refine evIS ok it W env st σ H F G _ s (PX.mono (PX.bind p) fun xs st1 H1 F1 G1 s1 t1 h J w D hD => ?_)
      have h := PX.bind h
      rcases okL_noex (x := lcL _ xs st1) with ⟨ys, st5, eo⟩ | eo
      · rw [eo] at h
        obtain ⟨el, hl⟩ := okL_ok eo
        refine lcL_sound (H1 := H1) (F1 := F1) (G1 := G1) (env := env) (σ := σ) (ca := R.ca) (D := D) (acc0 := []) (ds0 := []) w _ _ ?_ el (by simpa using hl) ⟨s1.fresh hD, Tr.fresh hD, upd_same, (s1.ok.free hD).1, (s1.ok.free hD).2, .nil⟩ (Same.refl _) _ ?_
        · intro d st H2 F2 G2 x H' acc ds ys st' hf l sw y hlen Nx nx
          exact el_sound (R := R) (Fn := Fn) (fun env st σ H F G Q => evCS ok c EW0 env st σ H F G Q) (fun env st σ H F G Q => evS ok e EW0 env st σ H F G Q) hD hgo.1 hgo.2 d st H2 F2 G2 x H' acc ds ys st' hf l y hlen Nx
            fun H3 F3 G3 acc3 l3 sm => nx H3 F3 G3 acc3 l3 (sw.trans sm)
        · intro H2 F2 G2 acc l sw
          have hl2 := h H2 (upd F2 D (.lst acc)) G2 (l.s.frz l.d l.f l.g) (l.t.frz hD l.f)
          exact hl2 H2 (upd F2 D (.lst acc)) G2 (l.s.frz l.d l.f l.g) (Tr.refl _ _ _) _ (.lst upd_same (l.r.mono (same_upd l.f)))
      · rw [eo] at h; exact h.elim
    · exact p.elim
  | .lc2 vs vs1 g it c g1 it1 c1 e, W, env, st, σ, H, F, G, Q, s, p => by
    rw [ev] at p
    split at p
    · rename_i hgo
      rw [Bool.and_eq_true, Bool.and_eq_true, Bool.and_eq_true] at hgo
      obtain ⟨⟨⟨hg, hg1⟩, hv⟩, no⟩ := hgo
      refine evIS ok it W env st σ H F G _ s (PX.mono (PX.bind p) fun xs st1 H1 F1 G1 s1 t1 h J w D hD => ?_)
      have h := PX.bind h
      rcases okL_noex (x := lcL _ xs st1) with ⟨ys, st5, eo⟩ | eo
      · rw [eo] at h
        obtain ⟨el, hl⟩ := okL_ok eo
        refine lcL_sound (H1 := H1) (F1 := F1) (G1 := G1) (env := env) (σ := σ) (ca := R.ca) (D := D) (acc0 := []) (ds0 := []) w _ _ ?_ el (by simpa using hl) ⟨s1.fresh hD, Tr.fresh hD, upd_same, (s1.ok.free hD).1, (s1.ok.free hD).2, .nil⟩ (Same.refl _) _ ?_
        · intro d st H2 F2 G2 x H' acc ds ys st' hf l sw y hlen Nx nx
          split at hf
          · rename_i env2 e2
            refine turn_frame l y hg no e2 _ fun σ2 F3 G3 s3 t3 wp back back2 => ⟨wp, ?_⟩
            cases ec : evC Fn c env2 st with
            | no => rw [ec] at hf; cases hf
            | ex _ _ => rw [ec] at hf; cases hf
            | ok b st3 =>
              rw [ec] at hf
              refine evCS ok c EW0 env2 st σ2 H' F3 G3 _ s3 ?_
              rw [ec]
              intro H4 F4 G4 s4 t4
              cases b with
              | false =>
                have hf : Out.ok ([] : List PyData) st3 = .ok ys st' := hf
                cases hf
                rw [if_neg Bool.false_ne_true]
                refine nx H4 F4 G4 acc ?_ (sw.trans (t3.trans t4).s0)
                rw [List.append_nil]
                exact back _ _ _ _ s4 t4
              | true =>
                rw [if_pos rfl]
                have hf : ((evI Fn it1 env2 st3).bind fun xs1 st4 => lcL _ xs1 st4) = .ok ys st' := hf
                refine evIS ok it1 EW0 env2 st3 σ2 H4 F4 G4 _ s4 ?_
                cases ei : evI Fn it1 env2 st3 with
                | no => rw [ei] at hf; cases hf
                | ex _ _ => rw [ei] at hf; cases hf
                | ok xs1 st4 =>
                  rw [ei] at hf
                  intro H5 F5 G5 s5 t5 J1 w1
                  have l5 := back _ _ _ _ s5 (t4.trans t5)
                  have no2 : noOwn env2 vs1 = true := by
                    refine List.all_eq_true.mpr fun i hi => ?_
                    have hin : i ∈ vs := List.contains_iff_mem.mp (List.all_eq_true.mp hv i hi)
                    exact own_off e2 hin
                  refine lcL_sound (H1 := H1) (F1 := F1) (G1 := G1) (env := env2) (σ := σ2) (ca := R.ca) (D := D) w1 _ _ ?_ hf hlen (LS.mk s5 l5.t l5.d l5.f l5.g l5.r) (Same.refl _) _ ?_
                  · intro d6 st6 H6 F6 G6 x6 H6' acc6 ds6 ys6 st6' hf6 l6 sw6 y6 hlen6 Nx6 nx6
                    exact el_sound (R := R) (Fn := Fn) (fun env st σ H F G Q => evCS ok c1 EW0 env st σ H F G Q) (fun env st σ H F G Q => evS ok e EW0 env st σ H F G Q) hD hg1 no2 d6 st6 H6 F6 G6 x6 H6' acc6 ds6 ys6 st6' hf6 l6 y6 hlen6 Nx6
                      fun H3 F3 G3 acc3 l3 sm => nx6 H3 F3 G3 acc3 l3 (sw6.trans sm)
                  · intro H7 F7 G7 acc7 l7 sw7
                    refine nx H7 F7 G7 acc7 ?_ ((sw.trans ((t3.trans t4).trans t5).s0).trans sw7)
                    exact ⟨back2 _ s1 _ _ _ _ l7.s l7.t, l7.t, l7.d, l7.f, l7.g, l7.r⟩
          · cases hf
        · intro H2 F2 G2 acc l sw
          have hl2 := h H2 (upd F2 D (.lst acc)) G2 (l.s.frz l.d l.f l.g) (l.t.frz hD l.f)
          exact hl2 H2 (upd F2 D (.lst acc)) G2 (l.s.frz l.d l.f l.g) (Tr.refl _ _ _) _ (.lst upd_same (l.r.mono (same_upd l.f)))
      · rw [eo] at h; exact h.elim
    · exact p.elim
  | .lenDc vs g it k x, W, env, st, σ, H, F, G, Q, s, p => by
    rw [ev] at p
    split at p
    · rename_i hgo
      rw [Bool.and_eq_true] at hgo
      refine evIS ok it W env st σ H F G _ s (PX.mono (PX.bind p) fun xs st1 H1 F1 G1 s1 t1 h J w D hD => ?_)
      have h := PX.bind h
      rcases dcL_noex (f := _) (xs := xs) (st := st1) (acc := []) with ⟨kvsE, st5, eo⟩ | eo
      · rw [eo] at h
        refine dcL_sound (H1 := H1) (F1 := F1) (G1 := G1) (env := env) (σ := σ) (ca := R.ca) (D := D) w _ _ ?_ eo ⟨s1.fresh hD, Tr.fresh hD, upd_same, (s1.ok.free hD).1, (s1.ok.free hD).2, rfl, .nil⟩ (Same.refl _) _ ?_
        · intro d st H2 F2 G2 y H' ks kvs kv st' hf l sw yy hlen Nx nx
          exact eld_sound (R := R) (Fn := Fn) (fun env st σ H F G Q => evS ok k EW0 env st σ H F G Q) (fun env st σ H F G Q => evS ok x EW0 env st σ H F G Q) hD hgo.1 hgo.2 d st H2 F2 G2 y H' ks kvs kv st' hf l yy hlen Nx
            fun H3 F3 G3 acc3 l3 sm => nx H3 F3 G3 acc3 l3 (sw.trans sm)
        · intro H2 F2 G2 ks l
          have e9 : ks.length = kvsE.length := by
            have := congrArg List.length l.k
            simpa using this
          refine ⟨D, ks, rfl, l.d, ?_⟩
          rw [e9]
          exact h H2 F2 G2 l.s l.t H2 F2 G2 l.s (Tr.refl _ _ _) _ (.int _)
      · rw [eo] at h; exact h.elim
    · exact p.elim
theorem evsS (ok : FsOk R Fn) : ∀ (es : Es) (W : EW) (env : Env) (st : Store) (σ : St) (H F : Hp) (G : GO) (Q : List V → Hp → Prop), SI R.ca env st σ H F G →
    PX R.ca W env σ (evs Fn es env st) H F G (fun ds st' H' F' G' => ∀ vs, RepA F' vs ds → Q vs H') → tEs R W es σ H Q
  | .nil, W, env, st, σ, H, F, G, Q, s, p => by
    rw [evs] at p
    exact p H F G s (Tr.refl _ _ _) _ .nil
  | .cons e r, W, env, st, σ, H, F, G, Q, s, p => by
    rw [evs] at p
    refine evS ok e W env st σ H F G _ s (PX.mono (PX.bind p) fun x st1 H1 F1 G1 s1 t1 h v1 r1 => ?_)
    refine evsS ok r W env st1 σ H1 F1 G1 _ s1 (PX.mono (PX.bind h) fun xs st2 H2 F2 G2 s2 t2 h2 vs a => ?_)
    exact h2 H2 F2 G2 s2 (Tr.refl _ _ _) _ (.cons (r1.mono t2.s0) a)
theorem evAS (ok : FsOk R Fn) : ∀ (es : As) (W : EW) (env : Env) (st : Store) (σ : St) (H F : Hp) (G : GO) (Q : List V → Hp → Prop), SI R.ca env st σ H F G →
    PX R.ca W env σ (evA Fn es env st) H F G (fun as st' H' F' G' => ∀ vs, ArgsRep F' G' vs as → Q vs H') → tAs R W es σ H Q
  | .nil, W, env, st, σ, H, F, G, Q, s, p => by
    rw [evA] at p
    exact p H F G s (Tr.refl _ _ _) _ .nil
  | .cons e r, W, env, st, σ, H, F, G, Q, s, p => by
    rw [evA] at p
    refine evS ok e W env st σ H F G _ s (PX.mono (PX.bind p) fun x st1 H1 F1 G1 s1 t1 h v1 r1 => ?_)
    refine evAS ok r W env st1 σ H1 F1 G1 _ s1 (PX.mono (PX.bind h) fun xs st2 H2 F2 G2 s2 t2 h2 vs a => ?_)
    exact h2 H2 F2 G2 s2 (Tr.refl _ _ _) _ (.cons (r1.mono t2.s0) a)
  | .vr i r, W, env, st, σ, H, F, G, Q, s, p => by
    rw [evA] at p
    split at p
    · rename_i a ha
      have hv : ∃ v, σ[i]? = some (some v) ∧ ArgRep F G v a := by
        unfold argOf at ha
        split at ha
        · rename_i e; cases ha; exact s.en.2 i _ e
        · rename_i k e
          cases ha
          obtain ⟨a, g, h1⟩ := s.en.2 i _ e
          exact ⟨_, h1, a, rfl, g⟩
        · cases ha
      obtain ⟨v, h1, av⟩ := hv
      refine ⟨v, h1, ?_⟩
      refine evAS ok r W env st σ H F G _ s (PX.mono (PX.bind p) fun xs st2 H2 F2 G2 s2 t2 h2 vs aa => ?_)
      exact h2 H2 F2 G2 s2 (Tr.refl _ _ _) _ (.cons (av.mono t2) aa)
    · exact p.elim
theorem evOS (ok : FsOk R Fn) : ∀ (o : O) (W : EW) (env : Env) (st : Store) (σ : St) (H F : Hp) (G : GO) (Q : Option Int → Hp → Prop), SI R.ca env st σ H F G →
    PX R.ca W env σ (evO Fn o env st) H F G (fun x st' H' F' G' => Q x H') → tO R W o σ H Q
  | .none, W, env, st, σ, H, F, G, Q, s, p => by
    rw [evO] at p
    exact p H F G s (Tr.refl _ _ _)
  | .some e, W, env, st, σ, H, F, G, Q, s, p => by
    rw [evO] at p
    refine evS ok e W env st σ H F G _ s (PX.mono (PX.bind p) fun x st1 H1 F1 G1 s1 t1 h v1 r1 => ?_)
    obtain ⟨d, e, h3⟩ := PX.ofO h
    cases r1 with
    | int i => cases e; exact ⟨i, rfl, h3 H1 F1 G1 s1 (Tr.refl _ _ _)⟩
    | _ => cases e
theorem evTS (ok : FsOk R Fn) : ∀ (t : T) (W : EW) (env : Env) (st : Store) (σ : St) (H F : Hp) (G : GO) (Q : Bool → Hp → Prop), SI R.ca env st σ H F G →
    PX R.ca W env σ (evT Fn t env st) H F G (fun b st' H' F' G' => Q b H') → tT R W t σ H Q
  | .e e, W, env, st, σ, H, F, G, Q, s, p => by
    rw [evT] at p
    refine evS ok e W env st σ H F G _ s (PX.mono (PX.bind p) fun x st1 H1 F1 G1 s1 t1 h v1 r1 => ?_)
    obtain ⟨b, e, h3⟩ := PX.ofO h
    exact ⟨b, truSound s1 r1 e, h3 H1 F1 G1 s1 (Tr.refl _ _ _)⟩
  | .and a b, W, env, st, σ, H, F, G, Q, s, p => by
    rw [evT] at p
    refine evTS ok a W env st σ H F G _ s (PX.mono (PX.bind p) fun x st1 H1 F1 G1 s1 t1 h => ?_)
    cases x with
    | true => rw [if_pos rfl]; exact evTS ok b W env st1 σ H1 F1 G1 Q s1 h
    | false => rw [if_neg Bool.false_ne_true]; exact h H1 F1 G1 s1 (Tr.refl _ _ _)
  | .or a b, W, env, st, σ, H, F, G, Q, s, p => by
    rw [evT] at p
    refine evTS ok a W env st σ H F G _ s (PX.mono (PX.bind p) fun x st1 H1 F1 G1 s1 t1 h => ?_)
    cases x with
    | false => rw [if_neg Bool.false_ne_true]; exact evTS ok b W env st1 σ H1 F1 G1 Q s1 h
    | true => rw [if_pos rfl]; exact h H1 F1 G1 s1 (Tr.refl _ _ _)
  | .not a, W, env, st, σ, H, F, G, Q, s, p => by
    rw [evT] at p
    refine evTS ok a W env st σ H F G _ s (PX.mono (PX.bind p) fun x st1 H1 F1 G1 s1 t1 h => ?_)
    exact h H1 F1 G1 s1 (Tr.refl _ _ _)
theorem evCS (ok : FsOk R Fn) : ∀ (c : C) (W : EW) (env : Env) (st : Store) (σ : St) (H F : Hp) (G : GO) (Q : Bool → Hp → Prop), SI R.ca env st σ H F G →
    PX R.ca W env σ (evC Fn c env st) H F G (fun b st' H' F' G' => Q b H') → tCd R W c σ H Q
  | .none, W, env, st, σ, H, F, G, Q, s, p => by
    rw [evC] at p
    exact p H F G s (Tr.refl _ _ _)
  | .some t, W, env, st, σ, H, F, G, Q, s, p => by
    rw [evC] at p
    exact evTS ok t W env st σ H F G Q s p
theorem evIS (ok : FsOk R Fn) : ∀ (it : I) (W : EW) (env : Env) (st : Store) (σ : St) (H F : Hp) (G : GO) (Q : It → Hp → Prop), SI R.ca env st σ H F G →
    PX R.ca W env σ (evI Fn it env st) H F G (fun xs st' H' F' G' => ∀ J, WalkD J F' xs → Q J H') → tI R W it σ H Q
  | .seq e, W, env, st, σ, H, F, G, Q, s, p => by
    rw [evI] at p
    cases e1 : ev Fn e env st with
    | no => rw [e1] at p; exact p.elim
    | ex x st1 =>
      rw [e1] at p
      refine .inl (evS ok e W env st σ H F G _ s ?_)
      rw [e1]
      exact p
    | ok x st1 =>
      rw [e1] at p
      cases x with
      | list xs =>
        refine .inl (evS ok e W env st σ H F G _ s ?_)
        rw [e1]
        intro H1 F1 G1 s1 t1 v1 r1
        cases r1 with
        | lst g a => exact ⟨_, rfl, ⟨_, SqL.of (s1.ok.sf _ _ g)⟩, p H1 F1 G1 s1 t1 _ (walkD_list g a)⟩
      | tuple xs =>
        refine .inr (evS ok e W env st σ H F G _ s ?_)
        rw [e1]
        intro H1 F1 G1 s1 t1 v1 r1
        cases r1 with
        | tup g a => exact ⟨_, rfl, ⟨_, SqT.of (s1.ok.sf _ _ g)⟩, p H1 F1 G1 s1 t1 _ (walkD_tup g a)⟩
      | _ => exact p.elim
  | .rng1 a, W, env, st, σ, H, F, G, Q, s, p => by
    rw [evI] at p
    refine evS ok a W env st σ H F G _ s (PX.mono (PX.bind p) fun x st1 H1 F1 G1 s1 t1 h v1 r1 => ?_)
    obtain ⟨d, e, h3⟩ := PX.ofO h
    cases r1 with
    | int j =>
      have e : (if okR j = true then some (rngL 0 j.toNat 1) else none) = some d := e
      split at e
      · rename_i hj
        unfold okR at hj
        rw [Bool.and_eq_true] at hj
        cases e
        exact ⟨j, rfl, of_decide_eq_true hj.1, of_decide_eq_true hj.2, h3 H1 F1 G1 s1 (Tr.refl _ _ _) _ walkD_range⟩
      · cases e
    | _ => cases e
  | .rng2 a b, W, env, st, σ, H, F, G, Q, s, p => by
    rw [evI] at p
    refine evS ok a W env st σ H F G _ s (PX.mono (PX.bind p) fun x st1 H1 F1 G1 s1 t1 h v1 r1 => ?_)
    refine evS ok b W env st1 σ H1 F1 G1 _ s1 (PX.mono (PX.bind h) fun y st2 H2 F2 G2 s2 t2 h2 v2 r2 => ?_)
    obtain ⟨d, e, h3⟩ := PX.ofO h2
    cases r1 with
    | int i => cases r2 with
      | int j =>
        have e : (if (okR i && okR j) = true then some (rngL i (j - i).toNat 1) else none) = some d := e
        split at e
        · rename_i hj
          unfold okR at hj
          rw [Bool.and_eq_true, Bool.and_eq_true, Bool.and_eq_true] at hj
          cases e
          exact ⟨i, j, rfl, ⟨of_decide_eq_true hj.1.1, of_decide_eq_true hj.1.2, of_decide_eq_true hj.2.1, of_decide_eq_true hj.2.2⟩, h3 H2 F2 G2 s2 (Tr.refl _ _ _) _ walkD_range⟩
        · cases e
      | _ => cases e
    | _ => cases e
  | .rng3 a b c, W, env, st, σ, H, F, G, Q, s, p => by
    rw [evI] at p
    refine evS ok a W env st σ H F G _ s (PX.mono (PX.bind p) fun x st1 H1 F1 G1 s1 t1 h v1 r1 => ?_)
    refine evS ok b W env st1 σ H1 F1 G1 _ s1 (PX.mono (PX.bind h) fun y st2 H2 F2 G2 s2 t2 h2 v2 r2 => ?_)
    refine evS ok c W env st2 σ H2 F2 G2 _ s2 (PX.mono (PX.bind h2) fun z st3 H3 F3 G3 s3 t3 h3 v3 r3 => ?_)
    obtain ⟨d, e, h4⟩ := PX.ofO h3
    cases r1 with
    | int i => cases r2 with
      | int j => cases r3 with
        | int k =>
          have e : (if (decide (0 ≤ i) && decide (i ≤ 1000) && decide (0 ≤ j) && decide (j ≤ 1000) && decide (k = 2)) = true then some (rngL i ((j - i + 1) / 2).toNat 2) else none) = some d := e
          split at e
          · rename_i hj
            rw [Bool.and_eq_true, Bool.and_eq_true, Bool.and_eq_true, Bool.and_eq_true] at hj
            cases e
            have hk := of_decide_eq_true hj.2
            subst hk
            exact ⟨i, j, 2, _, rfl, range2 (of_decide_eq_true hj.1.1.1.1) (of_decide_eq_true hj.1.1.1.2) (of_decide_eq_true hj.1.1.2) (of_decide_eq_true hj.1.2), h4 H3 F3 G3 s3 (Tr.refl _ _ _) _ walkD_rangeC⟩
          · cases e
        | _ => cases e
      | _ => cases e
    | _ => cases e
  | .enum a, W, env, st, σ, H, F, G, Q, s, p => by
    rw [evI] at p
    refine evS ok a W env st σ H F G _ s (PX.mono (PX.bind p) fun x st1 H1 F1 G1 s1 t1 h v1 r1 => ?_)
    obtain ⟨d, e, h3⟩ := PX.ofO h
    cases r1 with
    | lst g a => cases e; exact ⟨_, _, rfl, SqL.of (s1.ok.sf _ _ g), h3 H1 F1 G1 s1 (Tr.refl _ _ _) _ (walkD_enum g a)⟩
    | _ => cases e
  | .zip a b, W, env, st, σ, H, F, G, Q, s, p => by
    rw [evI] at p
    refine evS ok a W env st σ H F G _ s (PX.mono (PX.bind p) fun x st1 H1 F1 G1 s1 t1 h v1 r1 => ?_)
    refine evS ok b W env st1 σ H1 F1 G1 _ s1 (PX.mono (PX.bind h) fun y st2 H2 F2 G2 s2 t2 h2 v2 r2 => ?_)
    obtain ⟨d, e, h3⟩ := PX.ofO h2
    have r1 := r1.mono t2.s0
    cases r1 with
    | lst g1 a1 => cases r2 with
      | lst g2 a2 => cases e; exact ⟨_, _, _, _, rfl, .inl ⟨SqL.of (s2.ok.sf _ _ g1), SqL.of (s2.ok.sf _ _ g2), h3 H2 F2 G2 s2 (Tr.refl _ _ _) _ (walkD_zipL g1 a1 g2 a2)⟩⟩
      | _ => cases e
    | tup g1 a1 => cases r2 with
      | tup g2 a2 => cases e; exact ⟨_, _, _, _, rfl, .inr ⟨SqT.of (s2.ok.sf _ _ g1), SqT.of (s2.ok.sf _ _ g2), h3 H2 F2 G2 s2 (Tr.refl _ _ _) _ (walkD_zipT g1 a1 g2 a2)⟩⟩
      | _ => cases e
    | _ => cases e
end
end
end Pm

set_option maxHeartbeats 4000000
/-! Pm8: what statements do to the state. -/
namespace Pm
open PySem PySem.Spec L2 RZ
section
variable {ca : Str → Addr} {env env2 : Env} {st st' st1 : Store} {σ σ2 : St} {H F H' F' H1 F1 : Hp} {G G' G1 : GO} {K : PySem.W.Frag} {Q : VK} {p : Addr}
/-! ### lists of one's own, new -/
def KF (Q : VK) (Hb : Hp) (d : PyData) (H' F' : Hp) (G' : GO) : Prop := ∃ ds, d = .list ds ∧ ∀ p vs, Hb p = none → H' p = some (.lst vs) → F' p = none → G' p = none → RepA F' vs ds → Q (.ref p) H'
theorem fresh0 {H F H1 F1 : Hp} {G G1 : GO} {p : Addr} (t : Tr H F G H1 F1 G1) (h : H1 p = none) : H p = none := by
  cases e : H p with
  | none => rfl
  | some o =>
    obtain ⟨o', e'⟩ := t.th p o e
    rw [h] at e'
    cases e'
theorem KF.new {st1 : Store} {ds : List PyData} {vs : List V} {Hb Fb : Hp} {Gb : GO} (h : ∀ H' F' G', SI ca env st1 σ H' F' G' → Tr H F G H' F' G' → KF Q Hb (.list ds) H' F' G') (s : SI ca env st1 σ H F G) (r : RepA F vs ds) (t : Tr Hb Fb Gb H F G) : ∀ p, H p = none → Q (.ref p) (upd H p (.lst vs)) := fun p hp => by
  obtain ⟨ds2, e, k⟩ := h (upd H p (.lst vs)) F G (s.fresh hp) (Tr.fresh hp)
  cases e
  exact k p vs (fresh0 t hp) upd_same (s.ok.free hp).1 (s.ok.free hp).2 r
theorem addL {x y : PyData} {ds : List PyData} (e : binD .add x y = some (.list ds)) : ∃ xs ys, x = .list xs ∧ y = .list ys ∧ ds = xs ++ ys ∧ xs.length + ys.length ≤ sizeLine := by
  cases x <;> cases y <;> simp [binD] at e
  exact ⟨_, _, rfl, rfl, e.2.symm, okLen_le e.1⟩
theorem mulL {x y : PyData} {ds : List PyData} (e : binD .mul x y = some (.list ds)) : ∃ xs k, x = .list xs ∧ y = .int k ∧ ds = (List.replicate k.toNat xs).flatten ∧ 0 ≤ k ∧ k ≤ 1000 ∧ xs.length ≤ 1000 := by
  cases x <;> cases y <;> simp [binD] at e
  exact ⟨_, _, rfl, rfl, e.2.symm, e.1.1.1, e.1.1.2, e.1.2⟩
section
variable {R : RdC} {Fn : Fs}
theorem evFS (ok : FsOk R Fn) : ∀ (e : E) (W : EW) (env : Env) (st : Store) (σ : St) (H F : Hp) (G : GO) (Q : VK), isFresh e = true → SI R.ca env st σ H F G →
    PX R.ca W env σ (ev Fn e env st) H F G (fun d st' H' F' G' => KF Q H d H' F' G') → tE R W e σ H Q := by
  intro e W env st σ H F G Q hf s p
  cases e with
  | lst es =>
    rw [ev] at p
    refine evsS ok es W env st σ H F G _ s (PX.mono (PX.bind p) fun ds st1 H1 F1 G1 s1 t1 h vs a => ?_)
    split at h
    · rename_i hl
      exact ⟨len_eq a hl, KF.new h s1 a t1⟩
    · exact h.elim
  | bin op a b =>
    rw [ev] at p
    refine evS ok a W env st σ H F G _ s (PX.mono (PX.bind p) fun x st1 H1 F1 G1 s1 t1 h v1 r1 => ?_)
    refine evS ok b W env st1 σ H1 F1 G1 _ s1 (PX.mono (PX.bind h) fun y st2 H2 F2 G2 s2 t2 h2 v2 r2 => ?_)
    obtain ⟨d, e, h3⟩ := PX.ofO h2
    obtain ⟨ds, ed, _⟩ := h3 H2 F2 G2 s2 (Tr.refl _ _ _)
    subst ed
    have r1 := r1.mono t2.s0
    cases op with
    | add =>
      obtain ⟨xs, ys, rfl, rfl, rfl, hl⟩ := addL e
      cases r1 with
      | lst g1 a1 => cases r2 with
        | lst g2 a2 =>
          refine .inr (.inl ⟨_, _, _, _, rfl, rfl, s2.ok.sf _ _ g1, s2.ok.sf _ _ g2, ?_, KF.new h3 s2 (a1.app a2) (t1.trans t2)⟩)
          rw [a1.len, a2.len]
          exact hl
    | mul =>
      obtain ⟨xs, k, rfl, rfl, rfl, h1, h2, h3'⟩ := mulL e
      cases r2
      cases r1 with
      | lst g1 a1 =>
        refine .inr (.inr (.inl ⟨_, _, _, rfl, rfl, s2.ok.sf _ _ g1, by omega, by omega, ?_, KF.new h3 s2 (a1.rep _) (t1.trans t2)⟩))
        rw [a1.len]
        exact Nat.le_trans (Nat.mul_le_mul h3' (show k.toNat ≤ 1000 by omega)) (by decide)
    | _ => cases hf
  | sl a lo hi =>
    rw [ev] at p
    refine evS ok a W env st σ H F G _ s (PX.mono (PX.bind p) fun x st1 H1 F1 G1 s1 t1 h v1 r1 => ?_)
    refine evOS ok lo W env st1 σ H1 F1 G1 _ s1 (PX.mono (PX.bind h) fun l st2 H2 F2 G2 s2 t2 h2 => ?_)
    refine evOS ok hi W env st2 σ H2 F2 G2 _ s2 (PX.mono (PX.bind h2) fun u st3 H3 F3 G3 s3 t3 h3 => ?_)
    obtain ⟨d, e, h4⟩ := PX.ofO h3
    obtain ⟨ds, ed, _⟩ := h4 H3 F3 G3 s3 (Tr.refl _ _ _)
    subst ed
    have r1 := (r1.mono t2.s0).mono t3.s0
    cases r1 with
    | lst g a => cases e; exact .inl ⟨_, _, rfl, SqL.of (s3.ok.sf _ _ g), KF.new h4 s3 (cut_rep a) ((t1.trans t2).trans t3)⟩
    | _ => cases e
  | blt b es =>
    rw [ev] at p
    cases b with
    | list =>
      refine evsS ok es W env st σ H F G _ s (PX.mono (PX.bind p) fun ds st1 H1 F1 G1 s1 t1 h vs a => ?_)
      obtain ⟨d, e, h3⟩ := PX.ofO h
      obtain ⟨ds2, ed, _⟩ := h3 H1 F1 G1 s1 (Tr.refl _ _ _)
      subst ed
      cases a with
      | nil => cases e
      | cons r1 r2 => cases r2 with
        | cons _ _ => cases r1 <;> cases e
        | nil => cases r1 with
          | lst g a => cases e; exact ⟨_, _, rfl, .inl (SqL.of (s1.ok.sf _ _ g)), KF.new h3 s1 a t1⟩
          | tup g a => cases e; exact ⟨_, _, rfl, .inr (SqT.of (s1.ok.sf _ _ g)), KF.new h3 s1 a t1⟩
          | _ => cases e
    | _ => cases hf
  | lc vs g it c e =>
    rw [ev] at p
    split at p
    · rename_i hgo
      rw [Bool.and_eq_true] at hgo
      refine evIS ok it W env st σ H F G _ s (PX.mono (PX.bind p) fun xs st1 H1 F1 G1 s1 t1 h J w D hD => ?_)
      have h := PX.bind h
      rcases okL_noex (x := lcL _ xs st1) with ⟨ys, st5, eo⟩ | eo
      · rw [eo] at h
        obtain ⟨el, hl⟩ := okL_ok eo
        refine lcL_sound (H1 := H1) (F1 := F1) (G1 := G1) (env := env) (σ := σ) (ca := R.ca) (D := D) (acc0 := []) (ds0 := []) w _ _ ?_ el (by simpa using hl) ⟨s1.fresh hD, Tr.fresh hD, upd_same, (s1.ok.free hD).1, (s1.ok.free hD).2, .nil⟩ (Same.refl _) _ ?_
        · intro d st H2 F2 G2 x H' acc ds ys st' hf l sw y hlen Nx nx
          exact el_sound (R := R) (Fn := Fn) (fun env st σ H F G Q => evCS ok c EW0 env st σ H F G Q) (fun env st σ H F G Q => evS ok e EW0 env st σ H F G Q) hD hgo.1 hgo.2 d st H2 F2 G2 x H' acc ds ys st' hf l y hlen Nx
            fun H3 F3 G3 acc3 l3 sm => nx H3 F3 G3 acc3 l3 (sw.trans sm)
        · intro H2 F2 G2 acc l sw
          obtain ⟨ds2, e2, k⟩ := h H2 F2 G2 l.s l.t H2 F2 G2 l.s (Tr.refl _ _ _)
          cases e2
          exact k D acc (fresh0 t1 hD) l.d l.f l.g l.r
      · rw [eo] at h; exact h.elim
    · exact p.elim
  | _ => cases hf
end

/-! ### slots changed -/
theorem Tr.own (h : G p ≠ none) {o : HO} : Tr H F G (upd H p o) F G :=
  ⟨Same.refl _, fun a x e g => by rw [upd_ne (fun q => h (by rw [← q]; exact g))]; exact e, fun _ _ e => .inl e, fun a x g => .inr (by rw [g]; simp), fun _ _ g => g, fun a x e => by
    by_cases q : a = p
    · subst q; exact ⟨_, upd_same⟩
    · exact ⟨x, by rw [upd_ne q]; exact e⟩⟩
theorem Ok.chgSlot {i : Nat} {o : HO} (k : Ok ca st H F G) (g : G p = some (.slot i)) : Ok ca st (upd H p o) F G where
  sf := fun b x e => by
    rw [upd_ne (fun q => by subst q; rw [(k.gf _ _ g).1] at e; cases e)]
    exact k.sf b x e
  gf := fun a x e => ⟨(k.gf a x e).1, by
    by_cases q : a = p
    · subst q; exact ⟨_, upd_same⟩
    · rw [upd_ne q]; exact (k.gf a x e).2⟩
  gi := k.gi
  go := fun j x e => by
    obtain ⟨a, g2, r⟩ := k.go j x e
    refine ⟨a, g2, ?_⟩
    have na : a ≠ p := fun q => by subst q; rw [g] at g2; cases g2
    cases x with
    | ml ds => obtain ⟨vs, e1, e2⟩ := r; exact ⟨vs, by rw [upd_ne na]; exact e1, e2⟩
    | ins c fs =>
      obtain ⟨dx, vs, e1, e2, e3⟩ := r
      refine ⟨dx, vs, by rw [upd_ne na]; exact e1, ?_, e3⟩
      clear e1 e3 e
      induction e2 with
      | nil => exact .nil
      | cons h _ ih =>
        refine .cons ⟨?_⟩ ih
        obtain ⟨h⟩ := h
        rename_i x _ _ _
        cases x with
        | fz d => exact h
        | own ds =>
          obtain ⟨q, vs, e1, e2, e3, e4⟩ := h
          exact ⟨q, vs, e1, by rw [upd_ne (fun z => by subst z; rw [g] at e3; cases e3)]; exact e2, e3, e4⟩
  gk := k.gk
  gl := k.gl
/-- the list or dict of slot i is changed -/
theorem SI.chgSlot {i : Nat} {o : HO} {x : Slot} (k : SI ca env st σ H F G) (g : G p = some (.slot i)) (h : i < env.length → SlotRep (upd H p o) F G i σ x) : SI ca (env.set i x) st σ (upd H p o) F G := by
  refine ⟨k.ok.chgSlot g, by rw [List.length_set]; exact k.en.1, fun j y e => ?_⟩
  by_cases q : j = i
  · subst q
    have hl : j < env.length := by
      have := (List.getElem?_eq_some_iff.mp e).1
      rwa [List.length_set] at this
    rw [List.getElem?_set_self hl] at e
    cases e
    exact h hl
  · rw [List.getElem?_set_ne (Ne.symm q)] at e
    have h2 := k.en.2 j y e
    cases y with
    | no => trivial
    | dat d => exact h2
    | lst ds =>
      obtain ⟨p2, vs, e1, e2, e3, e4⟩ := h2
      exact ⟨p2, vs, e1, by rw [upd_ne (fun z => by subst z; rw [g] at e3; cases e3; exact q rfl)]; exact e2, e3, e4⟩
    | dct ds =>
      obtain ⟨p2, vs, e1, e2, e3, e4, e5⟩ := h2
      exact ⟨p2, vs, e1, by rw [upd_ne (fun z => by subst z; rw [g] at e3; cases e3; exact q rfl)]; exact e2, e3, e4, e5⟩
    | obj k => exact h2
/-- a new list or dict comes to slot i -/
def takeS (G : GO) (i : Nat) (p : Addr) : GO := fun a => if a = p then some (.slot i) else dropS G i a
theorem takeS_some {i : Nat} {a : Addr} {x : Own} (h : takeS G i p a = some x) : (a = p ∧ x = .slot i) ∨ (a ≠ p ∧ G a = some x ∧ x ≠ .slot i) := by
  unfold takeS at h
  split at h
  · rename_i q; cases h; exact .inl ⟨q, rfl⟩
  · rename_i q; exact .inr ⟨q, dropS_some h⟩
theorem takeS_keep {i : Nat} {a : Addr} {x : Own} (hp : G p = none) (h : G a = some x) (n : x ≠ .slot i) : takeS G i p a = some x := by
  unfold takeS
  rw [if_neg (fun q => by subst q; rw [hp] at h; cases h)]
  exact dropS_keep h n
theorem SI.take {i : Nat} {v : V} {x : Slot} {o : HO} (k : SI ca env st σ H F G) (hp : H p = some o) (hf : F p = none) (hg : G p = none)
    (h : i < env.length → SlotRep H F (takeS G i p) i (σ.set i (some (.ref p))) x) : SI ca (env.set i x) st (σ.set i (some (.ref p))) H F (takeS G i p) := by
  refine ⟨⟨k.ok.sf, fun a x e => ?_, fun a b x e1 e2 => ?_, fun j x e => ?_, fun a j e => ?_, fun a j f e => ?_⟩, by rw [List.length_set, List.length_set]; exact k.en.1, fun j y e => ?_⟩
  · rcases takeS_some e with ⟨q, _⟩ | ⟨_, q, _⟩
    · subst q; exact ⟨hf, o, hp⟩
    · exact k.ok.gf a x q
  · rcases takeS_some e1 with ⟨q, z⟩ | ⟨_, q, z⟩
    · rcases takeS_some e2 with ⟨q2, _⟩ | ⟨_, _, z2⟩
      · rw [q, q2]
      · exact absurd z z2
    · rcases takeS_some e2 with ⟨_, z2⟩ | ⟨_, q2, _⟩
      · exact absurd z2 z
      · exact k.ok.gi a b x q q2
  · obtain ⟨a, g, r⟩ := k.ok.go j x e
    exact ⟨a, takeS_keep hg g (by simp), r.own fun a f h => takeS_keep hg h (by simp)⟩
  · rcases takeS_some e with ⟨_, z⟩ | ⟨_, q, _⟩
    · cases z
    · exact k.ok.gk a j q
  · rcases takeS_some e with ⟨_, z⟩ | ⟨_, q, _⟩
    · cases z
    · exact k.ok.gl a j f q
  · by_cases q : j = i
    · subst q
      have hl : j < env.length := by
        have := (List.getElem?_eq_some_iff.mp e).1
        rwa [List.length_set] at this
      rw [List.getElem?_set_self hl] at e
      cases e
      exact h hl
    · rw [List.getElem?_set_ne (Ne.symm q)] at e
      have e0 : (σ.set i (some (V.ref p)))[j]? = σ[j]? := List.getElem?_set_ne (Ne.symm q)
      have h2 := k.en.2 j y e
      cases y with
      | no => trivial
      | dat d => obtain ⟨v, e1, r⟩ := h2; exact ⟨v, by rw [e0]; exact e1, r⟩
      | lst ds => obtain ⟨p2, vs, e1, e2, e3, e4⟩ := h2; exact ⟨p2, vs, by rw [e0]; exact e1, e2, takeS_keep hg e3 (by simp; exact q), e4⟩
      | dct ds => obtain ⟨p2, vs, e1, e2, e3, e4⟩ := h2; exact ⟨p2, vs, by rw [e0]; exact e1, e2, takeS_keep hg e3 (by simp; exact q), e4⟩
      | obj k => obtain ⟨a, g, e1⟩ := h2; exact ⟨a, takeS_keep hg g (by simp), by rw [e0]; exact e1⟩
theorem Tr.take {i : Nat} {H0 F0 : Hp} {G0 : GO} (t : Tr H0 F0 G0 H F G) (h0 : H0 p = none) (hg : G p = none) : Tr H0 F0 G0 H F (takeS G i p) :=
  ⟨t.s0, t.kp, t.fr, fun a x e => by
    rcases takeS_some e with ⟨q, _⟩ | ⟨_, q, _⟩
    · subst q; exact .inl h0
    · exact t.gn a x q, fun a k g => takeS_keep hg (t.ob a k g) (by simp), t.th⟩
/-- slot i's own list is made a value -/
theorem SI.fzSlot (k : SI ca env st σ H F G) (i : Nat) : ∃ F' G', SI ca (match env[i]? with
    | some s => env.set i (fzS s)
    | none => env) st σ H F' G' ∧ Tr H F G H F' G' := by
  cases e : env[i]? with
  | none => exact ⟨F, G, k, Tr.refl _ _ _⟩
  | some s =>
    cases s with
    | lst ds =>
      obtain ⟨p, vs, h1, h2, g, r⟩ := k.en.2 i _ e
      have hf := (k.ok.gf _ _ g).1
      have k2 : SI ca (env.set i .no) st (σ.set i (some (.ref p))) H F (dropS G i) := k.setNo
      have gd : dropS G i p = none := by
        unfold dropS
        rw [if_pos g]
      have k3 := k2.frz h2 hf gd
      have es : σ.set i (some (.ref p)) = σ := by
        refine List.ext_getElem? fun j => ?_
        by_cases q : i = j
        · subst q
          rw [List.getElem?_set_self (List.getElem?_eq_some_iff.mp h1).1]
          exact h1.symm
        · rw [List.getElem?_set_ne q]
      rw [es] at k3
      refine ⟨upd F p (.lst vs), dropS G i, ⟨k3.ok, by have := k3.en.1; rw [List.length_set] at this ⊢; exact this, fun j y ej => ?_⟩, ⟨same_upd hf, fun _ _ h _ => h, fun a o h => ?_, fun a x h => .inr (by rw [(dropS_some h).1]; simp), fun _ _ h => dropS_keep h (by simp), fun _ o h => ⟨o, h⟩⟩⟩
      · by_cases q : j = i
        · subst q
          rw [List.getElem?_set_self (List.getElem?_eq_some_iff.mp e).1] at ej
          cases ej
          exact ⟨_, h1, .lst upd_same (r.mono (same_upd hf))⟩
        · have h3 := k3.en.2 j y (by rw [List.getElem?_set_ne (Ne.symm q)] at ej ⊢; exact ej)
          exact h3
      · by_cases q : a = p
        · subst q; exact .inr (.inr (by rw [g]; simp))
        · rw [upd_ne q] at h; exact .inl h
    | no => exact ⟨F, G, by
        have : env.set i (fzS .no) = env := by
          refine List.ext_getElem? fun j => ?_
          by_cases q : i = j
          · subst q; rw [List.getElem?_set_self (List.getElem?_eq_some_iff.mp e).1, e] <;> rfl
          · rw [List.getElem?_set_ne q]
        show SI ca (env.set i (fzS .no)) st σ H F G
        rw [this]; exact k, Tr.refl _ _ _⟩
    | dat d => exact ⟨F, G, by
        have : env.set i (fzS (.dat d)) = env := by
          refine List.ext_getElem? fun j => ?_
          by_cases q : i = j
          · subst q; rw [List.getElem?_set_self (List.getElem?_eq_some_iff.mp e).1, e] <;> rfl
          · rw [List.getElem?_set_ne q]
        show SI ca (env.set i (fzS (.dat d))) st σ H F G
        rw [this]; exact k, Tr.refl _ _ _⟩
    | dct d => exact ⟨F, G, by
        have : env.set i (fzS (.dct d)) = env := by
          refine List.ext_getElem? fun j => ?_
          by_cases q : i = j
          · subst q; rw [List.getElem?_set_self (List.getElem?_eq_some_iff.mp e).1, e] <;> rfl
          · rw [List.getElem?_set_ne q]
        show SI ca (env.set i (fzS (.dct d))) st σ H F G
        rw [this]; exact k, Tr.refl _ _ _⟩
    | obj d => exact ⟨F, G, by
        have : env.set i (fzS (.obj d)) = env := by
          refine List.ext_getElem? fun j => ?_
          by_cases q : i = j
          · subst q; rw [List.getElem?_set_self (List.getElem?_eq_some_iff.mp e).1, e] <;> rfl
          · rw [List.getElem?_set_ne q]
        show SI ca (env.set i (fzS (.obj d))) st σ H F G
        rw [this]; exact k, Tr.refl _ _ _⟩
theorem SI.fz : ∀ (is : List Nat) {env : Env} {F : Hp} {G : GO}, SI ca env st σ H F G → ∃ F' G', SI ca (fzE env is) st σ H F' G' ∧ Tr H F G H F' G'
  | [], _, F, G, k => ⟨F, G, k, Tr.refl _ _ _⟩
  | i :: is, env, F, G, k => by
    obtain ⟨F1, G1, k1, t1⟩ := k.fzSlot i
    obtain ⟨F2, G2, k2, t2⟩ := SI.fz is k1
    exact ⟨F2, G2, k2, t1.trans t2⟩
end
end Pm

set_option maxHeartbeats 4000000
/-! Pm9: objects changed; statements keep their readings. -/
namespace Pm
open PySem PySem.Spec L2 RZ
section
variable {ca : Str → Addr} {env env2 : Env} {st st' st1 : Store} {σ σ2 : St} {H F H' F' H1 F1 : Hp} {G G' G1 : GO} {K : PySem.W.Frag} {Q : VK} {p a : Addr}
/-! ### objects changed -/
theorem Ok.chgObj {k : Nat} {o : HO} {x : Obj} (s : Ok ca st H F G) (g : G a = some (.obj k))
    (h1 : ∀ b y, G' b = some y → G b = some y ∨ (∃ f, y = .fld k f ∧ F b = none ∧ ∃ o, H b = some o))
    (h2 : ∀ b c y, G' b = some y → G' c = some y → b = c)
    (h3 : ∀ b y, G b = some y → (∀ f, y ≠ .fld k f) → G' b = some y)
    (r : ObjRep ca (upd H a o) F G' k a x) : Ok ca (st.set k x) (upd H a o) F G' where
  sf := fun b y e => by
    rw [upd_ne (fun q => by subst q; rw [(s.gf _ _ g).1] at e; cases e)]
    exact s.sf b y e
  gf := fun b y e => by
    have hh : F b = none ∧ ∃ o, H b = some o := by
      rcases h1 b y e with z | ⟨_, _, z⟩
      · exact s.gf b y z
      · exact z
    refine ⟨hh.1, ?_⟩
    by_cases q : b = a
    · subst q; exact ⟨_, upd_same⟩
    · rw [upd_ne q]; exact hh.2
  gi := h2
  go := fun j y e => by
    by_cases q : j = k
    · subst q
      have hl : j < st.length := by
        have := (List.getElem?_eq_some_iff.mp e).1
        rwa [List.length_set] at this
      rw [List.getElem?_set_self hl] at e
      cases e
      exact ⟨a, h3 _ _ g (by simp), r⟩
    · rw [List.getElem?_set_ne (Ne.symm q)] at e
      obtain ⟨b, g2, r2⟩ := s.go j y e
      have nb : b ≠ a := fun z => by subst z; rw [g] at g2; cases g2; exact q rfl
      refine ⟨b, h3 _ _ g2 (by simp), ?_⟩
      cases y with
      | ml ds => obtain ⟨vs, e1, e2⟩ := r2; exact ⟨vs, by rw [upd_ne nb]; exact e1, e2⟩
      | ins c fs =>
        obtain ⟨dx, vs, e1, e2, e3⟩ := r2
        refine ⟨dx, vs, by rw [upd_ne nb]; exact e1, ?_, e3⟩
        clear e1 e3 e
        induction e2 with
        | nil => exact .nil
        | cons h _ ih =>
          refine .cons ⟨?_⟩ ih
          obtain ⟨h⟩ := h
          rename_i x _ _ _
          cases x with
          | fz d => exact h
          | own ds =>
            obtain ⟨q2, vs, e1, e2, e3, e4⟩ := h
            exact ⟨q2, vs, e1, by rw [upd_ne (fun z => by subst z; rw [g] at e3; cases e3)]; exact e2, h3 _ _ e3 (by simp; exact fun z => absurd z q), e4⟩
  gk := fun b j e => by
    rw [List.length_set]
    rcases h1 b _ e with z | ⟨f, z, _⟩
    · exact s.gk b j z
    · cases z
  gl := fun b j f e => by
    rw [List.length_set]
    rcases h1 b _ e with z | ⟨f2, z, _⟩
    · exact s.gl b j f z
    · cases z
      exact s.gk a k g
theorem SI.chgObj {k : Nat} {o : HO} {x : Obj} (s : SI ca env st σ H F G) (g : G a = some (.obj k))
    (h1 : ∀ b y, G' b = some y → G b = some y ∨ (∃ f, y = .fld k f ∧ F b = none ∧ ∃ o, H b = some o))
    (h2 : ∀ b c y, G' b = some y → G' c = some y → b = c)
    (h3 : ∀ b y, G b = some y → (∀ f, y ≠ .fld k f) → G' b = some y)
    (r : ObjRep ca (upd H a o) F G' k a x) : SI ca env (st.set k x) σ (upd H a o) F G' := by
  refine ⟨s.ok.chgObj g h1 h2 h3 r, s.en.1, fun i y e => ?_⟩
  have h := s.en.2 i y e
  cases y with
  | no => trivial
  | dat d => exact h
  | lst ds =>
    obtain ⟨q, vs, e1, e2, e3, e4⟩ := h
    exact ⟨q, vs, e1, by rw [upd_ne (fun z => by subst z; rw [g] at e3; cases e3)]; exact e2, h3 _ _ e3 (by simp), e4⟩
  | dct ds =>
    obtain ⟨q, vs, e1, e2, e3, e4⟩ := h
    exact ⟨q, vs, e1, by rw [upd_ne (fun z => by subst z; rw [g] at e3; cases e3)]; exact e2, h3 _ _ e3 (by simp), e4⟩
  | obj k => obtain ⟨b, g2, e1⟩ := h; exact ⟨b, h3 _ _ g2 (by simp), e1⟩
theorem FldsRep.len {k : Nat} : ∀ {vs : List (Str × V)} {fs : List (Str × Fld)}, FldsRep H F G k vs fs → vs.length = fs.length
  | _, _, .nil => rfl
  | _, _, .cons _ r => congrArg (· + 1) r.len
theorem putFD_names {f : Str} {x : Fld} : ∀ {fs : List (Str × Fld)}, ∀ y ∈ (putFD f x fs).map (·.1), y = f ∨ y ∈ fs.map (·.1)
  | [], y, h => by simp [putFD] at h; exact .inl h
  | (g, w) :: r, y, h => by
    unfold putFD at h
    split at h
    · exact .inr h
    · rw [List.map_cons] at h
      rcases List.mem_cons.mp h with e | h
      · exact .inr (by rw [e]; exact List.mem_cons_self)
      · rcases putFD_names y h with e | e
        · exact .inl e
        · exact .inr (List.mem_cons_of_mem _ e)
theorem putFD_nodup {f : Str} {x : Fld} : ∀ {fs : List (Str × Fld)}, (fs.map (·.1)).Nodup → ((putFD f x fs).map (·.1)).Nodup
  | [], _ => by simp [putFD]
  | (g, w) :: r, h => by
    unfold putFD
    split
    · exact h
    · rename_i q
      rw [List.map_cons, List.nodup_cons] at h ⊢
      refine ⟨fun z => ?_, putFD_nodup h.2⟩
      rcases putFD_names _ z with e | e
      · exact q e
      · exact h.1 e
/-- a field stored -/
theorem FldsRep.put {k : Nat} {f : Str} {v : V} {x : Fld} (hx : FldRep H' F G' k f v x) (hh : ∀ g w y, g ≠ f → FldRep H F G k g w y → FldRep H' F G' k g w y) :
    ∀ {vs : List (Str × V)} {fs : List (Str × Fld)}, FldsRep H F G k vs fs → (fs.map (·.1)).Nodup → FldsRep H' F G' k (putF f v vs) (putFD f x fs)
  | _, _, .nil, _ => .cons hx .nil
  | _, _, .cons (f := g) (v := w) (x := y) (r := r) (s := s) h t, nd => by
    rw [List.map_cons, List.nodup_cons] at nd
    unfold putF putFD
    by_cases q : g = f
    · rw [if_pos q, if_pos q]
      subst q
      refine .cons hx ?_
      have key : ∀ {vs : List (Str × V)} {fs : List (Str × Fld)}, FldsRep H F G k vs fs → g ∉ fs.map (·.1) → FldsRep H' F G' k vs fs := fun {vs fs} z => by
        induction z with
        | nil => exact fun _ => .nil
        | cons h2 _ ih =>
          intro n
          rw [List.map_cons, List.mem_cons, not_or] at n
          exact .cons (hh _ _ _ (fun e => n.1 e.symm) h2) (ih n.2)
      exact key t nd.1
    · rw [if_neg q, if_neg q]
      exact .cons (hh _ _ _ q h) (FldsRep.put hx hh t nd.2)
theorem FldRep.up {k : Nat} {f : Str} {v : V} {x : Fld} {o : HO} (g : G a = some (.obj k)) (hk : ∀ b f2, f2 = f → G b = some (.fld k f2) → G' b = some (.fld k f2)) (h : FldRep H F G k f v x) : FldRep (upd H a o) F G' k f v x := by
  obtain ⟨h⟩ := h
  refine ⟨?_⟩
  cases x with
  | fz d => exact h
  | own ds =>
    obtain ⟨q, vs, e1, e2, e3, e4⟩ := h
    exact ⟨q, vs, e1, by rw [upd_ne (fun z => by subst z; rw [g] at e3; cases e3)]; exact e2, hk _ _ rfl e3, e4⟩
/-- the field f of object k owns nothing any more -/
def dropF (G : GO) (k : Nat) (f : Str) : GO := fun b => if G b = some (.fld k f) then none else G b
theorem dropF_some {k : Nat} {f : Str} {b : Addr} {x : Own} (h : dropF G k f b = some x) : G b = some x ∧ x ≠ .fld k f := by
  unfold dropF at h
  split at h
  · cases h
  · rename_i q
    exact ⟨h, fun e => q (by rw [h, e])⟩
theorem dropF_keep {k : Nat} {f : Str} {b : Addr} {x : Own} (h : G b = some x) (n : x ≠ .fld k f) : dropF G k f b = some x := by
  unfold dropF
  rw [if_neg (fun e => n (by rw [h] at e; exact Option.some.inj e))]
  exact h
/-- the field f of object k owns p -/
def takeF (G : GO) (k : Nat) (f : Str) (p : Addr) : GO := fun b => if b = p then some (.fld k f) else dropF G k f b
theorem takeF_some {k : Nat} {f : Str} {b : Addr} {x : Own} (h : takeF G k f p b = some x) : (b = p ∧ x = .fld k f) ∨ (b ≠ p ∧ G b = some x ∧ x ≠ .fld k f) := by
  unfold takeF at h
  split at h
  · rename_i q; cases h; exact .inl ⟨q, rfl⟩
  · rename_i q; exact .inr ⟨q, dropF_some h⟩
theorem takeF_keep {k : Nat} {f : Str} {b : Addr} {x : Own} (hp : G p = none) (h : G b = some x) (n : x ≠ .fld k f) : takeF G k f p b = some x := by
  unfold takeF
  rw [if_neg (fun q => by subst q; rw [hp] at h; cases h)]
  exact dropF_keep h n
theorem putA_eq {c f : Str} {o : Nat} {x : Fld} {st2 : Store} (h : putA env st c o f x = some st2) : ∃ k fs, env[o]? = some (.obj k) ∧ st[k]? = some (.ins c fs) ∧ fs.length < 10 ∧ st2 = st.set k (.ins c (putFD f x fs)) := by
  unfold putA at h
  split at h
  · rename_i k e
    split at h
    · rename_i c2 fs e2
      split at h
      · rename_i q
        rw [Bool.and_eq_true] at q
        have q1 := of_decide_eq_true q.1
        subst q1
        cases h
        exact ⟨k, fs, e, e2, of_decide_eq_true q.2, rfl⟩
      · cases h
    · cases h
  · cases h
theorem ownA_eq {c f : Str} {o : Nat} {ds : List PyData} (h : ownA env st c o f = some ds) : ∃ k fs, env[o]? = some (.obj k) ∧ st[k]? = some (.ins c fs) ∧ fs.lookup f = some (.own ds) := by
  unfold ownA at h
  split at h
  · rename_i k e
    split at h
    · rename_i c2 fs e2
      split at h
      · rename_i q
        have q1 := of_decide_eq_true q
        subst q1
        split at h
        · rename_i e3
          cases h
          exact ⟨k, fs, e, e2, e3⟩
        · cases h
      · cases h
    · cases h
  · cases h
/-- o.f = a value -/
theorem SI.setFz {c f : Str} {o : Nat} {d : PyData} {v : V} {st2 : Store} (s : SI ca env st σ H F G) (h : putA env st c o f (.fz d) = some st2) (r : Rep F v d) :
    ∃ a dx vs, σ[o]? = some (some (.ref a)) ∧ H a = some (.ins (ca c) dx vs) ∧ vs.length < 1000 ∧ ∃ G', SI ca env st2 σ (upd H a (.ins (ca c) dx (putF f v vs))) F G' ∧ Tr H F G (upd H a (.ins (ca c) dx (putF f v vs))) F G' := by
  obtain ⟨k, fs, e1, e2, hl, rfl⟩ := putA_eq h
  obtain ⟨a, g, h1⟩ := s.en.2 o _ e1
  obtain ⟨a2, g2, dx, vs, h2, fr, nd⟩ := s.ok.go k _ e2
  have ea := s.ok.gi _ _ _ g g2
  subst ea
  refine ⟨a, dx, vs, h1, h2, by rw [fr.len]; omega, dropF G k f, ?_, ?_⟩
  · refine s.chgObj g (fun b y e => .inl (dropF_some e).1) (fun b c y e1 e2 => s.ok.gi b c y (dropF_some e1).1 (dropF_some e2).1) (fun b y e n => dropF_keep e (n f)) ⟨dx, _, upd_same, ?_, putFD_nodup nd⟩
    exact FldsRep.put ⟨r⟩ (fun g0 w y n hf => hf.up g fun b f2 e z => dropF_keep z (by rw [e]; simp; exact n)) fr nd
  · exact ⟨Same.refl _, fun b x e g0 => by rw [upd_ne (fun q => by subst q; rw [g] at g0; cases g0)]; exact e, fun _ _ e => .inl e, fun b x e => .inr (by rw [(dropF_some e).1]; simp), fun b j e => dropF_keep e (by simp), fun b x e => by
      by_cases q : b = a
      · subst q; exact ⟨_, upd_same⟩
      · exact ⟨x, by rw [upd_ne q]; exact e⟩⟩
/-- o.f = a new list of its own -/
theorem SI.setOwn {c f : Str} {o : Nat} {ds : List PyData} {ws : List V} {st2 : Store} {H0 F0 : Hp} {G0 : GO} (s : SI ca env st σ H F G) (h : putA env st c o f (.own ds) = some st2) (hp : H p = some (.lst ws)) (hf : F p = none) (hg : G p = none) (r : RepA F ws ds)
    (t : Tr H0 F0 G0 H F G) (h0 : H0 p = none) :
    ∃ a dx vs, σ[o]? = some (some (.ref a)) ∧ H a = some (.ins (ca c) dx vs) ∧ vs.length < 1000 ∧ ∃ G', SI ca env st2 σ (upd H a (.ins (ca c) dx (putF f (.ref p) vs))) F G' ∧ Tr H0 F0 G0 (upd H a (.ins (ca c) dx (putF f (.ref p) vs))) F G' := by
  obtain ⟨k, fs, e1, e2, hl, rfl⟩ := putA_eq h
  obtain ⟨a, g, h1⟩ := s.en.2 o _ e1
  obtain ⟨a2, g2, dx, vs, h2, fr, nd⟩ := s.ok.go k _ e2
  have ea := s.ok.gi _ _ _ g g2
  subst ea
  have npa : p ≠ a := fun q => by subst q; rw [hg] at g; cases g
  refine ⟨a, dx, vs, h1, h2, by rw [fr.len]; omega, takeF G k f p, ?_, ?_⟩
  · refine s.chgObj g (fun b y e => ?_) (fun b c y e1 e2 => ?_) (fun b y e n => takeF_keep hg e (n f)) ⟨dx, _, upd_same, ?_, putFD_nodup nd⟩
    · rcases takeF_some e with ⟨q, z⟩ | ⟨_, q, _⟩
      · subst q; exact .inr ⟨f, z, hf, _, hp⟩
      · exact .inl q
    · rcases takeF_some e1 with ⟨q, z⟩ | ⟨_, q, z⟩
      · rcases takeF_some e2 with ⟨q2, _⟩ | ⟨_, _, z2⟩
        · rw [q, q2]
        · exact absurd z z2
      · rcases takeF_some e2 with ⟨_, z2⟩ | ⟨_, q2, _⟩
        · exact absurd z2 z
        · exact s.ok.gi b c y q q2
    · have hx : FldRep (upd H a (.ins (ca c) dx (putF f (.ref p) vs))) F (takeF G k f p) k f (.ref p) (.own ds) := ⟨⟨p, ws, rfl, by rw [upd_ne npa]; exact hp, by unfold takeF; rw [if_pos rfl], r⟩⟩
      exact FldsRep.put hx (fun g0 w y n hf => hf.up g fun b f2 e z => takeF_keep hg z (by rw [e]; simp; exact n)) fr nd
  · have tt : Tr H F G (upd H a (.ins (ca c) dx (putF f (.ref p) vs))) F G := Tr.own (by rw [g]; simp)
    have t2 := t.trans tt
    exact ⟨t2.s0, t2.kp, t2.fr, fun b x e => by
      rcases takeF_some e with ⟨q, _⟩ | ⟨_, q, _⟩
      · subst q; exact .inl h0
      · exact t2.gn b x q, fun b j e => takeF_keep hg (t2.ob b j e) (by simp), t2.th⟩
/-- o.f.append -/
theorem SI.appOwn {c f : Str} {o : Nat} {ds : List PyData} {d : PyData} {v : V} {st2 : Store} (s : SI ca env st σ H F G) (h0 : ownA env st c o f = some ds) (h : putA env st c o f (.own (ds ++ [d])) = some st2) (r : Rep F v d) :
    ∃ a dx vs p ws, σ[o]? = some (some (.ref a)) ∧ H a = some (.ins (ca c) dx vs) ∧ vs.lookup f = some (.ref p) ∧ H p = some (.lst ws) ∧ ws.length = ds.length ∧
      SI ca env st2 σ (upd H p (.lst (ws ++ [v]))) F G ∧ Tr H F G (upd H p (.lst (ws ++ [v]))) F G := by
  obtain ⟨k, fs, e1, e2, hl, rfl⟩ := putA_eq h
  obtain ⟨k2, fs2, e12, e22, e3⟩ := ownA_eq h0
  rw [e1] at e12
  cases e12
  rw [e2] at e22
  cases e22
  obtain ⟨a, g, h1⟩ := s.en.2 o _ e1
  obtain ⟨a2, g2, dx, vs, h2, fr, nd⟩ := s.ok.go k _ e2
  have ea := s.ok.gi _ _ _ g g2
  subst ea
  obtain ⟨w, hw, ⟨p, ws, ew, hp, gp, rw_⟩⟩ := fr.get e3
  subst ew
  have npa : a ≠ p := fun q => by subst q; rw [gp] at g; cases g
  have up : ∀ b x, G b = some x → x ≠ .fld k f → b ≠ p := fun b x e n q => by subst q; rw [gp] at e; cases e; exact n rfl
  refine ⟨a, dx, vs, p, ws, h1, h2, hw, hp, rw_.len, ⟨⟨fun b x e => ?_, fun b x e => ?_, s.ok.gi, fun j y e => ?_, fun b j e => by rw [List.length_set]; exact s.ok.gk b j e, fun b j f e => by rw [List.length_set]; exact s.ok.gl b j f e⟩, s.en.1, fun i y e => ?_⟩, Tr.own (by rw [gp]; simp)⟩
  · rw [upd_ne (fun q => by subst q; rw [(s.ok.gf _ _ gp).1] at e; cases e)]
    exact s.ok.sf b x e
  · refine ⟨(s.ok.gf b x e).1, ?_⟩
    by_cases q : b = p
    · subst q; exact ⟨_, upd_same⟩
    · rw [upd_ne q]; exact (s.ok.gf b x e).2
  · by_cases q : j = k
    · subst q
      have hl2 : j < st.length := by
        have := (List.getElem?_eq_some_iff.mp e).1
        rwa [List.length_set] at this
      rw [List.getElem?_set_self hl2] at e
      cases e
      refine ⟨a, g, dx, vs, by rw [upd_ne npa]; exact h2, ?_, putFD_nodup nd⟩
      have key : ∀ {vs : List (Str × V)} {fs : List (Str × Fld)}, FldsRep H F G j vs fs → (fs.map (·.1)).Nodup → vs.lookup f = some (.ref p) → FldsRep (upd H p (.lst (ws ++ [v]))) F G j vs (putFD f (.own (ds ++ [d])) fs) := fun {vs fs} z => by
        induction z with
        | nil => intro _ n; cases n
        | @cons g0 w y r0 s0 hf t ih =>
          intro nd n
          rw [List.map_cons, List.nodup_cons] at nd
          unfold putFD
          have other : ∀ {vs : List (Str × V)} {fs : List (Str × Fld)}, FldsRep H F G j vs fs → f ∉ fs.map (·.1) → FldsRep (upd H p (.lst (ws ++ [v]))) F G j vs fs := fun {vs fs} z => by
            induction z with
            | nil => exact fun _ => .nil
            | @cons g1 w1 y1 _ _ h2 _ ih2 =>
              intro n2
              rw [List.map_cons, List.mem_cons, not_or] at n2
              refine .cons ⟨?_⟩ (ih2 n2.2)
              obtain ⟨h2⟩ := h2
              cases y1 with
              | fz d => exact h2
              | own ds => obtain ⟨q2, us, a1, a2, a3, a4⟩ := h2; exact ⟨q2, us, a1, by rw [upd_ne (up _ _ a3 (by simp; exact fun z => n2.1 z.symm))]; exact a2, a3, a4⟩
          by_cases q : g0 = f
          · rw [if_pos q]
            subst q
            rw [List.lookup_cons, beq_self_eq_true] at n
            cases n
            exact .cons ⟨⟨p, _, rfl, upd_same, gp, rw_.app (.cons r .nil)⟩⟩ (other t nd.1)
          · rw [if_neg q]
            have nb : (f == g0) = false := by simp; exact fun z => q z.symm
            rw [List.lookup_cons, nb] at n
            refine .cons ⟨?_⟩ (ih nd.2 n)
            obtain ⟨hf⟩ := hf
            cases y with
            | fz d => exact hf
            | own ds => obtain ⟨q2, us, a1, a2, a3, a4⟩ := hf; exact ⟨q2, us, a1, by rw [upd_ne (up _ _ a3 (by simp; exact q))]; exact a2, a3, a4⟩
      exact key fr nd hw
    · rw [List.getElem?_set_ne (Ne.symm q)] at e
      obtain ⟨b, g2, r2⟩ := s.ok.go j y e
      refine ⟨b, g2, ?_⟩
      have nb := up b _ g2 (by simp)
      cases y with
      | ml ds => obtain ⟨vs, a1, a2⟩ := r2; exact ⟨vs, by rw [upd_ne nb]; exact a1, a2⟩
      | ins c fs =>
        obtain ⟨dx, vs, a1, a2, a3⟩ := r2
        refine ⟨dx, vs, by rw [upd_ne nb]; exact a1, ?_, a3⟩
        clear a1 a3 e
        induction a2 with
        | nil => exact .nil
        | cons h _ ih =>
          refine .cons ⟨?_⟩ ih
          obtain ⟨h⟩ := h
          rename_i x _ _ _
          cases x with
          | fz d => exact h
          | own ds =>
            obtain ⟨q2, us, b1, b2, b3, b4⟩ := h
            exact ⟨q2, us, b1, by rw [upd_ne (up _ _ b3 (by simp; exact fun z => absurd z q))]; exact b2, b3, b4⟩
  · have h := s.en.2 i y e
    cases y with
    | no => trivial
    | dat d => exact h
    | lst ds => obtain ⟨q, us, b1, b2, b3, b4⟩ := h; exact ⟨q, us, b1, by rw [upd_ne (up _ _ b3 (by simp))]; exact b2, b3, b4⟩
    | dct ds => obtain ⟨q, us, b1, b2, b3, b4⟩ := h; exact ⟨q, us, b1, by rw [upd_ne (up _ _ b3 (by simp))]; exact b2, b3, b4⟩
    | obj k => exact h
/-- a new object of class c -/
def takeO (G : GO) (k : Nat) (x : Addr) : GO := fun b => if b = x then some (.obj k) else G b
theorem takeO_some {k : Nat} {x b : Addr} {y : Own} (h : takeO G k x b = some y) : (b = x ∧ y = .obj k) ∨ (b ≠ x ∧ G b = some y) := by
  unfold takeO at h
  split at h
  · rename_i q; cases h; exact .inl ⟨q, rfl⟩
  · rename_i q; exact .inr ⟨q, h⟩
theorem takeO_keep {k : Nat} {x b : Addr} {y : Own} (hx : G x = none) (h : G b = some y) : takeO G k x b = some y := by
  unfold takeO
  rw [if_neg (fun q => by subst q; rw [hx] at h; cases h)]
  exact h
theorem SI.new {c : Str} {x dx : Addr} (s : SI ca env st σ H F G) (hx : H x = none) (hd : H dx = none) (hn : dx ≠ x) :
    SI ca env (st ++ [.ins c []]) σ (upd (upd H dx (.own x)) x (.ins (ca c) dx [])) F (takeO G st.length x) ∧ Tr H F G (upd (upd H dx (.own x)) x (.ins (ca c) dx [])) F (takeO G st.length x) := by
  obtain ⟨fx, gx⟩ := s.ok.free hx
  obtain ⟨fd, gd⟩ := s.ok.free hd
  have up : ∀ b y, H b = some y → (upd (upd H dx (.own x)) x (.ins (ca c) dx [])) b = some y := fun b y e => by
    rw [upd_ne (ne_of_none e hx), upd_ne (ne_of_none e hd)]
    exact e
  have upG : ∀ b y, G b = some y → (upd (upd H dx (.own x)) x (.ins (ca c) dx [])) b = H b := fun b y e => by
    obtain ⟨_, o, q⟩ := s.ok.gf b y e
    rw [up b o q, q]
  refine ⟨⟨⟨fun b y e => up b y (s.ok.sf b y e), fun b y e => ?_, fun b b2 y e1 e2 => ?_, fun j y e => ?_, fun b j e => ?_, fun b j f e => ?_⟩, s.en.1, fun i y e => ?_⟩, ⟨Same.refl _, fun b y e _ => up b y e, fun _ _ e => .inl e, fun b y e => ?_, fun b j e => takeO_keep gx e, fun b y e => ⟨y, up b y e⟩⟩⟩
  · rcases takeO_some e with ⟨q, _⟩ | ⟨_, q⟩
    · subst q; exact ⟨fx, _, upd_same⟩
    · obtain ⟨f, o, h⟩ := s.ok.gf b y q
      exact ⟨f, o, up b o h⟩
  · rcases takeO_some e1 with ⟨q, z⟩ | ⟨_, q⟩
    · rcases takeO_some e2 with ⟨q2, _⟩ | ⟨_, q2⟩
      · rw [q, q2]
      · subst z
        exact absurd (s.ok.gk _ _ q2) (Nat.lt_irrefl _)
    · rcases takeO_some e2 with ⟨_, z2⟩ | ⟨_, q2⟩
      · subst z2
        exact absurd (s.ok.gk _ _ q) (Nat.lt_irrefl _)
      · exact s.ok.gi b b2 y q q2
  · by_cases q : j < st.length
    · rw [List.getElem?_append_left q] at e
      obtain ⟨b, g, r⟩ := s.ok.go j y e
      refine ⟨b, takeO_keep gx g, ?_⟩
      have r2 := r.mono (H' := upd (upd H dx (.own x)) x (.ins (ca c) dx [])) upG (Same.refl F) g
      exact r2.own fun a f h => takeO_keep gx h
    · rw [List.getElem?_append_right (by omega)] at e
      have ej : j - st.length = 0 := by
        have := (List.getElem?_eq_some_iff.mp e).1
        simp at this
        omega
      rw [ej] at e
      cases e
      have : j = st.length := by omega
      subst this
      refine ⟨x, ?_, dx, [], upd_same, .nil, List.nodup_nil⟩
      unfold takeO
      rw [if_pos rfl]
  · rw [List.length_append]
    rcases takeO_some e with ⟨_, z⟩ | ⟨_, q⟩
    · cases z; exact Nat.lt_succ_self _
    · exact Nat.lt_succ_of_lt (s.ok.gk b j q)
  · rw [List.length_append]
    rcases takeO_some e with ⟨_, z⟩ | ⟨_, q⟩
    · cases z
    · exact Nat.lt_succ_of_lt (s.ok.gl b j f q)
  · have h := (s.en.2 i y e).mono (H' := upd (upd H dx (.own x)) x (.ins (ca c) dx [])) upG (Same.refl F)
    cases y with
    | no => trivial
    | dat d => exact h
    | lst ds => obtain ⟨q, us, b1, b2, b3, b4⟩ := h; exact ⟨q, us, b1, b2, takeO_keep gx b3, b4⟩
    | dct ds => obtain ⟨q, us, b1, b2, b3, b4⟩ := h; exact ⟨q, us, b1, b2, takeO_keep gx b3, b4⟩
    | obj k => obtain ⟨b, g, e1⟩ := h; exact ⟨b, takeO_keep gx g, e1⟩
  · rcases takeO_some e with ⟨q, _⟩ | ⟨_, q⟩
    · subst q; exact .inl hx
    · exact .inr (by rw [q]; simp)
/-! ### an field's own list is made a value -/
theorem FldsRep.frz {k : Nat} {f : Str} {ds : List PyData} {ws : List V} (hs : Same F F') (hd : ∀ b g, g ≠ f → G b = some (.fld k g) → G' b = some (.fld k g)) (hp : F' p = some (.lst ws)) (rw_ : RepA F ws ds) (hg : G p = some (.fld k f)) (gi : ∀ b, G b = some (.fld k f) → b = p) (hH : H p = some (.lst ws)) :
    ∀ {vs : List (Str × V)} {fs : List (Str × Fld)}, FldsRep H F G k vs fs → fs.lookup f = some (.own ds) → (fs.map (·.1)).Nodup → FldsRep H F' G' k vs (putFD f (.fz (.list ds)) fs)
  | _, _, .nil, e, _ => by cases e
  | _, _, .cons (f := g) (v := v) (x := x) (r := r) (s := s) h t, e, nd => by
    rw [List.map_cons, List.nodup_cons] at nd
    rw [List.lookup_cons] at e
    unfold putFD
    by_cases q : g = f
    · subst q
      rw [beq_self_eq_true] at e
      cases e
      rw [if_pos rfl]
      obtain ⟨q2, vs2, e1, e2, e3, e4⟩ := h.ok
      have ep := gi q2 e3
      subst ep
      subst e1
      rw [hH] at e2
      cases e2
      refine .cons ⟨.lst hp (rw_.mono hs)⟩ ?_
      have key : ∀ {vs : List (Str × V)} {fs : List (Str × Fld)}, FldsRep H F G k vs fs → g ∉ fs.map (·.1) → FldsRep H F' G' k vs fs := fun {vs fs} h => by
        induction h with
        | nil => exact fun _ => .nil
        | cons h2 _ ih =>
          rename_i f2 v2 x2 _ _ _
          intro n
          rw [List.map_cons, List.mem_cons, not_or] at n
          refine .cons ⟨?_⟩ (ih n.2)
          obtain ⟨h2⟩ := h2
          cases x2 with
          | fz d => exact Rep.mono hs h2
          | own ds2 =>
            obtain ⟨q3, vs3, z1, z2, z3, z4⟩ := h2
            exact ⟨q3, vs3, z1, z2, hd _ _ (fun e => n.1 e.symm) z3, z4.mono hs⟩
      exact key t nd.1
    · rw [if_neg q]
      rw [beq_eq_false_iff_ne.mpr fun e => q e.symm] at e
      refine .cons ⟨?_⟩ (FldsRep.frz hs hd hp rw_ hg gi hH t e nd.2)
      obtain ⟨h2⟩ := h
      cases x with
      | fz d => exact Rep.mono hs h2
      | own ds2 =>
        obtain ⟨q3, vs3, z1, z2, z3, z4⟩ := h2
        exact ⟨q3, vs3, z1, z2, hd _ _ q z3, z4.mono hs⟩
theorem SI.fzFld {c f : Str} {o : Nat} {ds : List PyData} {st2 : Store} (s : SI ca env st σ H F G) (h0 : ownA env st c o f = some ds) (h : putA env st c o f (.fz (.list ds)) = some st2) : ∃ F' G', SI ca env st2 σ H F' G' ∧ Tr H F G H F' G' := by
  obtain ⟨k, fs, e1, e2, hl, rfl⟩ := putA_eq h
  obtain ⟨k2, fs2, e12, e22, e3⟩ := ownA_eq h0
  rw [e1] at e12
  cases e12
  rw [e2] at e22
  cases e22
  obtain ⟨a, g, h1⟩ := s.en.2 o _ e1
  obtain ⟨a2, g2, dx, vs, h2, fr, nd⟩ := s.ok.go k _ e2
  have ea := s.ok.gi _ _ _ g g2
  subst ea
  obtain ⟨w, hw, ⟨p, ws, ew, hp, gp, rw_⟩⟩ := fr.get e3
  have hf := (s.ok.gf _ _ gp).1
  have hs : Same F (upd F p (.lst ws)) := same_upd hf
  have hne : ∀ b y, dropF G k f b = some y → b ≠ p := fun b y e z => by
    subst z
    obtain ⟨q1, q2⟩ := dropF_some e
    rw [gp] at q1
    cases q1
    exact q2 rfl
  have keepO : ∀ b x, G b = some x → (∀ j g, x ≠ .fld j g) → dropF G k f b = some x := fun b x e n => dropF_keep e (n k f)
  refine ⟨upd F p (.lst ws), dropF G k f, ⟨⟨fun b y e => ?_, fun b y e => ?_, fun b c y e e' => s.ok.gi b c y (dropF_some e).1 (dropF_some e').1, fun j y e => ?_, fun b j e => ?_, fun b j g e => ?_⟩, s.en.1, fun i y e => ?_⟩, ⟨hs, fun _ _ h _ => h, fun b y e => ?_, fun b y e => .inr (by rw [(dropF_some e).1]; simp), fun b j e => keepO b _ e (by simp), fun _ y e => ⟨y, e⟩⟩⟩
  · by_cases q : b = p
    · subst q
      rw [upd_same] at e
      rw [hp]
      exact e
    · rw [upd_ne q] at e
      exact s.ok.sf b y e
  · rw [upd_ne (hne b y e)]
    exact s.ok.gf b y (dropF_some e).1
  · by_cases q : j = k
    · subst q
      have hl : j < st.length := by
        have := (List.getElem?_eq_some_iff.mp e).1
        rwa [List.length_set] at this
      rw [List.getElem?_set_self hl] at e
      cases e
      exact ⟨a, keepO a _ g (by simp), dx, vs, h2, FldsRep.frz hs (fun b g n e => dropF_keep e (by simp; exact n)) upd_same rw_ gp (fun b e => s.ok.gi _ _ _ e gp) hp fr e3 nd, putFD_nodup nd⟩
    · rw [List.getElem?_set_ne (Ne.symm q)] at e
      obtain ⟨b, g2, r2⟩ := s.ok.go j y e
      refine ⟨b, keepO b _ g2 (by simp), ?_⟩
      exact (r2.mono (H' := H) (fun _ _ _ => rfl) hs g2).own fun b f2 e2 => dropF_keep e2 (by simp; exact fun z => absurd z q)
  · rw [List.length_set]
    exact s.ok.gk b j (dropF_some e).1
  · rw [List.length_set]
    exact s.ok.gl b j g (dropF_some e).1
  · have h3 := (s.en.2 i y e).mono (H' := H) (fun _ _ _ => rfl) hs
    cases y with
    | no => trivial
    | dat d => exact h3
    | lst ds =>
      obtain ⟨q, vs, e1, e2, e3, e4⟩ := h3
      exact ⟨q, vs, e1, e2, keepO _ _ e3 (by simp), e4⟩
    | dct ds =>
      obtain ⟨q, vs, e1, e2, e3, e4⟩ := h3
      exact ⟨q, vs, e1, e2, keepO _ _ e3 (by simp), e4⟩
    | obj k => obtain ⟨b, g2, e1⟩ := h3; exact ⟨b, keepO _ _ g2 (by simp), e1⟩
  · by_cases q : b = p
    · subst q
      exact .inr (.inr (by rw [gp]; simp))
    · rw [upd_ne q] at e
      exact .inl e
end
end Pm

set_option maxHeartbeats 4000000
/-! Pm10: statements keep their readings. -/
namespace Pm
open PySem PySem.Spec L2 RZ
section
variable {ca : Str → Addr} {env env2 : Env} {st st' st1 : Store} {σ σ2 : St} {H F H' F' H1 F1 : Hp} {G G' G1 : GO} {K : PySem.W.Frag} {Q : VK} {p a : Addr} {D : Ends}
/-- what is wanted of a statement's outcome -/
def PO (ca : Str → Addr) (W : WX) (r : Ou) (H F : Hp) (G : GO) (D : Ends) : Prop := match r with
  | .nxt env' st' => ∀ σ' H' F' G', SI ca env' st' σ' H' F' G' → Tr H F G H' F' G' → D.nx σ' H'
  | .ret d st' => ∀ v H' F' G', Ok ca st' H' F' G' → Tr H F G H' F' G' → Rep F' v d → D.rt v H'
  | .brk env' st' => ∀ σ' H' F' G', SI ca env' st' σ' H' F' G' → Tr H F G H' F' G' → D.bk σ' H'
  | .cnt env' st' => ∀ σ' H' F' G', SI ca env' st' σ' H' F' G' → Tr H F G H' F' G' → D.ct σ' H'
  | .ex x env' st' => ∀ σ' H' F' G', SI ca env' st' σ' H' F' G' → Tr H F G H' F' G' → W (.ref (ca x)) none σ' H'
  | .no => False
theorem PO.tr {W : WX} {r : Ou} (h : PO ca W r H F G D) (t : Tr H F G H' F' G') : PO ca W r H' F' G' D := by
  cases r with
  | nxt e s => exact fun σ' H2 F2 G2 s2 t2 => h σ' H2 F2 G2 s2 (t.trans t2)
  | ret d s => exact fun v H2 F2 G2 s2 t2 => h v H2 F2 G2 s2 (t.trans t2)
  | brk e s => exact fun σ' H2 F2 G2 s2 t2 => h σ' H2 F2 G2 s2 (t.trans t2)
  | cnt e s => exact fun σ' H2 F2 G2 s2 t2 => h σ' H2 F2 G2 s2 (t.trans t2)
  | ex x e s => exact fun σ' H2 F2 G2 s2 t2 => h σ' H2 F2 G2 s2 (t.trans t2)
  | no => exact h
theorem PO.thn {α : Type} {W : WX} {x : Out α} {f : α → Store → Ou} (h : PO ca W (Out.thn x env f) H F G D) : PX ca (WE W) env σ x H F G (fun a st1 H1 F1 G1 => PO ca W (f a st1) H1 F1 G1 D) := by
  cases x with
  | no => exact h
  | ex x st' => exact fun H' F' G' s t => h σ H' F' G' s t
  | ok a st' => exact fun H' F' G' s t => PO.tr h t
theorem PO.mono {W : WX} {r : Ou} {D' : Ends} (h : PO ca W r H F G D) (n : ∀ σ H, D.nx σ H → D'.nx σ H) (hr : ∀ v H, D.rt v H → D'.rt v H) (hb : ∀ σ H, D.bk σ H → D'.bk σ H) (hc : ∀ σ H, D.ct σ H → D'.ct σ H) : PO ca W r H F G D' := by
  cases r with
  | nxt e s => exact fun σ' H2 F2 G2 s2 t2 => n _ _ (h σ' H2 F2 G2 s2 t2)
  | ret d s => exact fun v H2 F2 G2 s2 t2 r => hr _ _ (h v H2 F2 G2 s2 t2 r)
  | brk e s => exact fun σ' H2 F2 G2 s2 t2 => hb _ _ (h σ' H2 F2 G2 s2 t2)
  | cnt e s => exact fun σ' H2 F2 G2 s2 t2 => hc _ _ (h σ' H2 F2 G2 s2 t2)
  | ex x e s => exact h
  | no => exact h
theorem mapK_V : ∀ (kvs : List (Sum Int Str × Lit)), RepA F ((kvs.map fun kv => ((kv.1 : Key), litV kv.2)).map (·.2)) ((kvs.map fun kv => (kv.1, kv.2.d)).map (·.2))
  | [] => .nil
  | kv :: r => .cons (litV_rep _) (mapK_V r)
theorem pairs_lit : ∀ (kvs : List (Sum Int Str × Lit)) (σ : St) (H : Hp) (Q : List (V × V) → Hp → Prop), Q (kvs.map fun kv => (kV kv.1, litV kv.2)) H → tPairs (tPairsOf kvs) σ H Q
  | [], _, _, _, q => q
  | kv :: r, σ, H, Q, q => pairs_lit r σ H (fun ps H3 => Q ((kV kv.1, litV kv.2) :: ps) H3) q
theorem merge_new : ∀ (kvs : List (Key × V)) (acc : List (Key × V)), ((acc ++ kvs).map (·.1)).Nodup → mergeK acc kvs = acc ++ kvs
  | [], acc, _ => by simp [mergeK]
  | kv :: r, acc, h => by
    show mergeK (putK acc kv.1 kv.2) r = _
    have hn : valV acc kv.1 = none := by
      have h2 : kv.1 ∉ acc.map (·.1) := by
        rw [List.map_append, List.nodup_append] at h
        exact fun z => h.2.2 _ z _ (by simp) rfl
      unfold valV
      rw [Option.map_eq_none_iff, List.find?_eq_none]
      intro x hx e
      exact h2 (List.mem_map.mpr ⟨x, hx, of_decide_eq_true e⟩)
    rw [putK_new _ hn, merge_new r _ (by rw [List.append_assoc]; exact h), List.append_assoc]
    rfl
theorem noExO_ok {W W' : WX} {r : Ou} (h : PO ca W (noExO r) H F G D) : PO ca W' r H F G D := by
  cases r with
  | ex _ _ _ => exact h.elim
  | _ => exact h
section
variable {R : RdC} {Fn : Fs}
theorem partD_int {v : V} {d : PyData} {z : Int} (r : Rep F v d) (h : partD d = some z) : v = .int z := by
  cases r with
  | int i => cases h; rfl
  | _ => cases h
theorem isLst_eq {i : Nat} (h : isLst env i = true) : ∃ ds, env[i]? = some (.lst ds) := by
  unfold isLst at h
  split at h
  · rename_i ds e; exact ⟨ds, e⟩
  · cases h
theorem args_tr : ∀ {vs : List V} {as : List Arg}, ArgsRep F G vs as → Tr H F G H' F' G' → ArgsRep F' G' vs as
  | _, _, .nil, _ => .nil
  | _, _, .cons h r, t => .cons (h.mono t) (args_tr r t)
theorem addI {x y d : PyData} (e : binD .add x y = some d) (h : isIntD d = true) : ∃ i j, x = .int i ∧ y = .int j ∧ d = .int (i + j) := by
  cases x <;> cases y <;> simp [binD] at e
  · exact ⟨_, _, rfl, rfl, e.symm⟩
  all_goals
    obtain ⟨_, e⟩ := e
    subst e
    cases h
theorem ar_noex : ∀ (e : E), isAr e = true → ∀ (env : Env) (st : Store) (x : Str) (st1 : Store), ev Fn e env st ≠ .ex x st1
  | .var i, _, env, st, x, st1 => by
    rw [ev]
    split <;> simp
  | .lit d, _, env, st, x, st1 => by rw [ev]; simp
  | .lenV j, _, env, st, x, st1 => by
    rw [ev]
    cases (peekD env st j).bind fun x => bltD .len [x] <;> simp [Out.ofO]
  | .bin .add a b, h, env, st, x, st1 => by
    have h : (isAr a && isAr b) = true := h
    rw [Bool.and_eq_true] at h
    rw [ev]
    cases ea : ev Fn a env st with
    | no => simp [Out.bind]
    | ex y st2 => exact absurd ea (ar_noex a h.1 env st y st2)
    | ok d st2 =>
      show Out.bind (ev Fn b env st2) _ ≠ _
      cases eb : ev Fn b env st2 with
      | no => simp [Out.bind]
      | ex y st3 => exact absurd eb (ar_noex b h.2 env st2 y st3)
      | ok d2 st3 =>
        show Out.ofO _ _ ≠ _
        cases binD .add d d2 <;> simp [Out.ofO]
  | .ife (.e (.var c)) a b, h, env, st, x, st1 => by
    have h : (isAr a && isAr b) = true := h
    rw [Bool.and_eq_true] at h
    rw [ev, evT]
    cases ec : ev Fn (.var c) env st with
    | no => simp [Out.bind]
    | ex y st2 => exact absurd ec (ar_noex (.var c) rfl env st y st2)
    | ok d st2 =>
      show Out.bind (Out.ofO (truth d) st2) _ ≠ _
      cases truth d with
      | none => simp [Out.bind, Out.ofO]
      | some t =>
        cases t with
        | true => exact ar_noex a h.1 env st2 x st1
        | false => exact ar_noex b h.2 env st2 x st1
/-- .. nothing moves -/
theorem ar_sound : ∀ (e : E), isAr e = true → ∀ (env : Env) (st : Store) (σ : St) (H F : Hp) (G : GO) (W : WX) (d : PyData) (st1 : Store), SI R.ca env st σ H F G → ev Fn e env st = .ok d st1 → (isIntD d = true ∨ isVar e = true) →
    st1 = st ∧ ∀ Q : VK, (∀ v, Rep F v d → Q v H) → tE R (WE W) e σ H Q
  | .var i, _, env, st, σ, H, F, G, W, d, st1, s, e, hi => by
    rw [ev] at e
    split at e
    · rename_i d0 e1
      cases e
      obtain ⟨v, h1, r⟩ := s.en.2 i _ e1
      exact ⟨rfl, fun Q k => ⟨v, h1, k v r⟩⟩
    · cases e
  | .lit l, _, env, st, σ, H, F, G, W, d, st1, s, e, hi => by
    rw [ev] at e
    cases e
    exact ⟨rfl, fun Q k => k _ (litV_rep l)⟩
  | .lenV j, _, env, st, σ, H, F, G, W, d, st1, s, e, hi => by
    rw [ev] at e
    cases ex : peekD env st j with
    | none => rw [ex] at e; cases e
    | some x =>
      rw [ex] at e
      have e : Out.ofO (bltD .len [x]) st = .ok d st1 := e
      cases eb : bltD .len [x] with
      | none => rw [eb] at e; cases e
      | some d2 =>
        rw [eb] at e
        cases e
        have hd : isIntD d = true := by
          rcases hi with z | z
          · exact z
          · cases z
        have key : ∀ (v : V) (Q : VK), rLen R.K [v] H (fun v' H' => H' = H → Q v' H) → rLen R.K [v] H Q := fun v Q ⟨x, n, e, l, q⟩ => ⟨x, n, e, l, q rfl⟩
        refine ⟨rfl, fun Q k => ?_⟩
        obtain ⟨v, hv, h⟩ := len_peek (K := R.K) (Q := fun v' H' => H' = H → Q v' H) s ex eb (fun v' H' F' G' _ _ r _ => by
          cases r with
          | int n => exact k _ (.int _)
          | _ => cases hd)
        exact ⟨v, hv, key v Q h⟩
  | .bin .add a b, h, env, st, σ, H, F, G, W, d, st1, s, e, hi => by
    have h : (isAr a && isAr b) = true := h
    rw [Bool.and_eq_true] at h
    have hd : isIntD d = true := by
      rcases hi with z | z
      · exact z
      · cases z
    rw [ev] at e
    cases ea : ev Fn a env st with
    | no => rw [ea] at e; cases e
    | ex y st2 => rw [ea] at e; cases e
    | ok x st2 =>
      rw [ea] at e
      have e : Out.bind (ev Fn b env st2) (fun y st2 => Out.ofO (binD .add x y) st2) = .ok d st1 := e
      cases eb : ev Fn b env st2 with
      | no => rw [eb] at e; cases e
      | ex y st3 => rw [eb] at e; cases e
      | ok y st3 =>
        rw [eb] at e
        have e : Out.ofO (binD .add x y) st3 = .ok d st1 := e
        cases ec : binD .add x y with
        | none => rw [ec] at e; cases e
        | some d2 =>
          rw [ec] at e
          cases e
          obtain ⟨i, j, rfl, rfl, rfl⟩ := addI ec hd
          obtain ⟨e1, k1⟩ := ar_sound a h.1 env st σ H F G W _ st2 s ea (.inl rfl)
          subst e1
          obtain ⟨e2, k2⟩ := ar_sound b h.2 env st2 σ H F G W _ _ s eb (.inl rfl)
          subst e2
          refine ⟨rfl, fun Q k => k1 _ fun v1 r1 => k2 _ fun v2 r2 => ?_⟩
          cases r1
          cases r2
          exact .inl ⟨_, _, rfl, rfl, k _ (.int _)⟩
  | .ife (.e (.var c)) a b, h, env, st, σ, H, F, G, W, d, st1, s, e, hi => by
    have h : (isAr a && isAr b) = true := h
    rw [Bool.and_eq_true] at h
    have hd : isIntD d = true := by
      rcases hi with z | z
      · exact z
      · cases z
    rw [ev, evT] at e
    cases ec : ev Fn (.var c) env st with
    | no => rw [ec] at e; cases e
    | ex y st2 => rw [ec] at e; cases e
    | ok x st2 =>
      rw [ec] at e
      have e : Out.bind (Out.ofO (truth x) st2) (fun t st1 => match t with
        | true => ev Fn a env st1
        | false => ev Fn b env st1) = .ok d st1 := e
      obtain ⟨e1, k1⟩ := ar_sound (.var c) rfl env st σ H F G W _ st2 s ec (.inr rfl)
      subst e1
      cases et : truth x with
      | none => rw [et] at e; cases e
      | some t =>
        rw [et] at e
        cases t with
        | true =>
          obtain ⟨e2, k2⟩ := ar_sound a h.1 env st2 σ H F G W _ st1 s e (.inl hd)
          refine ⟨e2, fun Q k => k1 (fun x H' => ∃ k, TruV R.K x H' k ∧ (if k = true then tE R (WE W) a σ H' Q else tE R (WE W) b σ H' Q)) fun v1 r1 => ⟨true, truSound s r1 et, ?_⟩⟩
          rw [if_pos rfl]
          exact k2 Q k
        | false =>
          obtain ⟨e2, k2⟩ := ar_sound b h.2 env st2 σ H F G W _ st1 s e (.inl hd)
          refine ⟨e2, fun Q k => k1 (fun x H' => ∃ k, TruV R.K x H' k ∧ (if k = true then tE R (WE W) a σ H' Q else tE R (WE W) b σ H' Q)) fun v1 r1 => ⟨false, truSound s r1 et, ?_⟩⟩
          rw [if_neg Bool.false_ne_true]
          exact k2 Q k
theorem exS (ok : FsOk R Fn) (wf : Nat) : ∀ (s : S) (W : WX) (env : Env) (st : Store) (σ : St) (H F : Hp) (G : GO) (D : Ends), SI R.ca env st σ H F G →
    PO R.ca W (ex Fn wf s env st) H F G D → tS R W s D σ H := by
  intro s0
  induction s0 with
  | skip =>
    intro W env st σ H F G D s p
    exact p σ H F G s (Tr.refl _ _ _)
  | drop e =>
    intro W env st σ H F G D s p
    exact evS ok e (WE W) env st σ H F G _ s (PX.mono (PO.thn p) fun d st1 H1 F1 G1 s1 t1 h v r => h σ H1 F1 G1 s1 (Tr.refl _ _ _))
  | asg i e =>
    intro W env st σ H F G D s p
    exact evS ok e (WE W) env st σ H F G _ s (PX.mono (PO.thn p) fun d st1 H1 F1 G1 s1 t1 h v r => h _ H1 F1 _ (s1.setDat r) (Tr.dropS i))
  | asgO i e =>
    intro W env st σ H F G D s p
    rw [ex] at p
    split at p
    · rename_i hf
      refine evFS ok e (WE W) env st σ H F G _ hf s ?_
      cases ee : ev Fn e env st with
      | no => rw [ee] at p; exact p
      | ex x st1 => rw [ee] at p; exact fun H' F' G' s t => p σ H' F' G' s t
      | ok d st1 =>
        rw [ee] at p
        intro H1 F1 G1 s1 t1
        cases d with
        | list ds =>
          refine ⟨ds, rfl, fun q vs h0 hq fq gq r => ?_⟩
          have p : ∀ σ' H' F' G', SI R.ca (env.set i (.lst ds)) st1 σ' H' F' G' → Tr H F G H' F' G' → D.nx σ' H' := p
          refine p _ H1 F1 _ (s1.take (v := .non) hq fq gq fun hl => ⟨q, vs, List.getElem?_set_self (by rw [s1.en.1]; exact hl), hq, ?_, r⟩) (t1.take h0 gq)
          unfold takeS
          rw [if_pos rfl]
        | _ => exact (show False from p).elim
    · exact p.elim
  | asgG g e =>
    intro W env st σ H F G D s p
    rw [ex] at p
    refine evS ok e (WE W) env st σ H F G _ s (PX.mono (PO.thn p) fun d st1 H1 F1 G1 s1 t1 h v r => ?_)
    cases eg : setG g d env with
    | none => rw [eg] at h; exact h.elim
    | some env1 =>
      rw [eg] at h
      exact setG_sound g d env env1 v σ G1 _ s1 r eg fun σ2 G2 s2 t2 _ => h σ2 H1 F1 G2 s2 t2
  | par2 i j a b =>
    intro W env st σ H F G D s p
    rw [ex] at p
    refine evS ok a (WE W) env st σ H F G _ s (PX.mono (PO.thn p) fun x st1 H1 F1 G1 s1 t1 h v1 r1 => ?_)
    refine evS ok b (WE W) env st1 σ H1 F1 G1 _ s1 (PX.mono (PO.thn h) fun y st2 H2 F2 G2 s2 t2 h2 v2 r2 => ?_)
    exact ⟨v1, v2, rfl, h2 _ H2 F2 _ ((s2.setDat (r1.mono t2.s0)).setDat r2) ((Tr.dropS i).trans (Tr.dropS j))⟩
  | par3 i j k a b c =>
    intro W env st σ H F G D s p
    rw [ex] at p
    refine evS ok a (WE W) env st σ H F G _ s (PX.mono (PO.thn p) fun x st1 H1 F1 G1 s1 t1 h v1 r1 => ?_)
    refine evS ok b (WE W) env st1 σ H1 F1 G1 _ s1 (PX.mono (PO.thn h) fun y st2 H2 F2 G2 s2 t2 h2 v2 r2 => ?_)
    refine evS ok c (WE W) env st2 σ H2 F2 G2 _ s2 (PX.mono (PO.thn h2) fun z st3 H3 F3 G3 s3 t3 h3 v3 r3 => ?_)
    exact ⟨v1, v2, v3, rfl, h3 _ H3 F3 _ (((s3.setDat ((r1.mono t2.s0).mono t3.s0)).setDat (r2.mono t3.s0)).setDat r3) (((Tr.dropS i).trans (Tr.dropS j)).trans (Tr.dropS k))⟩
  | app i e =>
    intro W env st σ H F G D s p
    rw [ex] at p
    split at p
    · rename_i hl
      unfold isLst at hl
      split at hl
      · rename_i ds e1
        obtain ⟨q, vs, h1, h2, g, r⟩ := s.en.2 i _ e1
        refine ⟨_, h1, .inl ⟨rfl, _, SqL.of h2⟩, ?_⟩
        refine evS ok e (WE W) env st σ H F G _ s (PX.mono (PO.thn p) fun d st1 H1 F1 G1 s1 t1 h v rv => ?_)
        rw [e1] at h
        have h : PO R.ca W (if okLen (ds.length + 1) = true then .nxt (env.set i (.lst (ds ++ [d]))) st1 else .no) H1 F1 G1 D := h
        split at h
        · rename_i hlen
          obtain ⟨q2, vs2, h12, h22, g2, r2⟩ := s1.en.2 i _ e1
          rw [h1] at h12
          cases h12
          refine ⟨q, vs2, v, rfl, rfl, h22, ?_, ?_⟩
          · rw [r2.len]
            have := okLen_le hlen
            omega
          · exact h σ _ F1 G1 (s1.chgSlot g2 fun _ => ⟨q, _, h1, upd_same, g2, r2.app (.cons rv .nil)⟩) (Tr.own (by rw [g2]; simp))
        · exact h.elim
      · cases hl
    · exact p.elim
  | setI i k e =>
    intro W env st σ H F G D s p
    rw [ex] at p
    split at p
    · rename_i hs
      obtain ⟨v0, hv0⟩ := seen_v s hs
      refine evS ok e (WE W) env st σ H F G _ s (PX.mono (PO.thn p) fun d st1 H1 F1 G1 s1 t1 h v r => ?_)
      refine ⟨v0, hv0, ?_⟩
      refine evS ok k (WE W) env st1 σ H1 F1 G1 _ s1 (PX.mono (PO.thn h) fun x st2 H2 F2 G2 s2 t2 h2 v2 r2 => ?_)
      have r := r.mono t2.s0
      cases ep : partD x with
      | none => rw [ep] at h2; exact h2.elim
      | some z =>
        rw [ep] at h2
        have e2 := partD_int r2 ep
        subst e2
        cases e1 : env[i]? with
        | none => rw [e1] at h2; exact h2.elim
        | some sl =>
          rw [e1] at h2
          cases sl with
          | lst ds =>
            obtain ⟨q, vs, h1, hq, g, rv⟩ := s2.en.2 i _ e1
            rw [hv0] at h1
            cases h1
            cases ej : ixN ds.length z with
            | none =>
              have h2 : PO R.ca W (match ixN ds.length z with | some j => .nxt (env.set i (.lst (ds.set j d))) st2 | none => .no) H2 F2 G2 D := h2
              rw [ej] at h2; exact h2.elim
            | some j =>
              have h2 : PO R.ca W (match ixN ds.length z with | some j => .nxt (env.set i (.lst (ds.set j d))) st2 | none => .no) H2 F2 G2 D := h2
              rw [ej] at h2
              exact ⟨q, vs, z, j, rfl, rfl, hq, by rw [rv.len]; exact ej, h2 σ _ F2 G2 (s2.chgSlot g fun _ => ⟨q, _, hv0, upd_same, g, rv.set j r⟩) (Tr.own (by rw [g]; simp))⟩
          | obj o =>
            cases eo : st2[o]? with
            | none =>
              have h2 : PO R.ca W (match st2[o]? with | some (.ml ds) => (match ixN ds.length z with | some j => .nxt env (st2.set o (.ml (ds.set j d))) | none => .no) | _ => .no) H2 F2 G2 D := h2
              rw [eo] at h2; exact h2.elim
            | some ob =>
              have h2 : PO R.ca W (match st2[o]? with | some (.ml ds) => (match ixN ds.length z with | some j => .nxt env (st2.set o (.ml (ds.set j d))) | none => .no) | _ => .no) H2 F2 G2 D := h2
              rw [eo] at h2
              cases ob with
              | ins c fs => exact h2.elim
              | ml ds =>
                obtain ⟨a, g, h1⟩ := s2.en.2 i _ e1
                rw [hv0] at h1
                cases h1
                obtain ⟨a2, g2, vs, hq, rv⟩ := s2.ok.go o _ eo
                have ea := s2.ok.gi _ _ _ g g2
                subst ea
                have h2 : PO R.ca W (match ixN ds.length z with | some j => .nxt env (st2.set o (.ml (ds.set j d))) | none => .no) H2 F2 G2 D := h2
                cases ej : ixN ds.length z with
                | none => rw [ej] at h2; exact h2.elim
                | some j =>
                  rw [ej] at h2
                  exact ⟨a, vs, z, j, rfl, rfl, hq, by rw [rv.len]; exact ej, h2 σ _ F2 G2 (s2.chgObj g (fun b y e => .inl e) s2.ok.gi (fun b y e _ => e) ⟨_, upd_same, rv.set j r⟩) (Tr.own (by rw [g]; simp))⟩
          | _ => exact h2.elim
    · exact p.elim
  | set2 i j k1 k2 e1 e2 =>
    intro W env st σ H F G D s p
    rw [ex] at p
    split at p
    · rename_i hs
      rw [Bool.and_eq_true, Bool.and_eq_true] at hs
      refine evS ok e1 (WE W) env st σ H F G _ s (PX.mono (PO.thn p) fun d1 st1 H1 F1 G1 s1 t1 h1 v1 r1 => ?_)
      refine evS ok e2 (WE W) env st1 σ H1 F1 G1 _ s1 (PX.mono (PO.thn h1) fun d2 st2 H2 F2 G2 s2 t2 h2 v2 r2 => ?_)
      refine ⟨by show 2 ≤ sizeLine; decide, fun q hq => ?_⟩
      have sq := s2.alloc (o := .tup [v1, v2]) hq
      have tq := Tr.alloc (o := .tup [v1, v2]) s2.ok hq
      have r1 := (r1.mono t2.s0).mono tq.s0
      have r2 := r2.mono tq.s0
      have h2 := PO.tr h2 tq
      refine ⟨q, [v1, v2], rfl, SqT.of upd_same, rfl, v1, [v2], rfl, ?_⟩
      obtain ⟨ds1, ei⟩ := isLst_eq hs.1.1
      obtain ⟨ds2, ej⟩ := isLst_eq hs.1.2
      have nij : i ≠ j := of_decide_eq_true hs.2
      obtain ⟨p1, ws1, hv1, _⟩ := sq.en.2 i _ ei
      refine ⟨_, hv1, ?_⟩
      refine evS ok k1 (WE W) env st2 σ _ _ G2 _ sq (PX.mono (PO.thn h2) fun x1 st3 H3 F3 G3 s3 t3 h3 v3 r3 => ?_)
      have r1 := r1.mono t3.s0
      have r2 := r2.mono t3.s0
      cases ep : partD x1 with
      | none => rw [ep] at h3; exact h3.elim
      | some z1 =>
        rw [ep, ei] at h3
        have e5 := partD_int r3 ep
        subst e5
        obtain ⟨p1', ws1', hv1', hp1, g1, rr1⟩ := s3.en.2 i _ ei
        rw [hv1] at hv1'
        cases hv1'
        have h3 : PO R.ca W (match ixN ds1.length z1 with
          | some j1 => let env1 := env.set i (.lst (ds1.set j1 d1)); (ev Fn k2 env1 st3).thn env1 fun x2 st4 => (match partD x2 with
            | some z2 => (match env1[j]? with
              | some (.lst ds2) => (match ixN ds2.length z2 with
                | some j2 => .nxt (env1.set j (.lst (ds2.set j2 d2))) st4
                | none => .no)
              | _ => .no)
            | none => .no)
          | none => .no) H3 F3 G3 D := h3
        cases ej1 : ixN ds1.length z1 with
        | none => rw [ej1] at h3; exact h3.elim
        | some j1 =>
          rw [ej1] at h3
          refine ⟨p1, ws1', z1, j1, rfl, rfl, hp1, by rw [rr1.len]; exact ej1, ?_⟩
          have s4 := s3.chgSlot (i := i) (o := .lst (ws1'.set j1 v1)) (x := .lst (ds1.set j1 d1)) g1 fun _ => ⟨p1, _, hv1, upd_same, g1, rr1.set j1 r1⟩
          have t4 : Tr H3 F3 G3 (upd H3 p1 (.lst (ws1'.set j1 v1))) F3 G3 := Tr.own (by rw [g1]; simp)
          have h3 := PO.tr h3 t4
          have ej2 : (env.set i (.lst (ds1.set j1 d1)))[j]? = some (.lst ds2) := by rw [List.getElem?_set_ne nij]; exact ej
          refine ⟨v2, [], rfl, ?_⟩
          obtain ⟨p2, ws2, hv2, _⟩ := s4.en.2 j _ ej2
          refine ⟨_, hv2, ?_⟩
          refine evS ok k2 (WE W) _ st3 σ _ F3 G3 _ s4 (PX.mono (PO.thn h3) fun x2 st5 H5 F5 G5 s5 t5 h5 v5 r5 => ?_)
          have r2 := r2.mono t5.s0
          cases ep2 : partD x2 with
          | none => rw [ep2] at h5; exact h5.elim
          | some z2 =>
            rw [ep2, ej2] at h5
            have e6 := partD_int r5 ep2
            subst e6
            obtain ⟨p2', ws2', hv2', hp2, g2, rr2⟩ := s5.en.2 j _ ej2
            rw [hv2] at hv2'
            cases hv2'
            have h5 : PO R.ca W (match ixN ds2.length z2 with
                | some j2 => .nxt ((env.set i (.lst (ds1.set j1 d1))).set j (.lst (ds2.set j2 d2))) st5
                | none => .no) H5 F5 G5 D := h5
            cases ej3 : ixN ds2.length z2 with
            | none => rw [ej3] at h5; exact h5.elim
            | some j2 =>
              rw [ej3] at h5
              refine ⟨p2, ws2', z2, j2, rfl, rfl, hp2, by rw [rr2.len]; exact ej3, rfl, ?_⟩
              exact h5 σ _ F5 G5 (s5.chgSlot g2 fun _ => ⟨p2, _, hv2, upd_same, g2, rr2.set j2 r2⟩) (Tr.own (by rw [g2]; simp))
    · exact p.elim
  | asgD i kvs =>
    intro W env st σ H F G D s p
    rw [ex] at p
    split at p
    · rename_i hk
      rw [Bool.and_eq_true] at hk
      have hnd : (kvs.map (·.1)).Nodup := of_decide_eq_true hk.2
      have fin : ∀ q, H q = none → D.nx (σ.set i (some (.ref q))) (upd H q (.dK (kvs.map fun kv => ((kv.1 : Key), litV kv.2)))) := fun q hq => by
        refine p _ _ F _ ((s.fresh (o := .dK (kvs.map fun kv => ((kv.1 : Key), litV kv.2))) hq).take upd_same (s.ok.free hq).1 (s.ok.free hq).2 (v := .non) fun hl => ?_) ((Tr.fresh hq).take hq (s.ok.free hq).2)
        refine ⟨q, _, List.getElem?_set_self (by rw [s.en.1]; exact hl), upd_same, ?_, ?_, mapK_V kvs⟩
        · unfold takeS; rw [if_pos rfl]
        · rw [List.map_map, List.map_map]; rfl
      cases kvs with
      | nil => exact fun q hq => fin q hq
      | cons kv r =>
        intro q hq
        refine pairs_lit (kv :: r) σ _ _ ⟨upd_same, (kv :: r).map fun kv => ((kv.1 : Key), litV kv.2), ?_, ?_, ?_⟩
        · rw [List.map_map]; rfl
        · rw [List.length_map]; exact of_decide_eq_true hk.1
        · rw [merge_new _ [] (by rw [List.nil_append, List.map_map]; exact hnd), List.nil_append, upd_upd]
          exact fin q hq
    · exact p.elim
  | dput i k e =>
    intro W env st σ H F G D s p
    rw [ex] at p
    split at p
    · rename_i hs
      obtain ⟨kvs, hk⟩ := Option.isSome_iff_exists.mp hs
      refine evS ok e (WE W) env st σ H F G _ s (PX.mono (PO.thn p) fun d st1 H1 F1 G1 s1 t1 h v r => ?_)
      obtain ⟨q, ks, h1, hq, g, e1, rv⟩ := s1.en.2 i _ (dctOf_eq hk)
      refine ⟨_, h1, ?_⟩
      refine evS ok k (WE W) env st1 σ H1 F1 G1 _ s1 (PX.mono (PO.thn h) fun x st2 H2 F2 G2 s2 t2 h2 v2 r2 => ?_)
      have r := r.mono t2.s0
      rw [hk] at h2
      cases ek : keyD x with
      | none => rw [ek] at h2; exact h2.elim
      | some key =>
        rw [ek] at h2
        have h2 : PO R.ca W (if okLen (kvs.length + 1) = true then .nxt (env.set i (.dct (putKD kvs key d))) st2 else .no) H2 F2 G2 D := h2
        split at h2
        · rename_i hlen
          have e5 := keyD_V r2 ek
          subst e5
          obtain ⟨q2, ks2, h12, hq2, g2, e12, rv2⟩ := s2.en.2 i _ (dctOf_eq hk)
          rw [h1] at h12
          cases h12
          obtain ⟨a1, a2⟩ := putK_rep (k := key) r e12 rv2
          have e7 : ks2.length = kvs.length := by
            have := congrArg List.length e12
            simpa using this
          have hlen := okLen_le hlen
          exact ⟨q, _, rfl, DPut.k hq2 (by omega), h2 σ _ F2 G2 (s2.chgSlot g2 fun _ => ⟨q, _, h1, upd_same, g2, a1, a2⟩) (Tr.own (by rw [g2]; simp))⟩
        · exact h2.elim
    · exact p.elim
  | setA c o f e =>
    intro W env st σ H F G D s p
    rw [ex] at p
    refine evS ok e (WE W) env st σ H F G _ s (PX.mono (PO.thn p) fun d st1 H1 F1 G1 s1 t1 h v r => ?_)
    by_cases ha : Fn.att c f = true
    · rw [if_pos ha] at h
      cases ep : putA env st1 c o f (.fz d) with
      | none => rw [ep] at h; exact h.elim
      | some st2 =>
        rw [ep] at h
        obtain ⟨a, dx, vs, h1, h2, hl, G2, s2, t2⟩ := s1.setFz ep r
        obtain ⟨cl, na⟩ := ok.att c f ha
        exact ⟨_, h1, a, _, dx, vs, rfl, h2, cl, na, hl, h σ _ F1 G2 s2 t2⟩
    · rw [if_neg ha] at h; exact h.elim
  | setAO c o f e =>
    intro W env st σ H F G D s p
    rw [ex] at p
    split at p
    · rename_i hf
      refine evFS ok e (WE W) env st σ H F G _ hf s ?_
      cases ee : ev Fn e env st with
      | no => rw [ee] at p; exact p
      | ex x st1 => rw [ee] at p; exact fun H' F' G' s t => p σ H' F' G' s t
      | ok d st1 =>
        rw [ee] at p
        intro H1 F1 G1 s1 t1
        cases d with
        | list ds =>
          refine ⟨ds, rfl, fun q vs h0 hq fq gq r => ?_⟩
          have p : PO R.ca W (match (if Fn.att c f = true then putA env st1 c o f (.own ds) else none) with
            | some st2 => .nxt env st2
            | none => .no) H F G D := p
          by_cases ha : Fn.att c f = true
          · rw [if_pos ha] at p
            cases ep : putA env st1 c o f (.own ds) with
            | none => rw [ep] at p; exact p.elim
            | some st2 =>
              rw [ep] at p
              obtain ⟨a, dx, us, h1, h2, hl, G2, s2, t2⟩ := s1.setOwn ep hq fq gq r t1 h0
              obtain ⟨cl, na⟩ := ok.att c f ha
              exact ⟨_, h1, a, _, dx, us, rfl, h2, cl, na, hl, p σ _ F1 G2 s2 t2⟩
          · rw [if_neg ha] at p; exact p.elim
        | _ => exact (show False from p).elim
    · exact p.elim
  | appA c o f e =>
    intro W env st σ H F G D s p
    rw [ex] at p
    split at p
    · rename_i hs
      rw [Bool.and_eq_true] at hs
      obtain ⟨ds0, h0⟩ := Option.isSome_iff_exists.mp hs.2
      cases ee : ev Fn e env st with
      | no => rw [ee] at p; exact p.elim
      | ex x st1 => exact absurd ee (ar_noex e hs.1 env st x st1)
      | ok d st1 =>
        rw [ee] at p
        have p : PO R.ca W (match (if (decide (Fn.att c f = true) && (isIntD d || isVar e)) = true then ownA env st1 c o f else none) with
          | some ds => if okLen (ds.length + 1) = true then (match putA env st1 c o f (.own (ds ++ [d])) with
            | some st2 => .nxt env st2
            | none => .no) else .no
          | none => .no) H F G D := p
        by_cases hc : (decide (Fn.att c f = true) && (isIntD d || isVar e)) = true
        · rw [if_pos hc] at p
          rw [Bool.and_eq_true] at hc
          have ha : Fn.att c f = true := of_decide_eq_true hc.1
          obtain ⟨est, hr⟩ := ar_sound (R := R) e hs.1 env st σ H F G W d st1 s ee (by rw [Bool.or_eq_true] at hc; exact hc.2)
          subst est
          rw [h0] at p
          have p : PO R.ca W (if okLen (ds0.length + 1) = true then (match putA env st1 c o f (.own (ds0 ++ [d])) with
            | some st2 => .nxt env st2
            | none => .no) else .no) H F G D := p
          split at p
          · rename_i hl
            cases ep : putA env st1 c o f (.own (ds0 ++ [d])) with
            | none => rw [ep] at p; exact p.elim
            | some st2 =>
              rw [ep] at p
              have hl := okLen_le hl
              obtain ⟨cl, na⟩ := ok.att c f ha
              obtain ⟨k, fs, e1, e2, e3⟩ := ownA_eq h0
              obtain ⟨a, g, h1⟩ := s.en.2 o _ e1
              obtain ⟨a2, g2, dx, vs, h2, fr, nd⟩ := s.ok.go k _ e2
              have ea := s.ok.gi _ _ _ g g2
              subst ea
              obtain ⟨w, hw, ⟨q, ws, ew, hq, gq, rq⟩⟩ := fr.get e3
              subst ew
              refine ⟨_, h1, a, _, dx, vs, _, rfl, h2, cl, na, hw, .inl ⟨rfl, _, SqL.of hq⟩, ?_⟩
              refine hr _ fun v rv => ?_
              obtain ⟨a3, dx3, vs3, q3, ws3, h13, h23, hw3, hq3, hl3, s3, t3⟩ := s.appOwn h0 ep rv
              rw [h1] at h13
              cases h13
              rw [h2] at h23
              cases h23
              rw [hw] at hw3
              cases hw3
              exact ⟨q, ws3, v, rfl, rfl, hq3, by omega, p σ _ F G s3 t3⟩
          · exact p.elim
        · rw [if_neg hc] at p; exact p.elim
    · exact p.elim
  | mk i c es =>
    intro W env st σ H F G D s p
    rw [ex] at p
    refine evAS ok es (WE W) env st σ H F G _ s (PX.mono (PO.thn p) fun as st1 H1 F1 G1 s1 t1 h vs aa => ?_)
    intro x dx hx hd hn
    obtain ⟨sn, tn⟩ := s1.new (c := c) hx hd hn
    rw [List.append_nil]
    have gx : takeO G1 st1.length x x = some (.obj st1.length) := by unfold takeO; rw [if_pos rfl]
    refine ok.make c _ (st1 ++ [.ins c []]) _ F1 (hideS (takeO G1 st1.length x)) (.ref x :: vs) _ sn.ok.hide hideS_no (.cons (show ArgRep F1 _ (.ref x) (.obj st1.length) from ⟨x, rfl, hideS_keep gx (by simp)⟩) (args_tr aa tn).hide) ?_
    cases em : Fn.make c (.obj st1.length :: as) (st1 ++ [.ins c []]) with
    | no => rw [em] at h; exact h.elim
    | ex _ _ => rw [em] at h; exact h.elim
    | ok u st2 =>
      rw [em] at h
      intro H' F' G' o1 n1 t
      obtain ⟨s2, t2⟩ := sn.called o1 n1 t
      have gx2 := t2.ob x _ gx
      exact ⟨rfl, h _ H' F' _ (s2.set (x := some (.ref x)) (s := .obj st1.length) fun hl => ⟨x, dropS_keep gx2 (by simp), List.getElem?_set_self (by rw [s2.en.1]; exact hl)⟩) ((tn.trans t2).trans (Tr.dropS i))⟩
  | fz is =>
    intro W env st σ H F G D s p
    rw [ex] at p
    obtain ⟨F1, G1, s1, t1⟩ := s.fz is
    exact p σ H F1 G1 s1 t1
  | fzA c o f =>
    intro W env st σ H F G D s p
    rw [ex] at p
    cases e0 : ownA env st c o f with
    | none => rw [e0] at p; exact p.elim
    | some ds =>
      rw [e0] at p
      cases e1 : putA env st c o f (.fz (.list ds)) with
      | none => simp only [e1] at p; exact p.elim
      | some st2 =>
        simp only [e1] at p
        obtain ⟨F1, G1, s1, t1⟩ := s.fzFld e0 e1
        exact p σ H F1 G1 s1 t1
  | ret e =>
    intro W env st σ H F G D s p
    rw [ex] at p
    exact evS ok e (WE W) env st σ H F G _ s (PX.mono (PO.thn p) fun d st1 H1 F1 G1 s1 t1 h v r => h v H1 F1 G1 s1.ok (Tr.refl _ _ _) r)
  | retN =>
    intro W env st σ H F G D s p
    rw [ex] at p
    exact p .non H F G s.ok (Tr.refl _ _ _) .non
  | ife c a b iha ihb =>
    intro W env st σ H F G D s p
    rw [ex] at p
    refine evTS ok c (WE W) env st σ H F G _ s (PX.mono (PO.thn p) fun t st1 H1 F1 G1 s1 t1 h => ?_)
    cases t with
    | true => rw [if_pos rfl]; exact iha W env st1 σ H1 F1 G1 D s1 h
    | false => rw [if_neg Bool.false_ne_true]; exact ihb W env st1 σ H1 F1 G1 D s1 h
  | sfor g it b ih =>
    intro W env st σ H F G D s p
    rw [ex] at p
    refine evIS ok it (WE W) env st σ H F G _ s (PX.mono (PO.thn p) fun xs st1 H1 F1 G1 s1 t1 h J w => ?_)
    refine ⟨fun i m σ H => m = xs.length - i ∧ i ≤ xs.length ∧ ∃ env st F G, SI R.ca env st σ H F G ∧ Same F1 F ∧ PO R.ca W (forL g (ex Fn wf b) (xs.drop i) env st) H F G D,
      ⟨xs.length, by simp, Nat.zero_le _, env, st1, F1, G1, s1, Same.refl _, by rw [List.drop_zero]; exact h⟩, ?_⟩
    rintro i m σ H ⟨rfl, hi, env, st, F, G, s, sw, h⟩
    by_cases hlt : i < xs.length
    · rw [List.drop_eq_getElem_cons hlt] at h
      unfold forL at h
      refine .inr ⟨w.go H F i sw s.ok.sf hlt, fun σ' H' => ∃ env st F G, SI R.ca env st σ' H' F G ∧ Same F1 F ∧ PO R.ca W (forL g (ex Fn wf b) (xs.drop (i + 1)) env st) H' F G D, fun σ' H' ⟨env', st', F', G', s', sw', h'⟩ => ⟨xs.length - (i + 1), by omega, rfl, hlt, env', st', F', G', s', sw', h'⟩, fun x H' y => ?_⟩
      have hy : ∃ F', SI R.ca env st σ H' F' G ∧ Rep F' x xs[i] ∧ Tr H F G H' F' G := by
        rcases w.yld H F i _ x H' sw s.ok.sf (List.getElem?_eq_getElem hlt) y with ⟨rfl, r⟩ | ⟨T, ys, es, rfl, hT, rfl, ed, r⟩
        · exact ⟨F, s, r, Tr.refl _ _ _⟩
        · rw [ed]
          exact ⟨upd F T (.tup ys), s.alloc hT, .tup upd_same (r.mono (same_upd (s.ok.free hT).1)), Tr.alloc s.ok hT⟩
      obtain ⟨F', s', r, t'⟩ := hy
      split at h
      · rename_i env1 eg
        refine setG_sound g _ env env1 x σ G _ s' r eg fun σ2 G2 s2 t2 _ => ?_
        have tt := t'.trans t2
        refine ih W env1 st σ2 H' F' G2 _ s2 ?_
        cases eb : ex Fn wf b env1 st with
        | nxt env2 st2 =>
          rw [eb] at h
          exact fun σ3 H3 F3 G3 s3 t3 => ⟨env2, st2, F3, G3, s3, sw.trans (tt.trans t3).s0, PO.tr h (tt.trans t3)⟩
        | cnt env2 st2 =>
          rw [eb] at h
          exact fun σ3 H3 F3 G3 s3 t3 => ⟨env2, st2, F3, G3, s3, sw.trans (tt.trans t3).s0, PO.tr h (tt.trans t3)⟩
        | brk env2 st2 =>
          rw [eb] at h
          exact fun σ3 H3 F3 G3 s3 t3 => h σ3 H3 F3 G3 s3 (tt.trans t3)
        | ret d st2 =>
          rw [eb] at h
          exact fun v H3 F3 G3 s3 t3 r3 => h v H3 F3 G3 s3 (tt.trans t3) r3
        | ex x env2 st2 =>
          rw [eb] at h
          exact fun σ3 H3 F3 G3 s3 t3 => h σ3 H3 F3 G3 s3 (tt.trans t3)
        | no => rw [eb] at h; exact h
      · exact h.elim
    · have ei : i = xs.length := by omega
      subst ei
      rw [List.drop_length] at h
      exact .inl ⟨w.stop H F _ sw s.ok.sf rfl, h σ H F G s (Tr.refl _ _ _)⟩
  | swhile c b ih =>
    intro W env st σ H F G D s p
    rw [ex] at p
    refine ⟨fun m σ H => ∃ env st F G, SI R.ca env st σ H F G ∧ PO R.ca W (whileL (evT Fn c) (ex Fn wf b) m env st) H F G D, ⟨wf, env, st, F, G, s, p⟩, ?_⟩
    rintro m σ H ⟨env, st, F, G, s, h⟩
    cases m with
    | zero => exact h.elim
    | succ m =>
      unfold whileL at h
      refine evTS ok c (WE W) env st σ H F G _ s (PX.mono (PO.thn h) fun t st1 H1 F1 G1 s1 t1 h1 => ?_)
      cases t with
      | false => rw [if_neg Bool.false_ne_true]; exact h1 σ H1 F1 G1 s1 (Tr.refl _ _ _)
      | true =>
        rw [if_pos rfl]
        refine ⟨fun σ' H' => ∃ env st F G, SI R.ca env st σ' H' F G ∧ PO R.ca W (whileL (evT Fn c) (ex Fn wf b) m env st) H' F G D, fun σ' H' hN => ⟨m, Nat.lt_succ_self m, hN⟩, ?_⟩
        refine ih W env st1 σ H1 F1 G1 _ s1 ?_
        cases eb : ex Fn wf b env st1 with
        | nxt env2 st2 =>
          rw [eb] at h1
          exact fun σ3 H3 F3 G3 s3 t3 => ⟨env2, st2, F3, G3, s3, PO.tr h1 t3⟩
        | cnt env2 st2 =>
          rw [eb] at h1
          exact fun σ3 H3 F3 G3 s3 t3 => ⟨env2, st2, F3, G3, s3, PO.tr h1 t3⟩
        | brk env2 st2 => rw [eb] at h1; exact fun σ3 H3 F3 G3 s3 t3 => h1 σ3 H3 F3 G3 s3 t3
        | ret d st2 => rw [eb] at h1; exact fun v H3 F3 G3 s3 t3 r3 => h1 v H3 F3 G3 s3 t3 r3
        | ex x env2 st2 => rw [eb] at h1; exact fun σ3 H3 F3 G3 s3 t3 => h1 σ3 H3 F3 G3 s3 t3
        | no => rw [eb] at h1; exact h1
  | sraise x =>
    intro W env st σ H F G D s p
    rw [ex] at p
    exact p σ H F G s (Tr.refl _ _ _)
  | stry b x h ihb ihh =>
    intro W env st σ H F G D s p
    rw [ex] at p
    refine ihb _ env st σ H F G D s ?_
    cases eb : ex Fn wf b env st with
    | ex y env1 st1 =>
      rw [eb] at p
      intro σ1 H1 F1 G1 s1 t1
      have p : PO R.ca W (match Fn.sub y x with
        | some true => noExO (ex Fn wf h env1 st1)
        | some false => .ex y env1 st1
        | none => .no) H F G D := p
      cases es : Fn.sub y x with
      | none => rw [es] at p; exact p.elim
      | some t =>
        rw [es] at p
        refine ⟨t, ok.exm y x t es, fun et a ha => ?_, fun ef => ?_⟩
        · subst et
          exact ihh _ env1 st1 σ1 H1 F1 G1 D s1 (PO.tr (noExO_ok p) t1)
        · subst ef
          exact p σ1 H1 F1 G1 s1 t1
    | nxt env2 st2 => rw [eb] at p; exact p
    | cnt env2 st2 => rw [eb] at p; exact p
    | brk env2 st2 => rw [eb] at p; exact p
    | ret d st2 => rw [eb] at p; exact p
    | no => rw [eb] at p; exact p
  | seq a b iha ihb =>
    intro W env st σ H F G D s p
    rw [ex] at p
    refine iha W env st σ H F G _ s ?_
    cases ea : ex Fn wf a env st with
    | nxt env2 st2 =>
      rw [ea] at p
      exact fun σ3 H3 F3 G3 s3 t3 => ihb W env2 st2 σ3 H3 F3 G3 D s3 (PO.tr p t3)
    | cnt env2 st2 => rw [ea] at p; exact p
    | brk env2 st2 => rw [ea] at p; exact p
    | ret d st2 => rw [ea] at p; exact p
    | ex x env2 st2 => rw [ea] at p; exact p
    | no => rw [ea] at p; exact p
end
end
end Pm

set_option maxHeartbeats 4000000
/-! Pm11: a def of the program keeps the promise "it answers as the evaluator does". -/
namespace Pm
open PySem PySem.Spec L2 RZ

/-! ### the end of a def -/
section
variable {ca : Str → Addr} {st st' : Store} {σ : St} {H F H' F' H0 F0 : Hp} {G G' G0 : GO}
/-- what a def leaves: no slots, the first k objects -/
def cutG (G : GO) (k : Nat) : GO := fun a => match G a with
  | some (.obj j) => if j < k then some (.obj j) else none
  | some (.fld j f) => if j < k then some (.fld j f) else none
  | _ => none
theorem cutG_some {k : Nat} {a : Addr} {x : Own} (h : cutG G k a = some x) : G a = some x ∧ (∀ i, x ≠ .slot i) ∧ (∀ j, x = .obj j → j < k) ∧ ∀ j f, x = .fld j f → j < k := by
  unfold cutG at h
  split at h
  · rename_i j e
    split at h
    · rename_i hj
      cases h
      exact ⟨e, by simp, fun j' e' => (by cases e'; exact hj), fun _ _ e' => (by cases e')⟩
    · cases h
  · rename_i j f e
    split at h
    · rename_i hj
      cases h
      exact ⟨e, by simp, fun _ e' => (by cases e'), fun j' f' e' => (by cases e'; exact hj)⟩
    · cases h
  · cases h
theorem cutG_obj {k j : Nat} {a : Addr} (h : G a = some (.obj j)) (l : j < k) : cutG G k a = some (.obj j) := by
  unfold cutG
  rw [h]
  exact if_pos l
theorem cutG_fld {k j : Nat} {a : Addr} {f : Str} (h : G a = some (.fld j f)) (l : j < k) : cutG G k a = some (.fld j f) := by
  unfold cutG
  rw [h]
  exact if_pos l
theorem FldsRep.own2 {k : Nat} (hh : ∀ a f, G a = some (.fld k f) → G' a = some (.fld k f)) : ∀ {vs : List (Str × V)} {fs : List (Str × Fld)}, FldsRep H F G k vs fs → FldsRep H F G' k vs fs := FldsRep.own hh
theorem Ok.cut (k : Ok ca st H F G) (n : Nat) : Ok ca (st.take n) H F (cutG G n) where
  sf := k.sf
  gf := fun a x e => k.gf a x (cutG_some e).1
  gi := fun a b x e e' => k.gi a b x (cutG_some e).1 (cutG_some e').1
  go := fun i o e => by
    have hi : i < n := by
      obtain ⟨h, _⟩ := List.getElem?_eq_some_iff.mp e
      rw [List.length_take] at h
      omega
    rw [List.getElem?_take_of_lt hi] at e
    obtain ⟨a, g, r⟩ := k.go i o e
    exact ⟨a, cutG_obj g hi, r.own fun b f e2 => cutG_fld e2 hi⟩
  gk := fun a i e => by
    obtain ⟨e1, _, h, _⟩ := cutG_some e
    have h1 := k.gk a i e1
    have h2 := h i rfl
    rw [List.length_take]
    omega
  gl := fun a i f e => by
    obtain ⟨e1, _, _, h⟩ := cutG_some e
    have h1 := k.gl a i f e1
    have h2 := h i f rfl
    rw [List.length_take]
    omega
theorem cutG_no {n : Nat} : NoSlot (cutG G n) := fun a i h => (cutG_some h).2.1 i rfl
theorem Tr.cut (t : Tr H0 F0 G0 H F G) (k0 : Ok ca st H0 F0 G0) : Tr H0 F0 G0 H F (cutG G st.length) :=
  ⟨t.s0, t.kp, t.fr, fun a x e => t.gn a x (cutG_some e).1, fun a k e => cutG_obj (t.ob a k e) (k0.gk a k e), t.th⟩
/-- .. and its outcome -/
theorem PF.of_PO {W : WX} {Q : VK} {E : XK} {r : Ou} (k0 : Ok ca st H F G) (hW : ∀ c d σ H, E c d H → W c d σ H) (h : PF ca (endOf st r) H F G Q E) :
    PO ca W r H F G { nx := fun _ H' => Q .non H', rt := Q } := by
  cases r with
  | nxt e s => exact fun σ' H' F' G' s t => h .non H' F' _ (s.ok.cut _) cutG_no (t.cut k0) .non
  | ret d s => exact fun v H' F' G' s t r => h v H' F' _ (s.cut _) cutG_no (t.cut k0) r
  | ex x e s => exact fun σ' H' F' G' s t => hW _ _ _ _ (h H' F' _ (s.ok.cut _) cutG_no (t.cut k0))
  | brk _ _ => exact h.elim
  | cnt _ _ => exact h.elim
  | no => exact h.elim

/-! ### its start -/
theorem ArgsRep.get {vs : List V} {as : List Arg} : ArgsRep F G vs as → ∀ {i : Nat} {s : Slot}, as[i]? = some s → ∃ v, vs[i]? = some v ∧ ArgRep F G v s
  | .nil, _, _, e => by simp at e
  | .cons h r, 0, s, e => by simp at e; subst e; exact ⟨_, rfl, h⟩
  | .cons h r, i + 1, s, e => by
    obtain ⟨v, e1, e2⟩ := r.get (i := i) (s := s) (by simpa using e)
    exact ⟨v, by simpa using e1, e2⟩
theorem SI.start {d : Def} {N : List Str} {vs : List V} {as : List Arg} (k : Ok ca st H F G) (a : ArgsRep F G vs as) (hn : d.n = N.length) (hl : as.length = d.ps) : SI ca (startE d as) st (L2.start N vs) H F G := by
  have hv := a.len
  refine ⟨k, ?_, fun i s e => ?_⟩
  · unfold L2.start startE
    rw [List.length_append, List.length_append, List.length_map, List.length_replicate, List.length_replicate]
    omega
  · unfold startE at e
    by_cases hi : i < as.length
    · rw [List.getElem?_append_left hi] at e
      obtain ⟨v, e1, r⟩ := a.get e
      have e2 : (L2.start N vs)[i]? = some (some v) := by
        unfold L2.start
        rw [List.getElem?_append_left (by rw [List.length_map]; omega), List.getElem?_map, e1]
        rfl
      cases s with
      | dat d => exact ⟨v, e2, r⟩
      | obj j =>
        obtain ⟨b, rfl, g⟩ := r
        exact ⟨b, g, e2⟩
      | _ => exact r.elim
    · rw [List.getElem?_append_right (by omega), List.getElem?_replicate] at e
      split at e
      · cases e; trivial
      · cases e
end

/-! ### the contexts of the program's code -/
/-- names: all of a def's, in order; seen here; stored here; global here; own cells; the scope; outside an except suite -/
structure Sc where
  N : List Str
  is : List Nat
  ls : List Nat
  gs : List Str
  cs : List Str
  sc : Scope
  cm : Bool
def visB (sc : Scope) (x : Str) : Bool := match sc.names.lookup x with
  | some .local => true
  | some .cell => true
  | some .free => true
  | _ => false
def stoB (sc : Scope) (cs : List Str) (x : Str) : Bool := match sc.names.lookup x with
  | some .local => true
  | some .cell => decide (x ∈ cs)
  | _ => false
def okNm (x : Str) : Bool := !(x == ("__debug__" : Str)) && !(x == ("__classdict__" : Str)) && decide (x ≠ ("__name__" : Str))
def gloB (sc : Scope) (x : Str) : Bool := match sc.names.lookup x with
  | some .globalImplicit => okNm x
  | _ => false
def Sc.ok (T : Sc) : Bool := decide T.N.Nodup && (T.is.all fun i => match T.N[i]? with
    | some x => visB T.sc x && okNm x
    | none => false) && (T.ls.all fun i => match T.N[i]? with
    | some x => stoB T.sc T.cs x
    | none => false) && T.gs.all fun x => gloB T.sc x
theorem Sc.nd {T : Sc} (h : T.ok = true) : T.N.Nodup := by
  unfold Sc.ok at h
  simp only [Bool.and_eq_true] at h
  exact of_decide_eq_true h.1.1.1
theorem visB_eq {sc : Scope} {x : Str} (h : visB sc x = true) : Vis sc x := by
  unfold visB at h
  split at h
  · rename_i e; exact .inl e
  · rename_i e; exact .inr (.inl e)
  · rename_i e; exact .inr (.inr e)
  · cases h
theorem okNm_eq {x : Str} (h : okNm x = true) : (x == ("__debug__" : Str)) = false ∧ (x == ("__classdict__" : Str)) = false ∧ x ≠ "__name__" := by
  unfold okNm at h
  simp only [Bool.and_eq_true, Bool.not_eq_true'] at h
  exact ⟨h.1.1, h.1.2, of_decide_eq_true h.2⟩
theorem Sc.vis {T : Sc} (h : T.ok = true) {i : Nat} {x : Str} (hi : i ∈ T.is) (e : T.N[i]? = some x) : Vis T.sc x ∧ okNm x = true := by
  unfold Sc.ok at h
  simp only [Bool.and_eq_true, List.all_eq_true] at h
  have q := h.1.1.2 i hi
  rw [e] at q
  simp only [Bool.and_eq_true] at q
  exact ⟨visB_eq q.1, q.2⟩
theorem Sc.sto {T : Sc} (h : T.ok = true) {i : Nat} {x : Str} (hi : i ∈ T.ls) (e : T.N[i]? = some x) : T.sc.names.lookup x = some .local ∨ (T.sc.names.lookup x = some .cell ∧ x ∈ T.cs) := by
  unfold Sc.ok at h
  simp only [Bool.and_eq_true, List.all_eq_true] at h
  have q := h.1.2 i hi
  rw [e] at q
  have q : stoB T.sc T.cs x = true := q
  unfold stoB at q
  split at q
  · rename_i e; exact .inl e
  · rename_i e; exact .inr ⟨e, of_decide_eq_true q⟩
  · cases q
theorem Sc.glo {T : Sc} (h : T.ok = true) {j : Nat} {x : Str} (e : T.gs[j]? = some x) : T.sc.names.lookup x = some .globalImplicit ∧ okNm x = true := by
  unfold Sc.ok at h
  simp only [Bool.and_eq_true, List.all_eq_true] at h
  have q := h.2 x (List.mem_of_getElem? e)
  unfold gloB at q
  split at q
  · rename_i e; exact ⟨e, q⟩
  · cases q

/-- a program and its modules' constants, the built-in names that it uses -/
structure PgX where
  pg : Prog
  glos : List (Str × Lit)
  blts : List Str
/-- what K must hold of an error class of one's own -/
def excBm : List Value := [.type "ValueError", .type "Exception", .type "BaseException", .type "object"]
structure ExcK (K : PySem.W.Frag) (C : Addr) : Prop where
  ex : PySem.W.excIn K C excBm "ValueError.__new__" = true
  kp : PySem.W.keepIn K (.ref C) = true
  sub : PySem.W.subIn K (.ref C) (.type "BaseException") = some true
  ty : PySem.W.typeIn K (.ref C) = some (.type "type")
/-- what holds of the program's things, its defs down to depth k -/
structure LF (Pg : PgX) (R : RdC) (P : Program) (w : World) (K : PySem.W.Frag) (mg : Str → Option Value) (base : Heap) (k : Nat) : Prop where
  eK : R.K = K
  ew : R.w = w
  call : ∀ (j : Nat) (x : Str) (d : Def), Pg.pg.defs[j]? = some (x, d) → ∃ f fd ps, FnOk P w K mg base (L2.CX P w) k f fd ps (R.fsp x) ∧ mg x = some (.ref f) ∧ PySem.W.keepIn K (.ref f) = true ∧ Binds K fd ps []
  meth : ∀ (j : Nat) (c m : Str) (d : Def), Pg.pg.meths[j]? = some ((c, m), d) → ∃ f fd ps, Cls K (R.ca c) ∧ Meth K (R.ca c) m f ∧ FnOk P w K mg base (L2.CX P w) k f fd ps (R.msp c m) ∧ Binds K fd ps []
  make : ∀ (j : Nat) (c : Str) (d : Def), Pg.pg.meths[j]? = some ((c, ("__init__" : Str)), d) → ∃ f fd ps, Mk K (R.ca c) f ∧ FnOk P w K mg base (L2.CX P w) k f fd ps (R.isp c) ∧ mg c = some (.ref (R.ca c)) ∧ Binds K fd ps []
  glo : ∀ (j : Nat) (x : Str) (l : Lit), Pg.glos[j]? = some (x, l) → ∃ u, mg x = some u ∧ RelV (litV l) u
  tab : ∀ (j : Nat) (t : Str) (r : List (Str × Lit)), Pg.pg.tabs[j]? = some (t, r) → mg t = some (.ref (R.ta t)) ∧ ∃ es n, KDict K w (R.ta t) es n
  blt : ∀ (j : Nat) (x : Str), Pg.blts[j]? = some x → mg x = none
  exc : ∀ (j : Nat) (x : Str) (l : List Str), Pg.pg.excs[j]? = some (x, l) → mg x = some (.ref (R.ca x)) ∧ ExcK K (R.ca x)
/-- a context for the program's code -/
structure OkX (Pg : PgX) (R : RdC) (k : Nat) (T : Sc) (X : Cx) : Prop where
  lf : LF Pg R X.prog X.w X.K X.mg X.base k
  ck : T.ok = true
  N : X.N = T.N
  sc : X.env.scope = T.sc
  cm : T.cm = true → X.calm = true
  room : T.cm = true → Room (k + 1) X.A
  un : X.A.units + 65 < cLine
  fn : ∀ x ∈ T.cs, X.fn x = true
structure OkS (Pg : PgX) (R : RdC) (k : Nat) (T : Sc) (X : Cx) : Prop where
  x : OkX Pg R k T X
  pass : T.cm = true → PassesOwn (model X.prog X.w) X.A X.env X.xe
  stk : X.stack = X.env :: X.outer
  fr : X.env.frame = some X.env.locals
section
variable {Pg : PgX} {R : RdC} {k : Nat} {T : Sc} {X : Cx}
theorem OkX.K (O : OkX Pg R k T X) : R.K = X.K := O.lf.eK
theorem OkX.w (O : OkX Pg R k T X) : R.w = X.w := O.lf.ew
theorem OkX.nd (O : OkX Pg R k T X) : X.N.Nodup := by rw [O.N]; exact Sc.nd O.ck
theorem OkX.vis (O : OkX Pg R k T X) {i : Nat} {x : Str} (hi : i ∈ T.is) (e : T.N[i]? = some x) : X.N[i]? = some x ∧ Vis X.env.scope x ∧ okNm x = true := by
  rw [O.N, O.sc]
  exact ⟨e, Sc.vis O.ck hi e⟩
theorem OkX.sto (O : OkX Pg R k T X) {i : Nat} {x : Str} (hi : i ∈ T.ls) (e : T.N[i]? = some x) : X.N[i]? = some x ∧ Loc X.env.scope x ∧ (X.fn x = true ∨ X.env.scope.names.lookup x = some .local) := by
  rw [O.N, O.sc]
  rcases Sc.sto O.ck hi e with q | ⟨q, hc⟩
  · exact ⟨e, .inl q, .inr q⟩
  · exact ⟨e, .inr q, .inl (O.fn x hc)⟩
theorem OkX.gl (O : OkX Pg R k T X) {j : Nat} {x : Str} (e : T.gs[j]? = some x) : Gl X x ∧ okNm x = true := by
  obtain ⟨q, h⟩ := Sc.glo O.ck e
  refine ⟨?_, h⟩
  show X.env.scope.names.lookup x = some .globalImplicit
  rw [O.sc]
  exact q
end

/-! ### a def -/
def spOf (R : RdC) (Fn : Fs) (wf : Nat) (d : Def) : Sp := fun vs H Q E => ∃ F G st as, Ok R.ca st H F G ∧ NoSlot G ∧ ArgsRep F G vs as ∧ PF R.ca (endOf st (runDef Fn wf d as st)) H F G Q E
def spMk (R : RdC) (Fn : Fs) (wf : Nat) (d : Def) : Sp := fun vs H Q E => ∃ F G st as, Ok R.ca st H F G ∧ NoSlot G ∧ ArgsRep F G vs as ∧ (match runDef Fn wf d as st with
  | .nxt _ st1 => ∀ H' F' G', Ok R.ca (st1.take st.length) H' F' G' → NoSlot G' → Tr H F G H' F' G' → Q .non H'
  | .ret .none st1 => ∀ H' F' G', Ok R.ca (st1.take st.length) H' F' G' → NoSlot G' → Tr H F G H' F' G' → Q .non H'
  | _ => False)
section
variable {P : Program} {w : World} {K : PySem.W.Frag} {mg : Str → Option Value} {base : Heap} {Pg : PgX} {R : RdC} {Fn : Fs} {k wf : Nat} {T : Sc} {x qual : Str} {st : Stmt} {f : Addr} {fd : FuncData} {ps : List Str} {d : Def}
theorem runDef_len {as : List Arg} {s : Store} (h : runDef Fn wf d as s ≠ .no) : as.length = d.ps := by
  unfold runDef at h
  split at h
  · assumption
  · exact absurd rfl h
theorem endOf_no {s : Store} : endOf s .no = .no := rfl
/-- a def's code: the derivation of its reading -/
def Der (Pg : PgX) (R : RdC) (k : Nat) (T : Sc) (st : Stmt) (d : Def) : Prop := ∀ (X : Cx) (W : WX), OkS Pg R k T X → Takes X W → PSs X (defBody st) (tS R W d.body)
theorem okS_cx {A : Around} {outer : List PySem.Env} {s : Shared} {H : Hp} {E : XK} {cdv : Value} (lf : LF Pg R P w K mg base k) (ck : T.ok = true) (hsc : T.sc = defScope st) (hr : Room (k + 1) (A.deeper (PyProof.Rows.envOfC qual (defScope st) s.heap.objs.size f cdv))) :
    OkS Pg R k T (cxOf (L2.CX P w) P w K mg base T.N qual (defScope st) f cdv A outer s H E) where
  x := ⟨lf, ck, rfl, hsc.symm, fun _ => rfl, fun _ => hr, by have := hr.un; show (A.deeper (PyProof.Rows.envOfC qual (defScope st) s.heap.objs.size f cdv)).units + 65 < cLine; omega, fun _ _ => rfl⟩
  pass := fun _ => passes_of rfl
  stk := rfl
  fr := rfl
theorem def_ok (FD : FunD K x qual (defArgs st) (defBody st) (defScope st) [] [] f fd) (lf : LF Pg R P w K mg base k) (fo : FsOk R Fn) (ck : T.ok = true) (hsc : T.sc = defScope st) (S : FnScope T.N ps (defScope st)) (hn : d.n = T.N.length) (hp : d.ps = ps.length)
    (der : Der Pg R k T st d) : FnOk P w K mg base (L2.CX P w) (k + 2) f fd ps (spOf R Fn wf d) := by
  refine FD.ok S (fun vs H Q E h => ?_) fun cdv A outer s H vs Q E hr h => ?_
  · obtain ⟨F, G, s, as, _, _, ar, pf⟩ := h
    rw [ar.len, ← hp]
    exact runDef_len (Fn := Fn) (wf := wf) (s := s) fun e => by rw [e] at pf; exact pf
  · obtain ⟨F, G, s0, as, ok, ns, ar, pf⟩ := h
    have O : OkS Pg R k T (cxOf (L2.CX P w) P w K mg base T.N qual (defScope st) f cdv A outer s H E) := okS_cx lf ck hsc hr
    refine ⟨tS R (fun c dd _ H' => E c dd H') d.body, der _ _ O (takes_of rfl rfl rfl rfl), ?_⟩
    have hl : as.length = d.ps := runDef_len (Fn := Fn) (wf := wf) (s := s0) fun e => by rw [e] at pf; exact pf
    refine exS fo wf d.body _ (startE d as) s0 _ H F G _ (SI.start ok ar hn hl) (PF.of_PO ok (fun _ _ _ _ h => h) ?_)
    unfold runDef at pf
    rw [if_pos hl] at pf
    exact pf
theorem init_ok (FD : FunD K x qual (defArgs st) (defBody st) (defScope st) [] [] f fd) (lf : LF Pg R P w K mg base k) (fo : FsOk R Fn) (ck : T.ok = true) (hsc : T.sc = defScope st) (S : FnScope T.N ps (defScope st)) (hn : d.n = T.N.length) (hp : d.ps = ps.length)
    (der : Der Pg R k T st d) : FnOk P w K mg base (L2.CX P w) (k + 2) f fd ps (spMk R Fn wf d) := by
  refine FD.ok S (fun vs H Q E h => ?_) fun cdv A outer s H vs Q E hr h => ?_
  · obtain ⟨F, G, s, as, _, _, ar, pf⟩ := h
    rw [ar.len, ← hp]
    exact runDef_len (Fn := Fn) (wf := wf) (s := s) fun e => by rw [e] at pf; exact pf
  · obtain ⟨F, G, s0, as, ok, ns, ar, pf⟩ := h
    have O : OkS Pg R k T (cxOf (L2.CX P w) P w K mg base T.N qual (defScope st) f cdv A outer s H E) := okS_cx lf ck hsc hr
    refine ⟨tS R (fun c dd _ H' => E c dd H') d.body, der _ _ O (takes_of rfl rfl rfl rfl), ?_⟩
    have hl : as.length = d.ps := runDef_len (Fn := Fn) (wf := wf) (s := s0) fun e => by rw [e] at pf; exact pf
    refine exS fo wf d.body _ (startE d as) s0 _ H F G _ (SI.start ok ar hn hl) ?_
    unfold runDef at pf
    rw [if_pos hl] at pf
    generalize ex Fn wf d.body (startE d as) s0 = r at pf ⊢
    cases r with
    | nxt e s1 => exact fun σ' H' F' G' s t => pf H' F' _ (s.ok.cut _) cutG_no (t.cut ok)
    | ret dd s1 =>
      cases dd with
      | none =>
        intro v H' F' G' s t r
        cases r
        exact pf H' F' _ (s.cut _) cutG_no (t.cut ok)
      | _ => exact pf.elim
    | _ => exact pf.elim
end

/-! ### all defs, by depth -/
/-- what is fixed: addresses of classes and tables -/
structure Fx where
  K : PySem.W.Frag
  w : World
  ca : Str → Addr
  ta : Str → Addr
def callSp (ca : Str → Addr) (Fn : Fs) (x : Str) : Sp := fun vs H Q E => ∃ F G st as, Ok ca st H F G ∧ NoSlot G ∧ ArgsRep F G vs as ∧ PF ca (Fn.call x as st) H F G Q E
def methSp (ca : Str → Addr) (Fn : Fs) (c m : Str) : Sp := fun vs H Q E => ∃ F G st as, Ok ca st H F G ∧ NoSlot G ∧ ArgsRep F G vs as ∧ PF ca (Fn.meth c m as st) H F G Q E
def makeSp (ca : Str → Addr) (Fn : Fs) (c : Str) : Sp := fun vs H Q _ => ∃ F G st as, Ok ca st H F G ∧ NoSlot G ∧ ArgsRep F G vs as ∧ (match Fn.make c as st with
    | .ok _ st' => ∀ H' F' G', Ok ca st' H' F' G' → NoSlot G' → Tr H F G H' F' G' → Q .non H'
    | _ => False)
def rdOf (Z : Fx) (Fn : Fs) : RdC := ⟨Z.K, Z.w, callSp Z.ca Fn, methSp Z.ca Fn, makeSp Z.ca Fn, Z.ca, Z.ta⟩
/-- what K says of the program's tables, fields, error classes -/
structure StK (P : Prog) (Z : Fx) : Prop where
  tab : ∀ t r, P.tabs.lookup t = some r → r.isEmpty = false → ∀ z, ∃ u, PySem.W.nsIn Z.K (Z.ta t) z = some u ∧ (match r.lookup z with
    | some d => ∃ v, u = some v ∧ RelV (litV d) v
    | none => u = none)
  tabD : ∀ t r, P.tabs.lookup t = some r → r.isEmpty = false → ∃ es n, KDict Z.K Z.w (Z.ta t) es n
  att : ∀ c f, attOf P c f = true → Cls Z.K (Z.ca c) ∧ NoAttr Z.K (Z.ca c) f
  exm : ∀ y x b, subOf P y x = some b → PySem.W.exmOne Z.K (.ref (Z.ca y)) (.ref (Z.ca x)) = some b
theorem fsOf_tab (P : Prog) (wf n : Nat) : (fsOf P wf n).tab = fun t => (P.tabs.lookup t).getD [] := by cases n <;> rfl
theorem fsOf_att (P : Prog) (wf n : Nat) : (fsOf P wf n).att = attOf P := by cases n <;> rfl
theorem fsOf_sub (P : Prog) (wf n : Nat) : (fsOf P wf n).sub = subOf P := by cases n <;> rfl
theorem fsOk_of {P : Prog} {Z : Fx} (s : StK P Z) (wf n : Nat) : FsOk (rdOf Z (fsOf P wf n)) (fsOf P wf n) where
  call := fun f as st H F G vs Q E ok ns ar pf => ⟨F, G, st, as, ok, ns, ar, pf⟩
  meth := fun c m as st H F G vs Q ok ns ar pf => ⟨F, G, st, as, ok, ns, ar, pf⟩
  make := fun c as st H F G vs Q ok ns ar pf => ⟨F, G, st, as, ok, ns, ar, pf⟩
  tab := fun t h z => by
    rw [fsOf_tab] at h ⊢
    cases e : P.tabs.lookup t with
    | none => simp only [e] at h; cases h
    | some r =>
      simp only [e, Option.getD_some] at h ⊢
      exact s.tab t r e h z
  tabD := fun t h => by
    rw [fsOf_tab] at h
    cases e : P.tabs.lookup t with
    | none => simp only [e] at h; cases h
    | some r =>
      simp only [e, Option.getD_some] at h
      exact s.tabD t r e h
  att := fun c f h => by
    rw [fsOf_att] at h
    exact s.att c f h
  exm := fun y x b h => by
    rw [fsOf_sub] at h
    exact s.exm y x b h
/-- where a def stands -/
structure At (K : PySem.W.Frag) (mg : Str → Option Value) (x : Str) (st : Stmt) (ps : List Str) (f : Addr) (fd : FuncData) : Prop where
  ex : ∃ qual, FunD K x qual (defArgs st) (defBody st) (defScope st) [] [] f fd
  b : L2.Binds K fd ps []
/-- a def of the program -/
structure DefF (Pg : PgX) (Z : Fx) (K : PySem.W.Frag) (mg : Str → Option Value) (wf : Nat) (x : Str) (d : Def) : Prop where
  ex : ∃ (st : Stmt) (T : Sc) (ps : List Str) (f : Addr) (fd : FuncData), At K mg x st ps f fd ∧ mg x = some (.ref f) ∧ T.ok = true ∧ T.sc = defScope st ∧ FnScope T.N ps (defScope st) ∧ d.n = T.N.length ∧ d.ps = ps.length ∧
    ∀ R k, Der Pg R k T st d
structure MethF (Pg : PgX) (Z : Fx) (K : PySem.W.Frag) (mg : Str → Option Value) (wf : Nat) (c m : Str) (d : Def) : Prop where
  ex : ∃ (st : Stmt) (T : Sc) (ps : List Str) (f : Addr) (fd : FuncData), At K mg m st ps f fd ∧ Cls K (Z.ca c) ∧ Meth K (Z.ca c) m f ∧ T.ok = true ∧ T.sc = defScope st ∧ FnScope T.N ps (defScope st) ∧ d.n = T.N.length ∧ d.ps = ps.length ∧
    (m = ("__init__" : Str) → Mk K (Z.ca c) f ∧ mg c = some (.ref (Z.ca c))) ∧ ∀ R k, Der Pg R k T st d
/-- all that the head tells -/
structure All (Pg : PgX) (Z : Fx) (mg : Str → Option Value) (wf : Nat) : Prop where
  st : StK Pg.pg Z
  defs : ∀ (j : Nat) (x : Str) (d : Def), Pg.pg.defs[j]? = some (x, d) → Pg.pg.defs.lookup x = some d ∧ DefF Pg Z Z.K mg wf x d
  meths : ∀ (j : Nat) (c m : Str) (d : Def), Pg.pg.meths[j]? = some ((c, m), d) → Pg.pg.meths.lookup (c, m) = some d ∧ MethF Pg Z Z.K mg wf c m d
  glo : ∀ (j : Nat) (x : Str) (l : Lit), Pg.glos[j]? = some (x, l) → ∃ u, mg x = some u ∧ RelV (litV l) u
  tab : ∀ (j : Nat) (t : Str) (r : List (Str × Lit)), Pg.pg.tabs[j]? = some (t, r) → mg t = some (.ref (Z.ta t)) ∧ ∃ es n, KDict Z.K Z.w (Z.ta t) es n
  blt : ∀ (j : Nat) (x : Str), Pg.blts[j]? = some x → mg x = none
  exc : ∀ (j : Nat) (x : Str) (l : List Str), Pg.pg.excs[j]? = some (x, l) → mg x = some (.ref (Z.ca x)) ∧ ExcK Z.K (Z.ca x)
section
variable {Pg : PgX} {Z : Fx} {mg : Str → Option Value} {wf : Nat} {P : Program} {base : Heap}
theorem fn_no {K : PySem.W.Frag} {w : World} {CX : CXT} {k : Nat} {f : Addr} {fd : FuncData} {ps : List Str} {sp : Sp} (h : ∀ vs H Q E, ¬ sp vs H Q E) : FnOk P w K mg base CX k f fd ps sp :=
  ⟨fun vs H Q E q => (h vs H Q E q).elim, fun A outer s H args us vs Q E _ _ _ _ q => (h vs H Q E q).elim⟩
theorem lf_of (a : All Pg Z mg wf) : ∀ n, LF Pg (rdOf Z (fsOf Pg.pg wf n)) P Z.w Z.K mg base (2 * n)
  | 0 => ⟨rfl, rfl, fun j x d e => by
      obtain ⟨_, st, T, ps, f, fd, at_, hm, _⟩ := a.defs j x d e
      obtain ⟨⟨qual, FD⟩, b⟩ := at_
      exact ⟨f, fd, ps, fn_no fun vs H Q E ⟨_, _, _, _, _, _, _, z⟩ => z, hm, FD.kp, b⟩,
    fun j c m d e => by
      obtain ⟨_, st, T, ps, f, fd, at_, hc, hm, _⟩ := a.meths j c m d e
      exact ⟨f, fd, ps, hc, hm, fn_no fun vs H Q E ⟨_, _, _, _, _, _, _, z⟩ => z, at_.b⟩,
    fun j c d e => by
      obtain ⟨_, st, T, ps, f, fd, at_, hc, hm, _, _, _, _, _, hmk, _⟩ := a.meths j c _ d e
      exact ⟨f, fd, ps, (hmk rfl).1, fn_no fun vs H Q E ⟨_, _, _, _, _, _, _, z⟩ => z, (hmk rfl).2, at_.b⟩,
    a.glo, a.tab, a.blt, a.exc⟩
  | n + 1 => by
    have ih := lf_of a n
    have fo := fsOk_of a.st wf n
    refine ⟨rfl, rfl, fun j x d e => ?_, fun j c m d e => ?_, fun j c d e => ?_, a.glo, a.tab, a.blt, a.exc⟩
    · obtain ⟨hl, st, T, ps, f, fd, at_, hm, ck, hsc, S, hn, hp, der⟩ := a.defs j x d e
      obtain ⟨⟨qual, FD⟩, b⟩ := at_
      refine ⟨f, fd, ps, FnOk.imp (def_ok (wf := wf) FD ih fo ck hsc S hn hp (der _ _)) fun vs H Q E ⟨F, G, st, as, ok, ns, ar, pf⟩ => ⟨F, G, st, as, ok, ns, ar, ?_⟩, hm, FD.kp, b⟩
      unfold fsOf at pf
      simp only [hl] at pf
      exact pf
    · obtain ⟨hl, st, T, ps, f, fd, at_, hc, hm, ck, hsc, S, hn, hp, _, der⟩ := a.meths j c m d e
      obtain ⟨⟨qual, FD⟩, b⟩ := at_
      refine ⟨f, fd, ps, hc, hm, FnOk.imp (def_ok (wf := wf) FD ih fo ck hsc S hn hp (der _ _)) fun vs H Q E ⟨F, G, st, as, ok, ns, ar, pf⟩ => ⟨F, G, st, as, ok, ns, ar, ?_⟩, b⟩
      unfold fsOf at pf
      simp only [hl] at pf
      exact pf
    · obtain ⟨hl, st, T, ps, f, fd, at_, hc, hm, ck, hsc, S, hn, hp, hmk, der⟩ := a.meths j c _ d e
      obtain ⟨⟨qual, FD⟩, b⟩ := at_
      refine ⟨f, fd, ps, (hmk rfl).1, FnOk.imp (init_ok (wf := wf) FD ih fo ck hsc S hn hp (der _ _)) fun vs H Q E ⟨F, G, st, as, ok, ns, ar, pf⟩ => ⟨F, G, st, as, ok, ns, ar, ?_⟩, (hmk rfl).2, b⟩
      unfold fsOf at pf
      simp only [hl] at pf
      show match runDef (fsOf Pg.pg wf n) wf d as st with
        | .nxt _ st1 => _
        | .ret .none st1 => _
        | _ => _
      generalize runDef (fsOf Pg.pg wf n) wf d as st = r at pf ⊢
      cases r with
      | nxt e s1 => exact pf
      | ret dd s1 =>
        cases dd with
        | none => exact pf
        | _ => exact pf
      | _ => exact pf
end
end Pm

set_option maxHeartbeats 4000000
/-! Pm12: the program's expressions have the readings of the small language: one rule a form. -/
namespace Pm
open PySem PySem.Spec L2 RZ

/-! ### rules by or -/
section
variable {X : Cx}
theorem opOr {f : Value → Value → Sem Value} {r r' : R2} (h : OpR X f r) (h' : OpR X f r') : OpR X f (R2.or r r') := by
  intro pins s σ H x y v u Q I rx ry q
  rcases q with q | q
  · exact h pins s σ H x y v u Q I rx ry q
  · exact h' pins s σ H x y v u Q I rx ry q
def opB : Bop → Operator
  | .add => .Add
  | .sub => .Sub
  | .mul => .Mult
  | .fdiv => .FloorDiv
  | .mod => .Mod
  | .pow => .Pow
def opC : Cop → CmpOp
  | .lt => .Lt
  | .le => .LtE
  | .gt => .Gt
  | .ge => .GtE
  | .eq => .Eq
  | .ne => .NotEq
  | .inn => .In
  | .nin => .NotIn
theorem op_bin : ∀ op : Bop, OpR X (binaryOp (opB op)) (rBin X.K op)
  | .add => opOr op_add (opOr op_cat (opOr op_catA op_add_str))
  | .sub => op_sub
  | .mul => opOr op_mul (opOr op_mulW (opOr op_rep op_repT))
  | .fdiv => opOr op_fdiv op_fdivW
  | .mod => opOr op_mod op_modN
  | .pow => op_pow
theorem op_cmp (hu : X.A.units + 65 < cLine) : ∀ op : Cop, OpR X (compareOp (opC op)) (rCmp X.K op)
  | .lt => op_lt
  | .le => op_le
  | .gt => op_gt
  | .ge => op_ge
  | .eq => op_eqD (by omega)
  | .ne => op_neD (by omega)
  | .inn => opOr op_in_seq (opOr (op_inD hu) op_in_str)
  | .nin => opOr op_notIn_seq (op_notInD hu)
/-- a comparison as a test -/
theorem pt_cmpT {op : CmpOp} {r : R2} {a b : Expr} {ta tb : TE} {pos : Pos} (ho : OpR X (compareOp op) r) (ha : PE X a ta) (hb : PE X b tb) (hm : behindInMarks op b = false) : PT X (.Compare a [op] [b] pos) (fun σ H Q => tOp r ta tb σ H fun x H' => ∃ k, TruV X.K x H' k ∧ Q k H') := by
  refine ⟨fun pins s σ H Q I h => ?_⟩
  refine wpAny_isTrue_Compare1 (thn (ha.run pins s σ H _ I h) fun v s1 ⟨x, H1, I1, r1, q1⟩ => thn (hb.run pins s1 σ H1 _ I1 q1) fun u s2 ⟨y, H2, I2, r2, q2⟩ =>
    thn (ho pins s2 σ H2 x y v u _ I2 r1 r2 q2) fun c s3 ⟨z, H3, I3, r3, q3⟩ => tru_ok pins s3 σ H3 z c Q I3 r3 q3) hm
theorem pt_cmpP {op : CmpOp} {a b : Expr} {t : TE} {pos : Pos} (h : PC X op a b t) (h1 : behindInMarks op b = false) : PT X (.Compare a [op] [b] pos) (fun σ H Q => t σ H fun x H' => ∃ k, TruV X.K x H' k ∧ Q k H') := by
  refine ⟨fun pins s σ H Q I hw => ?_⟩
  exact wpAny_isTrue_Compare1 (thn (h.run pins s σ H _ I hw) fun v s1 h1 => thn h1 fun u s2 h2 => thn h2 fun c s3 ⟨z, H3, I3, r3, q3⟩ => tru_ok pins s3 σ H3 z c Q I3 r3 q3) h1
theorem chain_bool {r : V → V → Hp → VK → Prop} (h : True) : True := h
theorem pt_chainT {op op' : CmpOp} {r r' : R2} {a b c : Expr} {ta tb tc : TE} {pos : Pos} (ho : OpR X (compareOp op) r) (ho' : OpR X (compareOp op') r') (ha : PE X a ta) (hb : PE X b tb) (hc : PE X c tc)
    (hm : lastMarks [op, op'] [b, c] = false) : PT X (.Compare a [op, op'] [b, c] pos) (fun σ H Q => tChain r r' ta tb tc σ H fun x H' => ∃ k, TruV X.K x H' k ∧ Q k H') := by
  refine ⟨fun pins s σ H Q I h => ?_⟩
  refine PyProof.Rows.isTrue_chain (thn (ha.run pins s σ H _ I h) fun v s1 ⟨x, H1, I1, r1, q1⟩ => PyProof.Rows.test_link (thn (hb.run pins s1 σ H1 _ I1 q1) fun u s2 ⟨y, H2, I2, r2, q2⟩ =>
    thn (ho pins s2 σ H2 x y v u _ I2 r1 r2 q2) fun d s3 ⟨z, H3, I3, r3, k, e, q3⟩ => ?_)) hm
  subst e
  cases r3
  refine wpAny_truthy_bool ?_
  cases k with
  | false =>
    obtain ⟨k', e', q'⟩ := q3
    have e' : k' = false := e'
    subst e'
    exact PyProof.Rows.ite_ff ⟨H3, I3, q'⟩
  | true => exact PyProof.Rows.ite_tt (PyProof.Rows.test_last (thn (hc.run pins s3 σ H3 _ I3 q3) fun w' s4 ⟨z', H4, I4, r4, q4⟩ => thn (ho' pins s4 σ H4 y z' u w' _ I4 r2 r4 q4) fun d' s5 ⟨z5, H5, I5, r5, q5⟩ => tru_ok pins s5 σ H5 z5 d' Q I5 r5 q5))
end

/-! ### the judgements -/
def DE (Pg : PgX) (R : RdC) (k : Nat) (T : Sc) (W : EW) (e : Expr) (c : E) : Prop := ∀ X, OkX Pg R k T X → (∀ σ, PassesAt (L2.CX X.prog X.w) X σ (W σ)) → PE X e (tE R W c)
def DT (Pg : PgX) (R : RdC) (k : Nat) (T : Sc) (W : EW) (e : Expr) (c : Pm.T) : Prop := ∀ X, OkX Pg R k T X → (∀ σ, PassesAt (L2.CX X.prog X.w) X σ (W σ)) → PT X e (tT R W c)
def DW (Pg : PgX) (R : RdC) (k : Nat) (T : Sc) (W : EW) (e : Expr) (c : Pm.T) : Prop := ∀ X, OkX Pg R k T X → (∀ σ, PassesAt (L2.CX X.prog X.w) X σ (W σ)) → PW X e (tT R W c)
def NoStar (es : List Expr) : Prop := ∀ env, starEach es env = es.map fun e => (false, eval e env)
def DA (Pg : PgX) (R : RdC) (k : Nat) (T : Sc) (W : EW) (es : List Expr) (c : Es) : Prop := NoStar es ∧ ∀ X, OkX Pg R k T X → (∀ σ, PassesAt (L2.CX X.prog X.w) X σ (W σ)) → PA X es (tEs R W c)
def DAs (Pg : PgX) (R : RdC) (k : Nat) (T : Sc) (W : EW) (es : List Expr) (c : As) : Prop := NoStar es ∧ ∀ X, OkX Pg R k T X → (∀ σ, PassesAt (L2.CX X.prog X.w) X σ (W σ)) → PA X es (tAs R W c)
def DO (Pg : PgX) (R : RdC) (k : Nat) (T : Sc) (W : EW) (o : Option Expr) (c : O) : Prop := ∀ X, OkX Pg R k T X → (∀ σ, PassesAt (L2.CX X.prog X.w) X σ (W σ)) → L2.PO X o (tO R W c)
def DI (Pg : PgX) (R : RdC) (k : Nat) (T : Sc) (W : EW) (tg e : Expr) (c : I) : Prop := ∀ X, OkX Pg R k T X → (∀ σ, PassesAt (L2.CX X.prog X.w) X σ (W σ)) → PI X tg e (tI R W c)
def DG (Pg : PgX) (R : RdC) (k : Nat) (T : Sc) (e : Expr) (g : Tg) : Prop := ∀ X, OkX Pg R k T X → PG X e (tG R.K g)
def DGs (Pg : PgX) (R : RdC) (k : Nat) (T : Sc) (es : List Expr) (g : Tg) : Prop := (∀ env, assignEach es env = es.map fun e => (false, assign e env)) ∧ es.length = gLen g ∧ ∀ X, OkX Pg R k T X → PGs X es (tGs R.K g)
def DC (Pg : PgX) (R : RdC) (k : Nat) (T : Sc) (es : List Expr) (c : C) : Prop := ∀ X, OkX Pg R k T X → (∀ σ, PassesAt (L2.CX X.prog X.w) X σ (EW0 σ)) → PTs X es (tCd R EW0 c)
def isStar : Expr → Bool
  | .Starred _ _ => true
  | _ => false
def isComp : Expr → Bool
  | .ListComp _ _ _ _ => true
  | .SetComp _ _ _ _ => true
  | .DictComp _ _ _ _ _ => true
  | _ => false
theorem star_one {e : Expr} {es : List Expr} {env : PySem.Env} (h : isStar e = false) : starEach (e :: es) env = (false, eval e env) :: starEach es env := by
  cases e <;> first | rfl | cases h
theorem NoStar.nil : NoStar [] := fun _ => rfl
theorem NoStar.cons {e : Expr} {es : List Expr} (h : isStar e = false) (r : NoStar es) : NoStar (e :: es) := fun env => by rw [star_one h, r env]; rfl
theorem NoStar.one {e : Expr} {es : List Expr} (h : NoStar (e :: es)) (env : PySem.Env) : starEach (e :: es) env = (false, eval e env) :: starEach es env := by
  cases e <;> first | rfl | (have := h env; exact absurd this (by simp [starEach]))
theorem NoStar.tail {e : Expr} {es : List Expr} (h : NoStar (e :: es)) : NoStar es := fun env => by
  have := h env
  rw [h.one env] at this
  exact (List.cons.inj this).2
theorem NoStar.plain {es : List Expr} (h : NoStar es) (pos : Pos) (env : PySem.Env) : (backTo pos (starEach es env)).any (·.1) = false := by
  rw [h env]
  unfold backTo
  rw [List.any_eq_false]
  intro x hx
  simp only [List.map_map, List.mem_map, Function.comp] at hx
  obtain ⟨y, _, rfl⟩ := hx
  exact Bool.false_ne_true
theorem swaps_no {e : Expr} {t : Option Expr} {l : Nat} {env : PySem.Env} (h : isComp e = false) : swapsWith e t l env = pure false := by
  cases e <;> first | rfl | cases h

section
variable {Pg : PgX} {R : RdC} {k : Nat} {T : Sc} {W : EW} {e a b c i : Expr} {es : List Expr} {ca cb cc ci : E} {cs : Es} {ta tb : Pm.T} {pos : Pos} {x : Str}

/-! ### leaves -/
theorem e_var (i : Nat) {pos : Pos} (hi : T.is.contains i = true) (hN : T.N[i]? = some x) : DE Pg R k T W (.Name x pos) (.var i) := fun X O _ => by
  obtain ⟨h1, h2, h3⟩ := O.vis (by simpa using hi) hN
  obtain ⟨q1, q2, _⟩ := okNm_eq h3
  exact pe_var h1 h2 q1 q2
theorem e_int {n : Int} {j : Nat} : DE Pg R k T W (.Constant (.int n) j pos) (.lit (.int n)) := fun X O _ => pe_int
theorem e_bl {n : Bool} {j : Nat} : DE Pg R k T W (.Constant (.bool n) j pos) (.lit (.bl n)) := fun X O _ => pe_bl
theorem e_non {j : Nat} : DE Pg R k T W (.Constant .none j pos) (.lit .non) := fun X O _ => pe_non
theorem e_str {z : Str} {j : Nat} : DE Pg R k T W (.Constant (.str z) j pos) (.lit (.str z)) := fun X O _ => pe_str
theorem e_glo (j m : Nat) {l : Lit} (hg : T.gs[j]? = some x) (hm : Pg.glos[m]? = some (x, l)) : DE Pg R k T W (.Name x pos) (.glo x l) := fun X O _ => by
  obtain ⟨g, hn⟩ := O.gl hg
  obtain ⟨u, h1, h2⟩ := O.lf.glo m x l hm
  exact pe_glob g h1 h2 (okNm_eq hn).1

/-! ### lists of expressions -/
theorem a_nil : DA Pg R k T W [] .nil := ⟨.nil, fun X O _ => pa_nil⟩
theorem a_cons (h : DE Pg R k T W e ca) (r : DA Pg R k T W es cs) (hs : isStar e = false := by rfl) : DA Pg R k T W (e :: es) (.cons ca cs) := ⟨.cons hs r.1, fun X O p => pa_cons (h X O p) (r.2 X O p) (star_one hs)⟩
theorem as_nil : DAs Pg R k T W [] .nil := ⟨.nil, fun X O _ => pa_nil⟩
theorem as_cons {cs : As} (h : DE Pg R k T W e ca) (r : DAs Pg R k T W es cs) (hs : isStar e = false := by rfl) : DAs Pg R k T W (e :: es) (.cons ca cs) := ⟨.cons hs r.1, fun X O p => pa_cons (h X O p) (r.2 X O p) (star_one hs)⟩
theorem as_vr (i : Nat) {p : Pos} {cs : As} (hi : T.is.contains i = true) (hN : T.N[i]? = some x) (r : DAs Pg R k T W es cs) : DAs Pg R k T W (.Name x p :: es) (.vr i cs) :=
  ⟨.cons rfl r.1, fun X O p => pa_cons (e_var (W := W) i hi hN X O p) (r.2 X O p) (star_one rfl)⟩
theorem e_tup {n : Nat} (h : DA Pg R k T W es cs) : DE Pg R k T W (.Tuple es n pos) (.tup cs) := fun X O p => pe_tup (h.2 X O p)
theorem e_lst (h : DA Pg R k T W es cs) : DE Pg R k T W (.List es pos) (.lst cs) := fun X O p => pe_lst (h.2 X O p)

/-! ### operators -/
theorem e_bin (op : Bop) (ha : DE Pg R k T W a ca) (hb : DE Pg R k T W b cb) : DE Pg R k T W (.BinOp a (opB op) b pos) (.bin op ca cb) := fun X O p => by
  show PE X _ (tOp (rBin R.K op) (tE R W ca) (tE R W cb))
  rw [O.K]
  exact pe_op (op_bin op) (ha X O p) (hb X O p)
theorem e_neg (ha : DE Pg R k T W a ca) : DE Pg R k T W (.UnaryOp .USub a pos) (.neg ca) := fun X O p => pe_un un_neg (ha X O p)
theorem e_not (ha : DE Pg R k T W a ca) : DE Pg R k T W (.UnaryOp .Not a pos) (.not ca) := fun X O p => pe_not (ha X O p)
theorem e_one {op : BoolOp} (ha : DE Pg R k T W a ca) : DE Pg R k T W (.BoolOp op [a] pos) ca := fun X O p => pe_one (ha X O p)
theorem e_and (ha : DE Pg R k T W a ca) (hb : DE Pg R k T W (.BoolOp .And (b :: es) pos) cb) : DE Pg R k T W (.BoolOp .And (a :: b :: es) pos) (.and ca cb) := fun X O p => pe_and (ha X O p) (hb X O p)
theorem e_or (ha : DE Pg R k T W a ca) (hb : DE Pg R k T W (.BoolOp .Or (b :: es) pos) cb) : DE Pg R k T W (.BoolOp .Or (a :: b :: es) pos) (.or ca cb) := fun X O p => pe_or (ha X O p) (hb X O p)
theorem e_cmp (op : Cop) (ha : DE Pg R k T W a ca) (hb : DE Pg R k T W b cb) (hm : behindInMarks (opC op) b = false := by rfl) : DE Pg R k T W (.Compare a [opC op] [b] pos) (.cmp op ca cb) := fun X O p => by
  show PE X _ (tOp (rCmp R.K op) (tE R W ca) (tE R W cb))
  rw [O.K]
  exact pe_cmpR (op_cmp O.un op) (ha X O p) (hb X O p) hm
theorem e_isN {j : Nat} {p' : Pos} (ha : DE Pg R k T W a ca) : DE Pg R k T W (.Compare a [.Is] [.Constant .none j p'] pos) (.isN ca) := fun X O p => pe_cmp (pc_isN (ha X O p))
theorem e_notN {j : Nat} {p' : Pos} (ha : DE Pg R k T W a ca) : DE Pg R k T W (.Compare a [.IsNot] [.Constant .none j p'] pos) (.notN ca) := fun X O p => pe_cmp (pc_notN (ha X O p))
theorem e_chain (o1 o2 : Cop) (ha : DE Pg R k T W a ca) (hb : DE Pg R k T W b cb) (hc : DE Pg R k T W c cc) (hm : lastMarks [opC o1, opC o2] [b, c] = false := by rfl) : DE Pg R k T W (.Compare a [opC o1, opC o2] [b, c] pos) (.chain o1 o2 ca cb cc) := fun X O p => by
  show PE X _ (tChain (rCmp R.K o1) (rCmp R.K o2) (tE R W ca) (tE R W cb) (tE R W cc))
  rw [O.K]
  exact pe_chain (op_cmp O.un o1) (op_cmp O.un o2) (ha X O p) (hb X O p) (hc X O p) hm
theorem e_ife {ct : Pm.T} (hc : DT Pg R k T W c ct) (ha : DE Pg R k T W a ca) (hb : DE Pg R k T W b cb) : DE Pg R k T W (.IfExp c a b pos) (.ife ct ca cb) := fun X O p => pe_ifExp (hc X O p) (ha X O p) (hb X O p)

/-! ### tests -/
theorem t_e (ha : DE Pg R k T W a ca) (he : ∀ env whole, isTrue a env whole = (do let v ← whole; standAt a.pos; holding [v] (truthy v)) := by intro _ _; rfl) : DT Pg R k T W a (.e ca) := fun X O p => by
  show PT X a (fun σ H Q => tE R W ca σ H fun x H' => ∃ k, TruV R.K x H' k ∧ Q k H')
  rw [O.K]
  exact pt_truth (ha X O p) (he _)
theorem t_cmp (op : Cop) (ha : DE Pg R k T W a ca) (hb : DE Pg R k T W b cb) (hm : behindInMarks (opC op) b = false := by rfl) : DT Pg R k T W (.Compare a [opC op] [b] pos) (.e (.cmp op ca cb)) := fun X O p => by
  show PT X _ (fun σ H Q => tOp (rCmp R.K op) (tE R W ca) (tE R W cb) σ H fun x H' => ∃ k, TruV R.K x H' k ∧ Q k H')
  rw [O.K]
  exact pt_cmpT (op_cmp O.un op) (ha X O p) (hb X O p) hm
theorem t_isN {j : Nat} {p' : Pos} (ha : DE Pg R k T W a ca) : DT Pg R k T W (.Compare a [.Is] [.Constant .none j p'] pos) (.e (.isN ca)) := fun X O p => by
  show PT X _ (fun σ H Q => tIsN (tE R W ca) σ H fun x H' => ∃ k, TruV R.K x H' k ∧ Q k H')
  rw [O.K]
  exact pt_cmpP (pc_isN (ha X O p)) rfl
theorem t_notN {j : Nat} {p' : Pos} (ha : DE Pg R k T W a ca) : DT Pg R k T W (.Compare a [.IsNot] [.Constant .none j p'] pos) (.e (.notN ca)) := fun X O p => by
  show PT X _ (fun σ H Q => tNotN (tE R W ca) σ H fun x H' => ∃ k, TruV R.K x H' k ∧ Q k H')
  rw [O.K]
  exact pt_cmpP (pc_notN (ha X O p)) rfl
theorem t_chain (o1 o2 : Cop) (ha : DE Pg R k T W a ca) (hb : DE Pg R k T W b cb) (hc : DE Pg R k T W c cc) (hm : lastMarks [opC o1, opC o2] [b, c] = false := by rfl) : DT Pg R k T W (.Compare a [opC o1, opC o2] [b, c] pos) (.e (.chain o1 o2 ca cb cc)) := fun X O p => by
  show PT X _ (fun σ H Q => tChain (rCmp R.K o1) (rCmp R.K o2) (tE R W ca) (tE R W cb) (tE R W cc) σ H fun x H' => ∃ k, TruV R.K x H' k ∧ Q k H')
  rw [O.K]
  exact pt_chainT (op_cmp O.un o1) (op_cmp O.un o2) (ha X O p) (hb X O p) (hc X O p) hm
theorem t_not (ha : DT Pg R k T W a ta) : DT Pg R k T W (.UnaryOp .Not a pos) (.not ta) := fun X O p => pt_not (ha X O p)
theorem w_and1 (ha : DT Pg R k T W a ta) : DW Pg R k T W (.BoolOp .And [a] pos) ta := fun X O p => pw_and1 (ha X O p)
theorem w_or1 (ha : DT Pg R k T W a ta) : DW Pg R k T W (.BoolOp .Or [a] pos) ta := fun X O p => pw_or1 (ha X O p)
theorem w_and (ha : DT Pg R k T W a ta) (hb : DW Pg R k T W (.BoolOp .And (b :: es) pos) tb) : DW Pg R k T W (.BoolOp .And (a :: b :: es) pos) (.and ta tb) := fun X O p => pw_and (ha X O p) (hb X O p)
theorem w_or (ha : DT Pg R k T W a ta) (hb : DW Pg R k T W (.BoolOp .Or (b :: es) pos) tb) : DW Pg R k T W (.BoolOp .Or (a :: b :: es) pos) (.or ta tb) := fun X O p => pw_or (ha X O p) (hb X O p)
theorem t_w (h : DW Pg R k T W e ta) : DT Pg R k T W e ta := fun X O p => (h X O p).pt

/-! ### items, slices, tables, dicts -/
def isSlc : Expr → Bool
  | .Slice _ _ none _ => true
  | _ => false
theorem subs_plain {s : Expr} {o i : Value} (h : isSlc s = false) : subscripted s false o i = operate [o, i] (getItem o i) := by
  unfold subscripted
  split
  · cases h
  · rename_i h2; cases h2
  · rfl
theorem e_idx (ha : DE Pg R k T W a ca) (hi : DE Pg R k T W i ci) (hs : isSlc i = false := by rfl) : DE Pg R k T W (.Subscript a i pos) (.idx ca ci) := fun X O p => by
  show PE X _ (tOp (rIx R.K) (tE R W ca) (tE R W ci))
  rw [O.K]
  exact pe_ix ix_seq (ha X O p) (hi X O p) fun _ _ => subs_plain hs
theorem e_idxV (j : Nat) {p' : Pos} (hj : T.is.contains j = true) (hN : T.N[j]? = some x) (hi : DE Pg R k T W i ci) (hs : isSlc i = false := by rfl) : DE Pg R k T W (.Subscript (.Name x p') i pos) (.idxV j ci) := fun X O p => by
  show PE X _ (tOp (rIx R.K) (tVar j) (tE R W ci))
  rw [O.K]
  exact pe_ix ix_seq (e_var (W := W) j hj hN X O p) (hi X O p) fun _ _ => subs_plain hs
theorem o_none : DO Pg R k T W none .none := fun X O p => po_none
theorem o_some (h : DE Pg R k T W e ca) : DO Pg R k T W (some e) (.some ca) := fun X O p => po_some (h X O p)
theorem e_sl {lo hi : Option Expr} {cl ch : O} {p2 : Pos} (ha : DE Pg R k T W a ca) (hl : DO Pg R k T W lo cl) (hh : DO Pg R k T W hi ch) : DE Pg R k T W (.Subscript a (.Slice lo hi none p2) pos) (.sl ca cl ch) := fun X O p => by
  show PE X _ (tSl (fun x lo hi H Q => rSlL R.K x lo hi H Q ∨ rSlA R.K x lo hi H Q) (tE R W ca) (tO R W cl) (tO R W ch))
  rw [O.K]
  exact pe_slice (sl_list.or sl_tupA) (ha X O p) (hl X O p) (hh X O p)
theorem e_rev {n : Nat} {p1 p2 p3 : Pos} (ha : DE Pg R k T W a ca) : DE Pg R k T W (.Subscript a (.Slice none none (some (.UnaryOp .USub (.Constant (.int 1) n p1) p2)) p3) pos) (.rev ca) := fun X O p => by
  show PE X _ (tRevL R.K (tE R W ca))
  rw [O.K]
  exact pe_revL (ha X O p)
theorem e_tabGet (j m : Nat) {t : Str} {r : List (Str × Lit)} {p' : Pos} (hg : T.gs[j]? = some t) (hm : Pg.pg.tabs[m]? = some (t, r)) (hi : DE Pg R k T W i ci) (hs : isSlc i = false := by rfl) : DE Pg R k T W (.Subscript (.Name t p') i pos) (.tabGet t ci) := fun X O p => by
  obtain ⟨g, hn⟩ := O.gl hg
  obtain ⟨h1, _⟩ := O.lf.tab m t r hm
  show PE X _ (tOp (rIxD R.K R.w) (tC (.ref (R.ta t))) (tE R W ci))
  rw [O.K, O.w]
  exact pe_ix ix_kdict (pe_glob g h1 rfl (okNm_eq hn).1) (hi X O p) fun _ _ => subs_plain hs
theorem kd_or {X : Cx} {d : Addr} {es : Array (Option DictEntry)} {n : Nat} : True := trivial
theorem e_tabIn (j m : Nat) {t : Str} {r : List (Str × Lit)} {p' : Pos} (hg : T.gs[j]? = some t) (hm : Pg.pg.tabs[m]? = some (t, r)) (hi : DE Pg R k T W i ci) : DE Pg R k T W (.Compare i [.In] [.Name t p'] pos) (.tabIn t false ci) := fun X O p => by
  obtain ⟨g, hn⟩ := O.gl hg
  obtain ⟨h1, es, n, D⟩ := O.lf.tab m t r hm
  show PE X _ (tKD R.K (R.ta t) false (tE R W ci))
  rw [O.K]
  exact pe_cmpR (op_in_kd D) (hi X O p) (pe_glob g h1 rfl (okNm_eq hn).1) rfl
theorem e_tabNot (j m : Nat) {t : Str} {r : List (Str × Lit)} {p' : Pos} (hg : T.gs[j]? = some t) (hm : Pg.pg.tabs[m]? = some (t, r)) (hi : DE Pg R k T W i ci) : DE Pg R k T W (.Compare i [.NotIn] [.Name t p'] pos) (.tabIn t true ci) := fun X O p => by
  obtain ⟨g, hn⟩ := O.gl hg
  obtain ⟨h1, es, n, D⟩ := O.lf.tab m t r hm
  show PE X _ (tKD R.K (R.ta t) true (tE R W ci))
  rw [O.K]
  exact pe_cmpR (op_notIn_kd D) (hi X O p) (pe_glob g h1 rfl (okNm_eq hn).1) rfl
theorem t_tabIn (j m : Nat) {t : Str} {r : List (Str × Lit)} {p' : Pos} (hg : T.gs[j]? = some t) (hm : Pg.pg.tabs[m]? = some (t, r)) (hi : DE Pg R k T W i ci) : DT Pg R k T W (.Compare i [.In] [.Name t p'] pos) (.e (.tabIn t false ci)) := fun X O p => by
  obtain ⟨g, hn⟩ := O.gl hg
  obtain ⟨h1, es, n, D⟩ := O.lf.tab m t r hm
  show PT X _ (fun σ H Q => tKD R.K (R.ta t) false (tE R W ci) σ H fun x H' => ∃ k, TruV R.K x H' k ∧ Q k H')
  rw [O.K]
  exact pt_cmpT (op_in_kd D) (hi X O p) (pe_glob g h1 rfl (okNm_eq hn).1) rfl
theorem t_tabNot (j m : Nat) {t : Str} {r : List (Str × Lit)} {p' : Pos} (hg : T.gs[j]? = some t) (hm : Pg.pg.tabs[m]? = some (t, r)) (hi : DE Pg R k T W i ci) : DT Pg R k T W (.Compare i [.NotIn] [.Name t p'] pos) (.e (.tabIn t true ci)) := fun X O p => by
  obtain ⟨g, hn⟩ := O.gl hg
  obtain ⟨h1, es, n, D⟩ := O.lf.tab m t r hm
  show PT X _ (fun σ H Q => tKD R.K (R.ta t) true (tE R W ci) σ H fun x H' => ∃ k, TruV R.K x H' k ∧ Q k H')
  rw [O.K]
  exact pt_cmpT (op_notIn_kd D) (hi X O p) (pe_glob g h1 rfl (okNm_eq hn).1) rfl
theorem e_dget (j : Nat) {p' : Pos} (hj : T.is.contains j = true) (hN : T.N[j]? = some x) (hi : DE Pg R k T W i ci) (hs : isSlc i = false := by rfl) : DE Pg R k T W (.Subscript (.Name x p') i pos) (.dget j ci) := fun X O p =>
  pe_dget (by have := O.un; omega) (e_var (W := W) j hj hN X O p) (hi X O p) fun _ _ => subs_plain hs
theorem e_dgetOr (j : Nat) {p' apos : Pos} (hj : T.is.contains j = true) (hN : T.N[j]? = some x) (ha : DE Pg R k T W a ca) (hb : DE Pg R k T W b cb) (sa : isStar a = false := by rfl) (sb : isStar b = false := by rfl) (hl : (apos.endLine == pos.line) = true := by rfl) :
    DE Pg R k T W (.Call (.Attribute (.Name x p') "get" apos) [a, b] [] pos) (.dgetOr j ca cb) := fun X O p =>
  pe_dget2 (by have := O.un; omega) (e_var (W := W) j hj hN X O p) (ha X O p) (hb X O p) ⟨rfl, by
    rw [star_one sa, star_one sb]
    rfl, hl, by
    rw [star_one sa, star_one sb]
    rfl⟩

/-! ### calls -/
theorem e_call (j m : Nat) {f : Str} {d : Def} {p' : Pos} {cs : As} (hg : T.gs[j]? = some f) (hm : Pg.pg.defs[m]? = some (f, d)) (ha : DAs Pg R k T W (e :: es) cs) (hc : T.cm = true := by rfl) : DE Pg R k T W (.Call (.Name f p') (e :: es) [] pos) (.call f cs) := fun X O p => by
  obtain ⟨g, hn⟩ := O.gl hg
  obtain ⟨fa, fd, ps, F, h1, h2, h3⟩ := O.lf.call m f d hm
  exact pe_callS F ((O.room hc).mono (Nat.le_succ _)) g h1 h2 h3 p (ha.2 X O p) (okNm_eq hn).1 (ha.1.one _) (ha.1.tail.plain _ _)
theorem e_call0 (j m : Nat) {f : Str} {d : Def} {p' : Pos} (hg : T.gs[j]? = some f) (hm : Pg.pg.defs[m]? = some (f, d)) (hc : T.cm = true := by rfl) : DE Pg R k T W (.Call (.Name f p') [] [] pos) (.call f .nil) := fun X O p => by
  obtain ⟨g, hn⟩ := O.gl hg
  obtain ⟨fa, fd, ps, F, h1, h2, h3⟩ := O.lf.call m f d hm
  refine ⟨fun pins s σ H Q I h => ?_⟩
  refine wpAny_Call_Name_kw (ld_glob I g h1 ?_ (okNm_eq hn).1)
  exact PySem.W.callWith_K0 I.kIn h2 (run_fnS (us := []) F ((O.room hc).mono (Nat.le_succ _)) h3 (p σ) I .nil h)
theorem e_meth (o m : Nat) {cl mm : Str} {d : Def} {p' apos : Pos} {cs : As} (ho : T.is.contains o = true) (hN : T.N[o]? = some x) (hm : Pg.pg.meths[m]? = some ((cl, mm), d)) (ha : DAs Pg R k T W (e :: es) cs) (hc : T.cm = true := by rfl)
    (ht : ∀ env, ∃ pl : Sem Bool, eval (.Call (.Attribute (.Name x p') mm apos) (e :: es) [] pos) env = (do
      let ov ← eval (.Name x p') env
      standAt apos.atName
      let (f, first) ← holding [ov] (getMethod ov mm pl)
      callWith pos f first (backTo pos (starEach (e :: es) env)) (backToKw pos (keywordEach [] env))) := by intro _; exact ⟨_, rfl⟩) : DE Pg R k T W (.Call (.Attribute (.Name x p') mm apos) (e :: es) [] pos) (.meth cl mm o cs) := fun X O p => by
  obtain ⟨fa, fd, ps, h1, h2, F, h3⟩ := O.lf.meth m cl mm d hm
  obtain ⟨pl, ht⟩ := ht X.env
  exact pe_meth (e_var (W := W) o ho hN X O p) h1 h2 F ((O.room hc).mono (Nat.le_succ _)) h3 .nil passL (ha.2 X O p) (ha.1.one _) (ha.1.tail.plain _ _) ht
theorem e_meth0 (o m : Nat) {cl mm : Str} {d : Def} {p' apos : Pos} (ho : T.is.contains o = true) (hN : T.N[o]? = some x) (hm : Pg.pg.meths[m]? = some ((cl, mm), d)) (hc : T.cm = true := by rfl)
    (ht : ∀ env, ∃ pl : Sem Bool, eval (.Call (.Attribute (.Name x p') mm apos) [] [] pos) env = (do
      let ov ← eval (.Name x p') env
      standAt apos.atName
      let (f, first) ← holding [ov] (getMethod ov mm pl)
      callWith pos f first (backTo pos (starEach [] env)) (backToKw pos (keywordEach [] env))) := by intro _; exact ⟨_, rfl⟩) : DE Pg R k T W (.Call (.Attribute (.Name x p') mm apos) [] [] pos) (.meth cl mm o .nil) := fun X O p => by
  obtain ⟨fa, fd, ps, h1, h2, F, h3⟩ := O.lf.meth m cl mm d hm
  obtain ⟨pl, ht⟩ := ht X.env
  exact pe_meth0 (e_var (W := W) o ho hN X O p) h1 h2 F ((O.room hc).mono (Nat.le_succ _)) h3 .nil passL ht
theorem e_att (o : Nat) {cl f : Str} {p' : Pos} (ho : T.is.contains o = true) (hN : T.N[o]? = some x) : DE Pg R k T W (.Attribute (.Name x p') f pos) (.att cl o f) := fun X O p => by
  show PE X _ (tFld R.K (tVar o) f)
  rw [O.K]
  exact pe_fld (e_var (W := W) o ho hN X O p) rfl

/-! ### built-in functions -/
def nmB : Blt → Str
  | .len => "len"
  | .abs => "abs"
  | .min => "min"
  | .max => "max"
  | .int => "int"
  | .str => "str"
  | .list => "list"
  | .tuple => "tuple"
  | .sum => "sum"
  | .any => "any"
  | .all => "all"
  | .sorted => "sorted"
def isTyB : Blt → Bool
  | .int => true
  | .str => true
  | .list => true
  | .tuple => true
  | _ => false
theorem call_blt {X : Cx} (hc : X.calm = true) : ∀ b : Blt, (isTyB b = true ∧ ∃ t, bootBuiltins (nmB b) = some (.type t) ∧ CallR X (.type t) (rBltF X.K b)) ∨ (isTyB b = false ∧ ∃ t, bootBuiltins (nmB b) = some (.builtin t) ∧ CallR X (.builtin t) (rBltF X.K b))
  | .len => .inr ⟨rfl, _, (by decide +kernel : bootBuiltins "len" = some (.builtin "len")), call_len⟩
  | .abs => .inr ⟨rfl, _, (by decide +kernel : bootBuiltins "abs" = some (.builtin "abs")), call_abs⟩
  | .min => .inr ⟨rfl, _, (by decide +kernel : bootBuiltins "min" = some (.builtin "min")), call_min2 hc⟩
  | .max => .inr ⟨rfl, _, (by decide +kernel : bootBuiltins "max" = some (.builtin "max")), call_max2 hc⟩
  | .int => .inl ⟨rfl, _, (by decide +kernel : bootBuiltins "int" = some (.type "int")), call_int1⟩
  | .str => .inl ⟨rfl, _, (by decide +kernel : bootBuiltins "str" = some (.type "str")), call_str_int⟩
  | .list => .inl ⟨rfl, _, (by decide +kernel : bootBuiltins "list" = some (.type "list")), call_list_of⟩
  | .tuple => .inl ⟨rfl, _, (by decide +kernel : bootBuiltins "tuple" = some (.type "tuple")), call_tuple_of⟩
  | .sum => .inr ⟨rfl, _, (by decide +kernel : bootBuiltins "sum" = some (.builtin "sum")), cr_sum hc⟩
  | .any => .inr ⟨rfl, _, (by decide +kernel : bootBuiltins "any" = some (.builtin "any")), cr_any hc⟩
  | .all => .inr ⟨rfl, _, (by decide +kernel : bootBuiltins "all" = some (.builtin "all")), cr_all hc⟩
  | .sorted => .inr ⟨rfl, _, (by decide +kernel : bootBuiltins "sorted" = some (.builtin "sorted")), cr_sortedPO⟩
theorem pe_blt {X : Cx} {t : TA} {p' : Pos} (O : OkX Pg R k T X) (bl : Blt) (j m : Nat) (hg : T.gs[j]? = some (nmB bl)) (hm : Pg.blts[m]? = some (nmB bl)) (hc : T.cm = true) (ns : NoStar (e :: es)) (ha : PA X (e :: es) t) : PE X (.Call (.Name (nmB bl) p') (e :: es) [] pos) (tCB (rBltF X.K bl) t) := by
  obtain ⟨g, hn⟩ := O.gl hg
  have hb := O.lf.blt m _ hm
  obtain ⟨q1, _, q3⟩ := okNm_eq hn
  rcases call_blt (O.cm hc) bl with ⟨_, t, h1, h2⟩ | ⟨_, t, h1, h2⟩
  · exact pe_callTy h2 g hb h1 ha q3 q1 (ns.one _) (ns.tail.plain _ _)
  · exact pe_callB h2 g hb h1 ha q3 q1 (ns.one _) (ns.tail.plain _ _)
theorem e_blt (bl : Blt) (j m : Nat) {f : Str} {p' : Pos} (hf : f = nmB bl) (hg : T.gs[j]? = some (nmB bl)) (hm : Pg.blts[m]? = some (nmB bl)) (ha : DA Pg R k T W (e :: es) cs) (hc : T.cm = true := by rfl) : DE Pg R k T W (.Call (.Name f p') (e :: es) [] pos) (.blt bl cs) := fun X O p => by
  subst hf
  show PE X _ (tCB (rBltF R.K bl) (tEs R W cs))
  rw [O.K]
  exact pe_blt O bl j m hg hm hc ha.1 (ha.2 X O p)
theorem e_lenV (i : Nat) (j m : Nat) {p' p'' : Pos} (hi : T.is.contains i = true) (hN : T.N[i]? = some x) (hg : T.gs[j]? = some "len") (hm : Pg.blts[m]? = some "len") (hc : T.cm = true := by rfl) : DE Pg R k T W (.Call (.Name "len" p') [.Name x p''] [] pos) (.lenV i) := fun X O p => by
  show PE X _ (tCB (rBltF R.K .len) (tCons (tVar i) tNil))
  rw [O.K]
  exact pe_blt O .len j m hg hm hc (.cons rfl .nil) (pa_cons (e_var (W := W) i hi hN X O p) pa_nil (star_one rfl))
def nmT : Ty → Str
  | .int => "int"
  | .bool => "bool"
  | .str => "str"
  | .list => "list"
  | .tuple => "tuple"
  | .dict => "dict"
theorem boot_ty : ∀ t : Ty, bootBuiltins (nmT t) = some (.type (tyS t))
  | .int => (by decide +kernel : bootBuiltins "int" = some (.type "int"))
  | .bool => (by decide +kernel : bootBuiltins "bool" = some (.type "bool"))
  | .str => (by decide +kernel : bootBuiltins "str" = some (.type "str"))
  | .list => (by decide +kernel : bootBuiltins "list" = some (.type "list"))
  | .tuple => (by decide +kernel : bootBuiltins "tuple" = some (.type "tuple"))
  | .dict => (by decide +kernel : bootBuiltins "dict" = some (.type "dict"))
theorem boot_isi : bootBuiltins "isinstance" = some (.builtin "isinstance") := by decide +kernel
theorem e_isi (ty : Ty) (j m j2 m2 : Nat) {f : Str} {p' p'' : Pos} (hf : f = nmT ty) (hg : T.gs[j]? = some "isinstance") (hm : Pg.blts[m]? = some "isinstance") (hg2 : T.gs[j2]? = some (nmT ty)) (hm2 : Pg.blts[m2]? = some (nmT ty)) (ha : DE Pg R k T W a ca) (sa : isStar a = false := by rfl) :
    DE Pg R k T W (.Call (.Name "isinstance" p') [a, .Name f p''] [] pos) (.isi ca ty) := fun X O p => by
  subst hf
  obtain ⟨g, hn⟩ := O.gl hg
  obtain ⟨g2, hn2⟩ := O.gl hg2
  obtain ⟨q1, _, q3⟩ := okNm_eq hn
  obtain ⟨r1, _, r3⟩ := okNm_eq hn2
  show PE X _ (tCB (rIsi R.K) (tCons (tE R W ca) (tCons (tC (.ty (tyS ty))) tNil)))
  rw [O.K]
  have ns : NoStar [a, .Name (nmT ty) p''] := .cons sa (.cons rfl .nil)
  exact pe_callB call_isi g (O.lf.blt m _ hm) boot_isi (pa_cons (ha X O p) (pa_cons (pe_bltn g2 (O.lf.blt m2 _ hm2) (boot_ty ty) rfl r3 r1) pa_nil (star_one rfl)) (star_one sa)) q3 q1 (ns.one _) (ns.tail.plain _ _)
theorem e_lrng (j m j2 m2 : Nat) {p' p'' p3 : Pos} (hg : T.gs[j]? = some "list") (hm : Pg.blts[m]? = some "list") (hg2 : T.gs[j2]? = some "range") (hm2 : Pg.blts[m2]? = some "range") (ha : DE Pg R k T W a ca) (sa : isStar a = false := by rfl) (hc : T.cm = true := by rfl) :
    DE Pg R k T W (.Call (.Name "list" p') [.Call (.Name "range" p'') [a] [] p3] [] pos) (.lrng ca) := fun X O p => by
  obtain ⟨g, hn⟩ := O.gl hg
  obtain ⟨g2, hn2⟩ := O.gl hg2
  exact pe_listRg (O.cm hc) g (O.lf.blt m _ hm) (prg_1 g2 (O.lf.blt m2 _ hm2) (ha X O p) (star_one sa)) (star_one rfl)

/-! ### what is walked -/
variable {tg : Expr} {elts : List Expr} {kk : Nat} {tpos : Pos}
theorem piOr {X : Cx} {r r' : TI} (h : PI X tg e r) (h' : PI X tg e r') : PI X tg e (fun σ H Rr => r σ H Rr ∨ r' σ H Rr) := ⟨fun pins s σ H R I q => by
  rcases q with q | q
  · exact h.run pins s σ H R I q
  · exact h'.run pins s σ H R I q⟩
theorem i_seq (ha : DE Pg R k T W a ca) : DI Pg R k T W tg a (.seq ca) := fun X O p => by
  show PI X tg a (fun σ H Rr => iList R.K (tE R W ca) σ H Rr ∨ iTup R.K (tE R W ca) σ H Rr)
  rw [O.K]
  exact piOr (pi_list (ha X O p)) (pi_tup (ha X O p))
theorem i_rng1 (j m : Nat) {p' : Pos} (hg : T.gs[j]? = some "range") (hm : Pg.blts[m]? = some "range") (ha : DE Pg R k T W a ca) (sa : isStar a = false := by rfl) : DI Pg R k T W tg (.Call (.Name "range" p') [a] [] pos) (.rng1 ca) := fun X O p => by
  obtain ⟨g, hn⟩ := O.gl hg
  exact pi_range1 g (O.lf.blt m _ hm) (pa_cons (ha X O p) pa_nil (star_one sa)) (star_one sa)
theorem i_rng2 (j m : Nat) {p' : Pos} (hg : T.gs[j]? = some "range") (hm : Pg.blts[m]? = some "range") (ha : DE Pg R k T W a ca) (hb : DE Pg R k T W b cb) (sa : isStar a = false := by rfl) (sb : isStar b = false := by rfl) : DI Pg R k T W tg (.Call (.Name "range" p') [a, b] [] pos) (.rng2 ca cb) := fun X O p => by
  obtain ⟨g, hn⟩ := O.gl hg
  exact pi_range2 g (O.lf.blt m _ hm) (pa_cons (ha X O p) (pa_cons (hb X O p) pa_nil (star_one sb)) (star_one sa)) (by rw [star_one sa, star_one sb]; rfl) (star_one sb)
theorem i_rng3 (j m : Nat) {p' : Pos} (hg : T.gs[j]? = some "range") (hm : Pg.blts[m]? = some "range") (ha : DE Pg R k T W a ca) (hb : DE Pg R k T W b cb) (hc : DE Pg R k T W c cc) (sa : isStar a = false := by rfl) (sb : isStar b = false := by rfl) (sc : isStar c = false := by rfl) :
    DI Pg R k T W tg (.Call (.Name "range" p') [a, b, c] [] pos) (.rng3 ca cb cc) := fun X O p => by
  obtain ⟨g, hn⟩ := O.gl hg
  have ns : NoStar [b, c] := .cons sb (.cons sc .nil)
  exact pi_range3 g (O.lf.blt m _ hm) (pa_cons (ha X O p) (pa_cons (hb X O p) (pa_cons (hc X O p) pa_nil (star_one sc)) (star_one sb)) (star_one sa)) (star_one sa) (ns.plain _ _)
theorem i_enum (j m : Nat) {p' : Pos} (hg : T.gs[j]? = some "enumerate") (hm : Pg.blts[m]? = some "enumerate") (ha : DE Pg R k T W a ca) (sa : isStar a = false := by rfl) : DI Pg R k T W (.Tuple elts kk tpos) (.Call (.Name "enumerate" p') [a] [] pos) (.enum ca) := fun X O p => by
  obtain ⟨g, hn⟩ := O.gl hg
  show PI X _ _ (iEnum R.K (tCons (tE R W ca) tNil))
  rw [O.K]
  exact pi_enum g (O.lf.blt m _ hm) (pa_cons (ha X O p) pa_nil (star_one sa)) (star_one sa)
theorem i_zip (j m : Nat) {p' : Pos} (hg : T.gs[j]? = some "zip") (hm : Pg.blts[m]? = some "zip") (ha : DE Pg R k T W a ca) (hb : DE Pg R k T W b cb) (sa : isStar a = false := by rfl) (sb : isStar b = false := by rfl) : DI Pg R k T W (.Tuple elts kk tpos) (.Call (.Name "zip" p') [a, b] [] pos) (.zip ca cb) := fun X O p => by
  obtain ⟨g, hn⟩ := O.gl hg
  have ns : NoStar [b] := .cons sb .nil
  show PI X _ _ (iZipA R.K (tCons (tE R W ca) (tCons (tE R W cb) tNil)))
  rw [O.K]
  exact pi_zipA g (O.lf.blt m _ hm) (pa_cons (ha X O p) (pa_cons (hb X O p) pa_nil (star_one sb)) (star_one sa)) (star_one sa) (ns.plain _ _)

/-! ### targets -/
theorem g_nm (i : Nat) (hi : T.ls.contains i = true) (hN : T.N[i]? = some x) : DG Pg R k T (.Name x pos) (.nm i) := fun X O => by
  obtain ⟨h1, h2, h3⟩ := O.sto (by simpa using hi) hN
  exact pg_name O.nd h1 h2 h3
theorem asg_one {t : Expr} {ts : List Expr} {env : PySem.Env} (h : isStar t = false) : assignEach (t :: ts) env = (false, assign t env) :: assignEach ts env := by
  cases t <;> first | rfl | cases h
theorem gs_nil : DGs Pg R k T [] .nil := ⟨fun _ => rfl, rfl, fun X O => pgs_nil⟩
theorem gs_cons {g r : Tg} (h : DG Pg R k T e g) (hr : DGs Pg R k T es r) (hs : isStar e = false := by rfl) : DGs Pg R k T (e :: es) (.tp g r) :=
  ⟨fun env => by rw [asg_one hs, hr.1 env]; rfl, congrArg (· + 1) hr.2.1, fun X O => pgs_cons (h X O) (hr.2.2 X O) (by rw [asg_one hs]; rfl)⟩
theorem pgOr {X : Cx} {r r' : TG} (h : PG X e r) (h' : PG X e r') : PG X e (fun v σ H Q => r v σ H Q ∨ r' v σ H Q) := ⟨fun pins s σ H v u Q I rv q => by
  rcases q with q | q
  · exact h.run pins s σ H v u Q I rv q
  · exact h'.run pins s σ H v u Q I rv q⟩
theorem g_tup {g r : Tg} (h : DGs Pg R k T (e :: es) (.tp g r)) (hc : T.cm = true := by rfl) : DG Pg R k T (.Tuple (e :: es) kk pos) (.tp g r) := fun X O => by
  have hn : (assignEach (e :: es) X.env).length = gLen r + 1 := by
    rw [h.1, List.length_map]
    exact h.2.1
  have hst : (assignEach (e :: es) X.env).findIdx? (·.1) = none := by
    rw [h.1, List.findIdx?_eq_none_iff]
    intro x hx
    obtain ⟨y, _, rfl⟩ := List.mem_map.mp hx
    rfl
  have q : PGs X (e :: es) (gCons (tG R.K g) (tGs R.K r)) := h.2.2 X O
  show PG X _ (fun v σ H Q => gTup R.K (gLen r + 1) (gCons (tG R.K g) (tGs R.K r)) v σ H Q ∨ gLst R.K (gLen r + 1) (gCons (tG R.K g) (tGs R.K r)) v σ H Q)
  rw [O.K] at q ⊢
  exact pgOr (pg_tup (O.cm hc) q hn hst) (pg_lst (O.cm hc) q hn hst)

/-! ### comprehensions -/
theorem c_nil : DC Pg R k T [] .none := fun X O p => pts_nil
theorem c_one (h : DT Pg R k T EW0 c ta) : DC Pg R k T [c] (.some ta) := fun X O p => pts_one (h X O p)
def blkT (T : Sc) (scope : Scope) (is ls : List Nat) (gs cs : List Str) : Sc := ⟨T.N, is, ls, gs, cs, relS scope T.sc, T.cm⟩
def blkCk (T : Sc) (scope : Scope) (own : List (Str × Nat)) (is ls : List Nat) (gs cs : List Str) : Bool := (blkT T scope is ls gs cs).ok && blkC T.N T.sc scope own && cs.all fun x => scope.names.lookup x == some .cell
theorem OkX.blk {X : Cx} {scope : Scope} {own : List (Str × Nat)} {is ls : List Nat} {gs cs : List Str} {s : Shared} {H : Hp} {cl : List (Str × Addr)} {C : Addr} {fp : List Addr} (O : OkX Pg R k T X) (ck : blkCk T scope own is ls gs cs = true) :
    OkX Pg R k (blkT T scope is ls gs cs) (X.blk s H scope (compEnvC scope cl C X.env) fp) := by
  unfold blkCk at ck
  simp only [Bool.and_eq_true, List.all_eq_true] at ck
  refine ⟨O.lf, ck.1.1, O.N, ?_, O.cm, O.room, O.un, fun x hx => ck.2 x hx⟩
  show relS scope X.env.scope = relS scope T.sc
  rw [O.sc]
theorem blk_ok {X : Cx} {scope : Scope} {own : List (Str × Nat)} {is ls : List Nat} {gs cs : List Str} (O : OkX Pg R k T X) (ck : blkCk T scope own is ls gs cs = true) : BlkOk X.N X.env.scope scope own := by
  unfold blkCk at ck
  simp only [Bool.and_eq_true] at ck
  rw [O.N, O.sc]
  exact blkOk_by ck.1.2
theorem pass_blk {X : Cx} {s : Shared} {H : Hp} {scope : Scope} {cenv : PySem.Env} {fp : List Addr} : ∀ σ, PassesAt (L2.CX (X.blk s H scope cenv fp).prog (X.blk s H scope cenv fp).w) (X.blk s H scope cenv fp) σ (EW0 σ) := fun σ pins H0 s0 e s' I c => by
  obtain ⟨_, _, _, _, _, _, _, _, _, _, _, _, z⟩ := c
  exact z.elim
variable {iter elt tg1 iter1 kx vx : Expr} {ifs ifs1 : List Expr} {scope : Scope} {own : List (Str × Nat)} {is ls vs vs1 : List Nat} {gs cls : List Str} {ii ii1 : I} {g g1 : Tg} {cd cd1 : C} {ce ck cv : E}
theorem e_lc (own : List (Str × Nat)) (is ls : List Nat) (gs cls : List Str) (hi : DI Pg R k T W tg iter ii) (hg : DG Pg R k (blkT T scope is ls gs cls) tg g) (hd : DC Pg R k (blkT T scope is ls gs cls) ifs cd) (he : DE Pg R k (blkT T scope is ls gs cls) EW0 elt ce)
    (hck : blkCk T scope own is ls gs cls = true := by decide +kernel) (hv : own.map (·.2) = vs := by rfl) (hs : ∀ env x, foldedSetIterable iter env x = pure x := by intro _ _; rfl) (hc : T.cm = true := by rfl) :
    DE Pg R k T W (.ListComp elt [⟨tg, iter, ifs, 0⟩] scope pos) (.lc vs g ii cd ce) := fun X O p => by
  subst hv
  exact pe_lc (O.cm hc) O.nd (hi X O p) (blk_ok O hck) (fun s H C cl fp => hg _ (O.blk hck)) (fun s H C cl fp => hd _ (O.blk hck) pass_blk) (fun s H C cl fp => he _ (O.blk hck) pass_blk) (hs _)
theorem e_lc2 (own : List (Str × Nat)) (is ls : List Nat) (gs cls : List Str) (hi : DI Pg R k T W tg iter ii) (hg : DG Pg R k (blkT T scope is ls gs cls) tg g) (hd : DC Pg R k (blkT T scope is ls gs cls) ifs cd)
    (hi1 : DI Pg R k (blkT T scope is ls gs cls) EW0 tg1 iter1 ii1) (hg1 : DG Pg R k (blkT T scope is ls gs cls) tg1 g1) (hd1 : DC Pg R k (blkT T scope is ls gs cls) ifs1 cd1) (he : DE Pg R k (blkT T scope is ls gs cls) EW0 elt ce)
    (hv1 : (vs1.all fun i => (own.map (·.2)).contains i) = true := by rfl) (hck : blkCk T scope own is ls gs cls = true := by decide +kernel) (hv : own.map (·.2) = vs := by rfl) (hs : ∀ env x, foldedSetIterable iter env x = pure x := by intro _ _; rfl) (hs1 : ∀ env x, foldedSetIterable iter1 env x = pure x := by intro _ _; rfl) (hc : T.cm = true := by rfl) :
    DE Pg R k T W (.ListComp elt [⟨tg, iter, ifs, 0⟩, ⟨tg1, iter1, ifs1, 0⟩] scope pos) (.lc2 vs vs1 g ii cd g1 ii1 cd1 ce) := fun X O p => by
  subst hv
  have hv1 : ∀ i ∈ vs1, i ∈ own.map (·.2) := fun i hi => by
    have := List.all_eq_true.mp hv1 i hi
    simpa using this
  exact pe_lc2 (O.cm hc) O.nd (hi X O p) (blk_ok O hck) hv1 (fun s H C cl fp => hg _ (O.blk hck)) (fun s H C cl fp => hd _ (O.blk hck) pass_blk) (fun s H C cl fp => hi1 _ (O.blk hck) pass_blk) (fun s H C cl fp => hg1 _ (O.blk hck)) (fun s H C cl fp => hd1 _ (O.blk hck) pass_blk) (fun s H C cl fp => he _ (O.blk hck) pass_blk) (hs _) hs1
end
end Pm

set_option maxHeartbeats 4000000
/-! Pm13: the program's statements have the readings of the small language: one rule a form. -/
namespace Pm
open PySem PySem.Spec L2 RZ

/-! ### len({.. for ..}) -/
section
variable {X : Cx}
theorem call_lenD : CallR X (.builtin "len") rLenDc := by
  intro pins s σ H xs us Q I rxs h
  obtain ⟨a, kvs, rfl, hH, q⟩ := h
  cases rxs with
  | cons r rr =>
    cases rr
    cases r
    obtain ⟨hz, hS, vs, rk, hd⟩ : kvs.length ≤ sizeLine ∧ (a == sysModules) = false ∧ ∃ vs, L2.KV kvs vs ∧ s.heap.DictOf (mixKind X.prog X.w) a vs := I.hok a _ hH
    have hl : kvs.length = vs.length := Paired.length rk
    have h63 : sizeLine = 16777216 := sizeLine_eq
    exact call_len_dict hS hd (by omega) ⟨.int kvs.length, H, I.tok _, ⟨_, by rw [hl]⟩, q⟩
end
section
variable {Pg : PgX} {R : RdC} {k : Nat} {T : Sc} {W : EW} {pos : Pos} {x : Str} {tg iter kx vx : Expr} {scope : Scope} {vs : List Nat} {ii : I} {g : Tg} {ck cv : E}
theorem boot_len0 : bootBuiltins "len" = some (.builtin "len") := by decide +kernel
theorem e_lenDc (j m : Nat) {p' p2 : Pos} (own : List (Str × Nat)) (is ls : List Nat) (gs cls : List Str) (hgl : T.gs[j]? = some "len") (hm : Pg.blts[m]? = some "len") (hi : DI Pg R k T W tg iter ii) (hg : DG Pg R k (blkT T scope is ls gs cls) tg g) (hk : DE Pg R k (blkT T scope is ls gs cls) EW0 kx ck) (he : DE Pg R k (blkT T scope is ls gs cls) EW0 vx cv)
    (hck : blkCk T scope own is ls gs cls = true := by decide +kernel) (hv : own.map (·.2) = vs := by rfl) (hs : ∀ env x, foldedSetIterable iter env x = pure x := by intro _ _; rfl) (hc : T.cm = true := by rfl) :
    DE Pg R k T W (.Call (.Name "len" p') [.DictComp kx vx [⟨tg, iter, [], 0⟩] scope p2] [] pos) (.lenDc vs g ii ck cv) := fun X O p => by
  subst hv
  obtain ⟨gl, hn⟩ := O.gl hgl
  obtain ⟨q1, _, q3⟩ := okNm_eq hn
  exact pe_callB call_lenD gl (O.lf.blt m _ hm) boot_len0 (pa_cons (pe_dc (O.cm hc) O.nd (hi X O p) (blk_ok O hck) (fun s H C cl fp => hg _ (O.blk hck)) (fun s H C cl fp => pts_nil) (fun s H C cl fp => hk _ (O.blk hck) pass_blk) (fun s H C cl fp => he _ (O.blk hck) pass_blk) (hs _)) pa_nil) q3 q1
end

def DS (Pg : PgX) (R : RdC) (k : Nat) (T : Sc) (st : Stmt) (c : S) : Prop := ∀ X W, OkS Pg R k T X → Takes X W → PS X st (tS R W c)
def DSs (Pg : PgX) (R : RdC) (k : Nat) (T : Sc) (sts : List Stmt) (c : S) : Prop := ∀ X W, OkS Pg R k T X → Takes X W → PSs X sts (tS R W c)
theorem pss_pre {X : Cx} {sts : List Stmt} {t : TS} (h : PSs X sts t) : PSs X sts (tSeq tNext t) := h
/-- in an expression of a def -/
abbrev XE' (Pg : PgX) (R : RdC) (k : Nat) (T : Sc) (e : Expr) (c : E) : Prop := ∀ W : WX, DE Pg R k T (WE W) e c

section
variable {Pg : PgX} {R : RdC} {k : Nat} {T : Sc} {pos px : Pos} {x y z f : Str} {e a b i : Expr} {es : List Expr} {sts : List Stmt} {st : Stmt} {c ca cb cc ci : E} {s s' : S}

theorem d_nil : DSs Pg R k T [] .skip := fun X W O tk => pss_nil
theorem d_cons (h : DS Pg R k T st s) (r : DSs Pg R k T sts s') : DSs Pg R k T (st :: sts) (.seq s s') := fun X W O tk => pss_cons (h X W O tk) (r X W O tk)
theorem d_one (h : DS Pg R k T st s) : DSs Pg R k T [st] s := fun X W O tk => pss_one (h X W O tk)
theorem d_fz (l : List Nat) (r : DSs Pg R k T sts s) : DSs Pg R k T sts (.seq (.fz l) s) := fun X W O tk => r X W O tk
theorem d_fzA (cl : Str) (o : Nat) (f : Str) (r : DSs Pg R k T sts s) : DSs Pg R k T sts (.seq (.fzA cl o f) s) := fun X W O tk => r X W O tk
theorem d_pass : DS Pg R k T (.Pass pos) .skip := fun X W O tk => ps_pass
theorem d_doc {j : Nat} {p2 : Pos} : DS Pg R k T (.Expr (.Constant (.str x) j p2) pos) .skip := fun X W O tk => ps_doc
theorem d_drop (h : ∀ W : WX, DE Pg R k T (WE W) e c) (hs : isComp e = false := by rfl) : DS Pg R k T (.Expr e pos) (.drop c) := fun X W O tk => ps_expr (h W X O.x (passAt tk)) (swaps_no hs)
theorem d_ret (h : ∀ W : WX, DE Pg R k T (WE W) e c) : DS Pg R k T (.Return (some e) pos) (.ret c) := fun X W O tk => ps_ret (h W X O.x (passAt tk))
theorem d_retN : DS Pg R k T (.Return none pos) .retN := fun X W O tk => ps_retN
theorem d_if {ct : Pm.T} {th el : List Stmt} (hc : ∀ W : WX, DT Pg R k T (WE W) e ct) (ht : DSs Pg R k T th s) (he : DSs Pg R k T el s') : DS Pg R k T (.If e th el pos) (.ife ct s s') := fun X W O tk => ps_if (hc W X O.x (passAt tk)) (ht X W O tk) (he X W O tk)
theorem d_for {tg iter : Expr} {g : Tg} {ii : I} (hi : ∀ W : WX, DI Pg R k T (WE W) tg iter ii) (hg : DG Pg R k T tg g) (hb : DSs Pg R k T sts s) (hs : ∀ env x, foldedSetIterable iter env x = pure x := by intro _ _; rfl) (hc : T.cm = true := by rfl) :
    DS Pg R k T (.For tg iter sts [] pos) (.sfor g ii s) := fun X W O tk => ps_for (O.pass hc) (O.x.cm hc) (hi W X O.x (passAt tk)) (hg X O.x) (hb X W O tk) (hs _)
theorem d_while {ct : Pm.T} (hc : ∀ W : WX, DT Pg R k T (WE W) e ct) (hb : DSs Pg R k T sts s) (hm : T.cm = true := by rfl) : DS Pg R k T (.While e sts [] pos) (.swhile ct s) := fun X W O tk => ps_while (O.pass hm) (hc W X O.x (passAt tk)) (hb X W O tk)

/-! ### assignments -/
theorem swaps_sole {t : Expr} {l : Nat} {env : PySem.Env} (h : isComp e = false) : swapsWithSole [t] e l env = pure false := swaps_no h
theorem anyS2 {f : Expr → Bool} (sa : isStar a = false) (sb : isStar b = false) (h : ∀ e, f e = isStar e) : [a, b].any f = false := by
  simp [h, sa, sb]
theorem anyS3 {f : Expr → Bool} {d : Expr} (sa : isStar a = false) (sb : isStar b = false) (sd : isStar d = false) (h : ∀ e, f e = isStar e) : [a, b, d].any f = false := by
  simp [h, sa, sb, sd]
theorem swst_nm {env : PySem.Env} : swappedStores [.Name x px] e env = pure none := by
  cases e <;> rfl
theorem d_asg (i : Nat) (hi : T.ls.contains i = true) (hN : T.N[i]? = some x) (h : ∀ W : WX, DE Pg R k T (WE W) e c) (hs : isComp e = false := by rfl) : DS Pg R k T (.Assign [.Name x px] e pos) (.asg i c) := fun X W O tk =>
  ps_asg (h W X O.x (passAt tk)) (g_nm i hi hN X O.x) (swaps_sole hs) swst_nm
theorem d_asgO (i : Nat) (hi : T.ls.contains i = true) (hN : T.N[i]? = some x) (h : ∀ W : WX, DE Pg R k T (WE W) e c) (hs : isComp e = false := by rfl) : DS Pg R k T (.Assign [.Name x px] e pos) (.asgO i c) := fun X W O tk =>
  ps_asg (h W X O.x (passAt tk)) (g_nm i hi hN X O.x) (swaps_sole hs) swst_nm
section
variable {tg iter elt : Expr} {ifs : List Expr} {scope : Scope} {is ls vs : List Nat} {gs cls : List Str} {ii : I} {g : Tg} {cd : C} {ce : E} {own : List (Str × Nat)} {p2 : Pos}
/-- name = [.. for ..], the name a local -/
theorem asg_lc (i : Nat) (own : List (Str × Nat)) (is ls : List Nat) (gs cls : List Str) (hi : T.ls.contains i = true) (hN : T.N[i]? = some y) (hI : ∀ W : WX, DI Pg R k T (WE W) tg iter ii) (hg : DG Pg R k (blkT T scope is ls gs cls) tg g) (hd : DC Pg R k (blkT T scope is ls gs cls) ifs cd) (he : DE Pg R k (blkT T scope is ls gs cls) EW0 elt ce)
    (hy : T.sc.names.lookup y = some .local := by decide +kernel) (ha : (scope.names.any fun (n, k) => n == y && (k == .local || k == .cell)) = false := by decide +kernel) (hl : (px.line == p2.line) = true := by rfl)
    (hck : blkCk T scope own is ls gs cls = true := by decide +kernel) (hv : own.map (·.2) = vs := by rfl) (hs : ∀ env x, foldedSetIterable iter env x = pure x := by intro _ _; rfl) (hc : T.cm = true := by rfl) :
    ∀ X W, OkS Pg R k T X → Takes X W → PS X (.Assign [.Name y px] (.ListComp elt [⟨tg, iter, ifs, 0⟩] scope p2) pos) (tAsg (tE R (WE W) (.lc vs g ii cd ce)) (gName i)) := fun X W O tk => by
  subst hv
  obtain ⟨h1, h2, h3⟩ := O.x.sto (by simpa using hi) hN
  have hyl : X.env.scope.names.lookup y = some .local := by rw [O.x.sc]; exact hy
  refine ⟨fun pins s σ H D I h => ?_⟩
  exact (ps_setLc (O.x.cm hc) O.x.nd h1 hyl (sw_true I.ok.kind hyl hl ha) (hI W X O.x (passAt tk)) (blk_ok O.x hck) (fun s H C cl fp => hg _ (O.x.blk hck)) (fun s H C cl fp => hd _ (O.x.blk hck) pass_blk) (fun s H C cl fp => he _ (O.x.blk hck) pass_blk) (hs _)).run pins s σ H D I h
theorem d_asgLc (i : Nat) (own : List (Str × Nat)) (is ls : List Nat) (gs cls : List Str) (hi : T.ls.contains i = true) (hN : T.N[i]? = some y) (hI : ∀ W : WX, DI Pg R k T (WE W) tg iter ii) (hg : DG Pg R k (blkT T scope is ls gs cls) tg g) (hd : DC Pg R k (blkT T scope is ls gs cls) ifs cd) (he : DE Pg R k (blkT T scope is ls gs cls) EW0 elt ce)
    (hy : T.sc.names.lookup y = some .local := by decide +kernel) (ha : (scope.names.any fun (n, k) => n == y && (k == .local || k == .cell)) = false := by decide +kernel) (hl : (px.line == p2.line) = true := by rfl)
    (hck : blkCk T scope own is ls gs cls = true := by decide +kernel) (hv : own.map (·.2) = vs := by rfl) (hs : ∀ env x, foldedSetIterable iter env x = pure x := by intro _ _; rfl) (hc : T.cm = true := by rfl) :
    DS Pg R k T (.Assign [.Name y px] (.ListComp elt [⟨tg, iter, ifs, 0⟩] scope p2) pos) (.asg i (.lc vs g ii cd ce)) := asg_lc i own is ls gs cls hi hN hI hg hd he hy ha hl hck hv hs hc
theorem d_asgOLc (i : Nat) (own : List (Str × Nat)) (is ls : List Nat) (gs cls : List Str) (hi : T.ls.contains i = true) (hN : T.N[i]? = some y) (hI : ∀ W : WX, DI Pg R k T (WE W) tg iter ii) (hg : DG Pg R k (blkT T scope is ls gs cls) tg g) (hd : DC Pg R k (blkT T scope is ls gs cls) ifs cd) (he : DE Pg R k (blkT T scope is ls gs cls) EW0 elt ce)
    (hy : T.sc.names.lookup y = some .local := by decide +kernel) (ha : (scope.names.any fun (n, k) => n == y && (k == .local || k == .cell)) = false := by decide +kernel) (hl : (px.line == p2.line) = true := by rfl)
    (hck : blkCk T scope own is ls gs cls = true := by decide +kernel) (hv : own.map (·.2) = vs := by rfl) (hs : ∀ env x, foldedSetIterable iter env x = pure x := by intro _ _; rfl) (hc : T.cm = true := by rfl) :
    DS Pg R k T (.Assign [.Name y px] (.ListComp elt [⟨tg, iter, ifs, 0⟩] scope p2) pos) (.asgO i (.lc vs g ii cd ce)) := asg_lc i own is ls gs cls hi hN hI hg hd he hy ha hl hck hv hs hc
/-- .. the name captured (a cell) -/
theorem sw_cell {y : Str} {l : Nat} {env : PySem.Env} {gens : List Comprehension} (hy : env.scope.names.lookup y = some .cell) : swapsWithSole [.Name y px] (.ListComp elt gens scope p2) l env = pure false := by
  have ky : env.kindOf y = some .cell := hy
  show swapsWith (.ListComp elt gens scope p2) (some (.Name y px)) l env = pure false
  unfold swapsWith
  simp only [ky]
  show pure _ = _
  rw [show (some NameKind.cell == some NameKind.local) = false from rfl, Bool.and_false, Bool.false_and, Bool.false_and]
theorem d_asgLcC (i : Nat) {gens : List Comprehension} {c : E} (hi : T.ls.contains i = true) (hN : T.N[i]? = some y) (h : ∀ W : WX, DE Pg R k T (WE W) (.ListComp elt gens scope p2) c) (hy : T.sc.names.lookup y = some .cell := by decide +kernel) :
    DS Pg R k T (.Assign [.Name y px] (.ListComp elt gens scope p2) pos) (.asg i c) := fun X W O tk =>
  ps_asg (h W X O.x (passAt tk)) (g_nm i hi hN X O.x) (sw_cell (by rw [O.x.sc]; exact hy)) swst_nm
end
def isTupE : Expr → Bool
  | .Tuple _ _ _ => true
  | _ => false
theorem swst_tup {ts : List Expr} {kk : Nat} {env : PySem.Env} (h : isTupE e = false) : swappedStores [.Tuple ts kk px] e env = pure none := by
  cases e <;> first | rfl | cases h
theorem d_asgG {ts : List Expr} {kk : Nat} {g : Tg} (hg : DG Pg R k T (.Tuple ts kk px) g) (h : ∀ W : WX, DE Pg R k T (WE W) e c) (hs : isComp e = false := by rfl) (ht : isTupE e = false := by rfl) : DS Pg R k T (.Assign [.Tuple ts kk px] e pos) (.asgG g c) := fun X W O tk =>
  ps_asg (h W X O.x (passAt tk)) (hg X O.x) (swaps_sole hs) (swst_tup ht)
/-- a, b = x, y -/
theorem swst2 {py p1 p2 : Pos} {kt k2 : Nat} {env : PySem.Env} (hx : env.scope.names.lookup x = some .local) (hy : env.scope.names.lookup y = some .local) (hk : env.scope.kind = .function) (hl : (py.line == px.line) = true) (hxy : x ≠ y) (sa : isStar a = false) (sb : isStar b = false)
    (hf : ([a, b].all (foldedForSure 8)) = false) (hc : ([a, b].all (constantsAlone 8)) = false) : swappedStores [.Tuple [.Name x px, .Name y py] kt p1] (.Tuple [a, b] k2 p2) env = pure (some [x, y]) := by
  have e1 : env.kindOf x = some .local := hx
  have e2 : env.kindOf y = some .local := hy
  have e3 : env.blockKind = .function := by unfold Env.blockKind; rw [hk]; rfl
  have e5 : ([x, y] : List Str).eraseDups.length = 2 := by
    have : (y == x) = false := by simpa using fun h => hxy h.symm
    simp [List.eraseDups_cons, this]
  unfold swappedStores
  have e6 : (px.line == px.line) = true := beq_self_eq_true _
  have e7 : (some NameKind.local == some NameKind.local) = true := rfl
  simp only []
  rw [anyS2 sa sb (fun e => by cases e <;> rfl)]
  simp only [List.length_cons, List.length_nil, e3, List.filterMap_cons, List.filterMap_nil, e1, e2, List.head?_cons, Option.map_some, Option.getD_some, Expr.pos, hl, e6, e7, Bool.and_self, if_true, hf, hc, e5]
  rfl
theorem d_par2 (i j : Nat) {py p1 p2 : Pos} {kt k2 : Nat} (hi : T.N[i]? = some x) (hj : T.N[j]? = some y) (ha : ∀ W : WX, DE Pg R k T (WE W) a ca) (hb : ∀ W : WX, DE Pg R k T (WE W) b cb)
    (hx : T.sc.names.lookup x = some .local := by decide +kernel) (hy : T.sc.names.lookup y = some .local := by decide +kernel) (hxy : x ≠ y := by decide +kernel) (hij : (i == j) = false := by rfl) (hl : (py.line == px.line) = true := by rfl) (sa : isStar a = false := by rfl) (sb : isStar b = false := by rfl)
    (hf : ([a, b].all (foldedForSure 8)) = false := by rfl) (hq : ([a, b].all (constantsAlone 8)) = false := by rfl) (hc : T.cm = true := by rfl) : DS Pg R k T (.Assign [.Tuple [.Name x px, .Name y py] kt p1] (.Tuple [a, b] k2 p2) pos) (.par2 i j ca cb) := fun X W O tk => by
  have hx' : X.env.scope.names.lookup x = some .local := by rw [O.x.sc]; exact hx
  have hy' : X.env.scope.names.lookup y = some .local := by rw [O.x.sc]; exact hy
  refine ⟨fun pins s σ H D I h => ?_⟩
  exact (ps_par (O.x.cm hc) O.x.nd (by rw [O.x.N]; exact hi) (by rw [O.x.N]; exact hj) (by simpa using hij) hx' hy' (pa_cons (ha W X O.x (passAt tk)) (pa_cons (hb W X O.x (passAt tk)) pa_nil (star_one sb)) (star_one sa)) (swst2 hx' hy' I.ok.kind hl hxy sa sb hf hq)).run pins s σ H D I h
theorem swst3 {d : Expr} {py pz p1 p2 : Pos} {kt k2 : Nat} {env : PySem.Env} (hx : env.scope.names.lookup x = some .local) (hy : env.scope.names.lookup y = some .local) (hz : env.scope.names.lookup z = some .local) (hk : env.scope.kind = .function) (hl : (py.line == px.line) = true) (hl2 : (pz.line == px.line) = true)
    (hxy : x ≠ y) (hxz : x ≠ z) (hyz : y ≠ z) (sa : isStar a = false) (sb : isStar b = false) (sd : isStar d = false)
    (hf : ([a, b, d].all (foldedForSure 8)) = false) (hc : ([a, b, d].all (constantsAlone 8)) = false) : swappedStores [.Tuple [.Name x px, .Name y py, .Name z pz] kt p1] (.Tuple [a, b, d] k2 p2) env = pure (some [x, y, z]) := by
  have e1 : env.kindOf x = some .local := hx
  have e2 : env.kindOf y = some .local := hy
  have e2' : env.kindOf z = some .local := hz
  have e3 : env.blockKind = .function := by unfold Env.blockKind; rw [hk]; rfl
  have e5 : ([x, y, z] : List Str).eraseDups.length = 3 := by
    have h1 : (y == x) = false := by simpa using fun h => hxy h.symm
    have h2 : (z == x) = false := by simpa using fun h => hxz h.symm
    have h3 : (z == y) = false := by simpa using fun h => hyz h.symm
    simp [List.eraseDups_cons, h1, h2, h3]
  unfold swappedStores
  have e6 : (px.line == px.line) = true := beq_self_eq_true _
  have e7 : (some NameKind.local == some NameKind.local) = true := rfl
  simp only []
  rw [anyS3 sa sb sd (fun e => by cases e <;> rfl)]
  simp only [List.length_cons, List.length_nil, e3, List.filterMap_cons, List.filterMap_nil, e1, e2, e2', List.head?_cons, Option.map_some, Option.getD_some, Expr.pos, hl, hl2, e6, e7, Bool.and_self, if_true, hf, hc, e5]
  rfl
theorem d_par3 (i j l : Nat) {d : Expr} {cd : E} {py pz p1 p2 : Pos} {kt k2 : Nat} (hi : T.N[i]? = some x) (hj : T.N[j]? = some y) (hk : T.N[l]? = some z) (ha : ∀ W : WX, DE Pg R k T (WE W) a ca) (hb : ∀ W : WX, DE Pg R k T (WE W) b cb) (hd : ∀ W : WX, DE Pg R k T (WE W) d cd)
    (hx : T.sc.names.lookup x = some .local := by decide +kernel) (hy : T.sc.names.lookup y = some .local := by decide +kernel) (hz : T.sc.names.lookup z = some .local := by decide +kernel) (hxy : x ≠ y := by decide +kernel) (hxz : x ≠ z := by decide +kernel) (hyz : y ≠ z := by decide +kernel)
    (hij : (i == j) = false := by rfl) (hil : (i == l) = false := by rfl) (hjl : (j == l) = false := by rfl) (hl : (py.line == px.line) = true := by rfl) (hl2 : (pz.line == px.line) = true := by rfl) (sa : isStar a = false := by rfl) (sb : isStar b = false := by rfl) (sd : isStar d = false := by rfl)
    (hf : ([a, b, d].all (foldedForSure 8)) = false := by rfl) (hq : ([a, b, d].all (constantsAlone 8)) = false := by rfl) (hc : T.cm = true := by rfl) : DS Pg R k T (.Assign [.Tuple [.Name x px, .Name y py, .Name z pz] kt p1] (.Tuple [a, b, d] k2 p2) pos) (.par3 i j l ca cb cd) := fun X W O tk => by
  have hx' : X.env.scope.names.lookup x = some .local := by rw [O.x.sc]; exact hx
  have hy' : X.env.scope.names.lookup y = some .local := by rw [O.x.sc]; exact hy
  have hz' : X.env.scope.names.lookup z = some .local := by rw [O.x.sc]; exact hz
  refine ⟨fun pins s σ H D I h => ?_⟩
  exact (ps_par3 (O.x.cm hc) O.x.nd (by rw [O.x.N]; exact hi) (by rw [O.x.N]; exact hj) (by rw [O.x.N]; exact hk) (by simpa using hij) (by simpa using hil) (by simpa using hjl) hx' hy' hz' (pa_cons (ha W X O.x (passAt tk)) (pa_cons (hb W X O.x (passAt tk)) (pa_cons (hd W X O.x (passAt tk)) pa_nil (star_one sd)) (star_one sb)) (star_one sa))
    (swst3 hx' hy' hz' I.ok.kind hl hl2 hxy hxz hyz sa sb sd hf hq)).run pins s σ H D I h

/-! ### lists, dicts, fields changed -/
theorem few_one {cpos : Pos} {env : PySem.Env} (hs : isStar e = false) : ((backTo cpos (starEach [e] env)).all (fun x => !x.1) && (backToKw cpos (keywordEach [] env)).all (fun x => x.1.isSome)
      && decide (([e] : List Expr).length + ([] : List Keyword).length + (if ([] : List Keyword).isEmpty then 0 else 1) < 30)) = true := by
  rw [star_one hs]
  rfl
theorem d_app (j : Nat) {apos cpos : Pos} (hj : T.is.contains j = true) (hN : T.N[j]? = some x) (h : ∀ W : WX, DE Pg R k T (WE W) e c) (hs : isStar e = false := by rfl) (hl : (apos.endLine == cpos.line) = true := by rfl) :
    DS Pg R k T (.Expr (.Call (.Attribute (.Name x px) "append" apos) [e] [] cpos) pos) (.app j c) := fun X W O tk => by
  show PS X _ (tDrop (tBM R.K "list" rAppend (tVar j) (tCons (tE R (WE W) c) tNil)))
  rw [O.x.K]
  exact ps_expr (pe_bm PySem.F.plainAttrs_list PySem.F.slot_list_append PySem.F.type_list_append mt_append (e_var (W := WE W) j hj hN X O.x (passAt tk)) (pa_cons (h W X O.x (passAt tk)) pa_nil (star_one hs)) rfl (few_one hs) hl (star_one hs) rfl) rfl
theorem d_appA (o : Nat) {cl : Str} {apos cpos fpos : Pos} (ho : T.is.contains o = true) (hN : T.N[o]? = some x) (h : ∀ W : WX, DE Pg R k T (WE W) e c) (hs : isStar e = false := by rfl) (hl : (apos.endLine == cpos.line) = true := by rfl) :
    DS Pg R k T (.Expr (.Call (.Attribute (.Attribute (.Name x px) f fpos) "append" apos) [e] [] cpos) pos) (.appA cl o f c) := fun X W O tk => by
  show PS X _ (tDrop (tBM R.K "list" rAppend (tFld R.K (tVar o) f) (tCons (tE R (WE W) c) tNil)))
  rw [O.x.K]
  exact ps_expr (pe_bm PySem.F.plainAttrs_list PySem.F.slot_list_append PySem.F.type_list_append mt_append (pe_fld (e_var (W := WE W) o ho hN X O.x (passAt tk)) rfl) (pa_cons (h W X O.x (passAt tk)) pa_nil (star_one hs)) rfl (few_one hs) hl (star_one hs) rfl) rfl
theorem swaps_sub {o : Expr} {l : Nat} {env : PySem.Env} : swapsWith e (some (.Subscript o i px)) l env = pure false := by
  cases e <;> rfl
theorem swaps_att {o : Expr} {l : Nat} {env : PySem.Env} : swapsWith e (some (.Attribute o f px)) l env = pure false := by
  cases e <;> rfl
theorem swst_sub {o : Expr} {env : PySem.Env} : swappedStores [.Subscript o i px] e env = pure none := by
  cases e <;> rfl
def isSlA : Expr → Bool
  | .Slice _ _ _ _ => true
  | _ => false
theorem asg_sub {o : Expr} {env : PySem.Env} (hs : isSlA i = false) (v : Value) : assign (.Subscript o i pos) env v = (do
      let ov ← holding [v] (eval o env)
      let iv ← holding [v, ov] (eval i env)
      standAt pos
      holding [v, ov, iv] (setItem ov iv v)
      release [v, ov, iv] []) := by
  cases i <;> first | rfl | cases hs
theorem swaps_subS {o : Expr} {l : Nat} {env : PySem.Env} : swapsWithSole [.Subscript o i px] e l env = pure false := by
  cases e <;> rfl
theorem g_sub (j : Nat) {p' : Pos} {X : Cx} {W : EW} (O : OkX Pg R k T X) (p : ∀ σ, PassesAt (L2.CX X.prog X.w) X σ (W σ)) (hj : T.is.contains j = true) (hN : T.N[j]? = some x) (hi : DE Pg R k T W i ci) (hs : isSlA i = false) : PG X (.Subscript (.Name x p') i pos) (gSub (tVar j) (tE R W ci) rSetL) :=
  pg_sub (e_var (W := W) j hj hN X O p) (hi X O p) set_list (asg_sub hs)
theorem d_setI (j : Nat) {p' : Pos} (hj : T.is.contains j = true) (hN : T.N[j]? = some x) (hi : ∀ W : WX, DE Pg R k T (WE W) i ci) (h : ∀ W : WX, DE Pg R k T (WE W) e c) (hs : isSlA i = false := by rfl) : DS Pg R k T (.Assign [.Subscript (.Name x p') i px] e pos) (.setI j ci c) := fun X W O tk =>
  ps_asg (h W X O.x (passAt tk)) (g_sub j O.x (passAt tk) hj hN (hi W) hs) swaps_subS swst_sub
theorem swst_sub2 {o1 o2 i1 i2 : Expr} {p1 p2 p3 p4 : Pos} {k1 k2 : Nat} {env : PySem.Env} : swappedStores [.Tuple [.Subscript o1 i1 p1, .Subscript o2 i2 p2] k1 p3] (.Tuple [a, b] k2 p4) env = pure none := by
  unfold swappedStores
  simp only [List.length_cons, List.length_nil, List.filterMap_cons, List.filterMap_nil]
  split
  · rfl
  · split
    · rfl
    · rfl
theorem d_set2 (j1 j2 : Nat) {i1 i2 : Expr} {c1 c2 : E} {n1 n2 : Str} {q1 q2 p1 p2 p3 p4 : Pos} {k1 k2 : Nat} (hj1 : T.is.contains j1 = true) (hN1 : T.N[j1]? = some n1) (hj2 : T.is.contains j2 = true) (hN2 : T.N[j2]? = some n2) (h1 : ∀ W : WX, DE Pg R k T (WE W) i1 c1) (h2 : ∀ W : WX, DE Pg R k T (WE W) i2 c2)
    (ha : ∀ W : WX, DE Pg R k T (WE W) a ca) (hb : ∀ W : WX, DE Pg R k T (WE W) b cb) (sa : isStar a = false := by rfl) (sb : isStar b = false := by rfl) (hs1 : isSlA i1 = false := by rfl) (hs2 : isSlA i2 = false := by rfl) (hc : T.cm = true := by rfl) :
    DS Pg R k T (.Assign [.Tuple [.Subscript (.Name n1 q1) i1 p1, .Subscript (.Name n2 q2) i2 p2] k1 p3] (.Tuple [a, b] k2 p4) pos) (.set2 j1 j2 c1 c2 ca cb) := fun X W O tk => by
  show PS X _ (tAsg (tTup (tCons (tE R (WE W) ca) (tCons (tE R (WE W) cb) tNil))) (gTup R.K 2 (gCons (gSub (tVar j1) (tE R (WE W) c1) rSetL) (gCons (gSub (tVar j2) (tE R (WE W) c2) rSetL) gNil))))
  rw [O.x.K]
  exact ps_asg (pe_tup (pa_cons (ha W X O.x (passAt tk)) (pa_cons (hb W X O.x (passAt tk)) pa_nil (star_one sb)) (star_one sa))) (pg_tup (O.x.cm hc) (pgs_cons (g_sub j1 O.x (passAt tk) hj1 hN1 (h1 W) hs1) (pgs_cons (g_sub j2 O.x (passAt tk) hj2 hN2 (h2 W) hs2) pgs_nil))) rfl swst_sub2
theorem d_dict0 (i : Nat) {p2 : Pos} (hi : T.ls.contains i = true) (hN : T.N[i]? = some x) : DS Pg R k T (.Assign [.Name x px] (.Dict [] [] p2) pos) (.asgD i []) := fun X W O tk => ps_asg pe_dnewK (g_nm i hi hN X O.x) rfl rfl
/-- what stands in a display of a dict -/
def DP (p2 : Pos) (ks : List (Option Expr)) (vs : List Expr) (kvs : List (Sum Int Str × Lit)) : Prop := ∀ X : Cx, PPs X p2 ks vs (tPairsOf kvs)
theorem p_nil {p2 : Pos} : DP p2 [] [] [] := fun X => pps_nil
def litE : Expr → Option Lit
  | .Constant .none _ _ => some .non
  | .Constant (.bool b) _ _ => some (.bl b)
  | .Constant (.int i) _ _ => some (.int i)
  | .Constant (.str x) _ _ => some (.str x)
  | _ => none
theorem pe_lit {X : Cx} {l : Lit} (h : litE e = some l) : PE X e (tC (litV l)) := by
  unfold litE at h
  split at h
  · cases h; exact pe_non
  · cases h; exact pe_bl
  · cases h; exact pe_int
  · cases h; exact pe_str
  · cases h
def keyE : Expr → Option (Sum Int Str)
  | .Constant (.int i) _ _ => some (.inl i)
  | .Constant (.str x) _ _ => some (.inr x)
  | _ => none
theorem pe_key {X : Cx} {l : Sum Int Str} (h : keyE e = some l) : PE X e (tC (kV l)) := by
  unfold keyE at h
  split at h
  · cases h; exact pe_int
  · cases h; exact pe_str
  · cases h
theorem p_cons {p2 : Pos} {ks : List (Option Expr)} {vs : List Expr} {kvs : List (Sum Int Str × Lit)} {kl : Sum Int Str} {l : Lit} (r : DP p2 ks vs kvs) (hk : keyE a = some kl := by rfl) (hv : litE b = some l := by rfl) : DP p2 (some a :: ks) (b :: vs) ((kl, l) :: kvs) := fun X => pps_cons (pe_key hk) (pe_lit hv) (r X)
theorem d_dict (i : Nat) {p2 : Pos} {ks : List (Option Expr)} {vs : List Expr} {kv : Sum Int Str × Lit} {kvs : List (Sum Int Str × Lit)} (hi : T.ls.contains i = true) (hN : T.N[i]? = some x) (h : DP p2 ks vs (kv :: kvs)) (h1 : ks.all (·.isSome) = true := by rfl) (h2 : ks.length = vs.length := by rfl) (h3 : ks.isEmpty = false := by rfl) (h4 : (ks.length.ble 15) = true := by rfl) :
    DS Pg R k T (.Assign [.Name x px] (.Dict ks vs p2) pos) (.asgD i (kv :: kvs)) := fun X W O tk =>
  ps_asg (pe_disp (h X) h1 h2 (fun e => by rw [e] at h3; cases h3) (Nat.le_of_ble_eq_true h4)) (g_nm i hi hN X O.x) rfl rfl
theorem d_dput (j : Nat) {p' : Pos} (hj : T.is.contains j = true) (hN : T.N[j]? = some x) (hi : ∀ W : WX, DE Pg R k T (WE W) i ci) (h : ∀ W : WX, DE Pg R k T (WE W) e c) : DS Pg R k T (.Assign [.Subscript (.Name x p') i px] e pos) (.dput j ci c) := fun X W O tk =>
  ps_dput (by have := O.x.un; omega) (e_var (W := WE W) j hj hN X O.x (passAt tk)) (hi W X O.x (passAt tk)) (h W X O.x (passAt tk)) swaps_sub
theorem d_setA (o : Nat) {cl : Str} {p' : Pos} (ho : T.is.contains o = true) (hN : T.N[o]? = some x) (h : ∀ W : WX, DE Pg R k T (WE W) e c) : DS Pg R k T (.Assign [.Attribute (.Name x p') f px] e pos) (.setA cl o f c) := fun X W O tk => by
  show PS X _ (sFld R.K (tVar o) (tE R (WE W) c) f)
  rw [O.x.K]
  exact ps_fld (e_var (W := WE W) o ho hN X O.x (passAt tk)) (h W X O.x (passAt tk)) swaps_att
theorem d_setAO (o : Nat) {cl : Str} {p' : Pos} (ho : T.is.contains o = true) (hN : T.N[o]? = some x) (h : ∀ W : WX, DE Pg R k T (WE W) e c) : DS Pg R k T (.Assign [.Attribute (.Name x p') f px] e pos) (.setAO cl o f c) := d_setA (cl := cl) o ho hN h
theorem d_mk (i m : Nat) (j : Nat) {cl : Str} {d : Def} {p' p2 : Pos} {cs : As} (hi : T.ls.contains i = true) (hN : T.N[i]? = some x) (hg : T.gs[j]? = some cl) (hm : Pg.pg.meths[m]? = some ((cl, ("__init__" : Str)), d)) (ha : ∀ W : WX, DAs Pg R k T (WE W) (e :: es) cs) (hc : T.cm = true := by rfl) :
    DS Pg R k T (.Assign [.Name x px] (.Call (.Name cl p') (e :: es) [] p2) pos) (.mk i cl cs) := fun X W O tk => by
  obtain ⟨g, hn⟩ := O.x.gl hg
  obtain ⟨fa, fd, ps, M, F, h2, h3⟩ := O.x.lf.make m cl d hm
  exact ps_asg (pe_make M F (O.x.room hc) g h2 h3 .nil passL ((ha W).2 X O.x (passAt tk)) (okNm_eq hn).1 ((ha W).1.one _) ((ha W).1.tail.plain _ _)) (g_nm i hi hN X O.x) rfl rfl

/-! ### exceptions -/
theorem raisesK {X : Cx} {C : Addr} (h : ExcK X.K C) : Raises X (.ref C) := raises_own h.sub h.ty
theorem pmk_own0 {X : Cx} {C : Addr} {p' : Pos} (h : ExcK X.K C) (gC : X.mg x = some (.ref C)) (hg : Gl X x) (hdb : (x == ("__debug__" : Str)) = false) : PMk X (.Call (.Name x p') [] [] pos) (fun _ H Q => Q (.ref C) none H) := by
  intro pins s σ H Q I hq
  refine wpAny_Call_Name_kw (ld_glob I hg gC ?_ hdb)
  refine PySem.W.callWith_K0 I.kIn h.kp ?_
  show wpAny _ _ (call (.ref C) []) _ _ _
  obtain ⟨bm, N, nm, qn, bs, hdct, sn, sub, ab, col, dd, k0, k1, k2, k3, k5, mN, hC, hN, hni, T⟩ := exc_obj I.kIn h.ex
  refine wpAny_call_exc_subT PySem.F.excBase_ValueError T hC hN hni (fun h' e hm => ?_) (by show 0 ≤ sizeLine; rw [sizeLine_eq]; omega)
  exact mk_of I hm (raisesK h) hq (I.hok.gone hm.new)
theorem d_raise (j m : Nat) {l : List Str} {p' p2 : Pos} (hg : T.gs[j]? = some x) (hm : Pg.pg.excs[m]? = some (x, l)) (hc : T.cm = true := by rfl) : DS Pg R k T (.Raise (some (.Call (.Name x p') [] [] p2)) none pos) (.sraise x) := fun X W O tk => by
  obtain ⟨g, hn⟩ := O.x.gl hg
  obtain ⟨h1, h2⟩ := O.x.lf.exc m x l hm
  exact ps_raise (O.x.cm hc) tk (pmk_own0 h2 h1 g (okNm_eq hn).1)
def calmT (T : Sc) : Sc := { T with cm := false }
theorem d_try (j m : Nat) {l : List Str} {body suite : List Stmt} {b₀ : Stmt} {np p2 : Pos} (hg : T.gs[j]? = some x) (hm : Pg.pg.excs[m]? = some (x, l)) (hb : DSs Pg R k T body s) (hh : DSs Pg R k (calmT T) (b₀ :: suite) s') :
    DS Pg R k T (.Try body [.ExceptHandler (some (.Name x np)) none (b₀ :: suite) p2] [] [] pos) (.stry s x s') := fun X W O tk => by
  obtain ⟨g, hn⟩ := O.x.gl hg
  obtain ⟨h1, h2⟩ := O.x.lf.exc m x l hm
  show PS X _ (fun D σ H => tS R (wOnly R.K (.ref (R.ca x)) (fun _ _ _ => tS R (fun _ _ _ _ => False) s') W D) s D σ H)
  rw [O.x.K]
  refine ps_try_only (tb := fun W => tS R W s) O.stk O.fr ⟨g, (okNm_eq hn).1, .inl h1⟩ tk (fun W' pn xe tk' ps' => hb _ W' ⟨⟨O.x.lf, O.x.ck, O.x.N, O.x.sc, O.x.cm, O.x.room, O.x.un, O.x.fn⟩, fun _ => ps', O.stk, O.fr⟩ tk') fun a oe cls d pn hz hd => ?_
  exact hh _ _ ⟨⟨O.x.lf, O.x.ck, O.x.N, O.x.sc, fun z => absurd z Bool.false_ne_true, fun z => absurd z Bool.false_ne_true, O.x.un, O.x.fn⟩, fun z => absurd z Bool.false_ne_true, O.stk, O.fr⟩ takes0
end
end Pm

set_option maxHeartbeats 4000000
/-! Pm14: what the head tells, gathered; the law's own def. -/
namespace Pm
open PySem PySem.Spec L2 RZ

/-! ### tables -/
def entB : List DictEntry → List (Str × Lit) → Bool
  | [], [] => true
  | e :: es, kv :: r => (match e.key with
    | .str x _ => decide (x = kv.1)
    | _ => false) && He.relB (litV kv.2) e.val && entB es r
  | _, _ => false
/-- the table at a holds just these -/
def tabB (K : PySem.W.Frag) (a : Addr) (r : List (Str × Lit)) : Bool := match K.lookup a with
  | some ⟨_, _, .dict es _, _⟩ => entB es.toList r
  | _ => false
theorem entB_ok {z : Str} : ∀ {es : List DictEntry} {r : List (Str × Lit)}, entB es r = true → es.any (·.refKey) = false ∧ (match r.lookup z with
    | some d => ∃ e, es.find? (·.key.isStr z) = some e ∧ RelV (litV d) e.val
    | none => es.find? (·.key.isStr z) = none)
  | [], [], _ => ⟨rfl, rfl⟩
  | [], _ :: _, h => by cases h
  | _ :: _, [], h => by cases h
  | e :: es, kv :: r, h => by
    unfold entB at h
    simp only [Bool.and_eq_true] at h
    obtain ⟨⟨h1, h2⟩, h3⟩ := h
    obtain ⟨i1, i2⟩ := entB_ok (z := z) h3
    obtain ⟨eh, ek, ev⟩ := e
    cases ek with
    | str x t =>
      have hx : x = kv.1 := of_decide_eq_true h1
      subst hx
      refine ⟨by rw [List.any_cons, i1]; rfl, ?_⟩
      rw [List.lookup_cons, List.find?_cons]
      have q : Value.isStr (Value.str kv.1 t) z = (z == kv.1) := by
        show (kv.1 == z) = (z == kv.1)
        by_cases e : z = kv.1
        · subst e; rfl
        · rw [beq_eq_false_iff_ne.mpr e, beq_eq_false_iff_ne.mpr fun z => e z.symm]
      show match (match z == kv.1 with
          | true => some kv.2
          | false => r.lookup z) with
        | some d => ∃ e, (match Value.isStr (Value.str kv.1 t) z with
            | true => some _
            | false => es.find? (·.key.isStr z)) = some e ∧ RelV (litV d) e.val
        | none => (match Value.isStr (Value.str kv.1 t) z with
            | true => some _
            | false => es.find? (·.key.isStr z)) = none
      rw [q]
      cases z == kv.1 with
      | true => exact ⟨_, rfl, He.relB_ok h2⟩
      | false => exact i2
    | _ => cases h1
theorem tabB_ok {K : PySem.W.Frag} {a : Addr} {r : List (Str × Lit)} (h : tabB K a r = true) (z : Str) : ∃ u, PySem.W.nsIn K a z = some u ∧ (match r.lookup z with
    | some d => ∃ v, u = some v ∧ RelV (litV d) v
    | none => u = none) := by
  unfold tabB at h
  split at h
  · rename_i es n _ e
    obtain ⟨h1, h2⟩ := entB_ok (z := z) h
    unfold PySem.W.nsIn
    rw [e]
    cases q : r.lookup z with
    | some d =>
      rw [q] at h2
      obtain ⟨e', h3, h4⟩ := h2
      exact ⟨some e'.val, by simp only [h3], _, rfl, h4⟩
    | none =>
      rw [q] at h2
      have h2 : es.toList.find? (·.key.isStr z) = none := h2
      exact ⟨none, by simp only [h2, h1]; rfl, rfl⟩
  · cases h

/-! ### lists of things, by their names -/
theorem lookup_of {α β : Type} [BEq α] [LawfulBEq α] : ∀ {l : List (α × β)} {j : Nat} {x : α} {d : β}, (l.map (·.1)).Nodup → l[j]? = some (x, d) → l.lookup x = some d
  | [], _, _, _, _, e => by simp at e
  | p :: l, 0, x, d, _, e => by
    simp at e
    subst e
    rw [List.lookup_cons, beq_self_eq_true]
  | p :: l, j + 1, x, d, hn, e => by
    rw [List.map_cons, List.nodup_cons] at hn
    have e : l[j]? = some (x, d) := by simpa using e
    have hne : (x == p.1) = false := beq_eq_false_iff_ne.mpr fun q => hn.1 (by rw [← q]; exact List.mem_map.mpr ⟨(x, d), List.mem_of_getElem? e, rfl⟩)
    rw [List.lookup_cons, hne]
    exact lookup_of hn.2 e
theorem of_lookup {α β : Type} [BEq α] [LawfulBEq α] {x : α} {d : β} : ∀ {l : List (α × β)}, l.lookup x = some d → (x, d) ∈ l
  | [], e => by cases e
  | p :: l, e => by
    rw [List.lookup_cons] at e
    cases q : x == p.1 with
    | true =>
      rw [q] at e
      cases e
      rw [eq_of_beq q]
      exact List.mem_cons_self
    | false =>
      rw [q] at e
      exact List.mem_cons_of_mem _ (of_lookup e)

/-! ### the law's def -/
section
variable {P : Program} {w : World} {K : PySem.W.Frag} {mg : Str → Option Value} {base : Heap} {Pg : PgX} {R : RdC} {Fn : Fs} {k wf : Nat} {T Tb : Sc} {qual : Str} {st stb s1 : Stmt} {f fb : Addr} {fd fdb : FuncData} {ps : List Str}
def spBegin (K : PySem.W.Frag) : Sp := fun vs H Q _ => ∃ (a : Addr) (ns : List Int), vs = [.ref a] ∧ SqL K H a (ns.map V.int) ∧ ns.length ≤ 63 ∧ ∀ l p, H l = none → H p = none → p ≠ l → Q (.ref p) (upd (upd H l (.lst (ns.map V.int))) p (.lst [.ref l, .int 0, .int 0, .int 7]))
def cBegin : S := .ret (.lst (.cons (.blt .list (.cons (.var 0) .nil)) (.cons (.lit (.int 0)) (.cons (.lit (.int 0)) (.cons (.lit (.int 7)) .nil)))))
def dBegin : Def := ⟨1, 1, cBegin⟩
theorem begin_ok (FD : FunD K "_law_begin" qual (defArgs stb) (defBody stb) (defScope stb) [] [] fb fdb) (lf : LF Pg R P w K mg base k) (ck : Tb.ok = true) (hsc : Tb.sc = defScope stb) (S : FnScope Tb.N ps (defScope stb)) (hp : ps.length = 1)
    (der : Der Pg R k Tb stb dBegin) (hN : Tb.N = ps) : FnOk P w K mg base (L2.CX P w) (k + 2) fb fdb ps (spBegin K) := by
  refine FD.ok S (fun vs H Q E h => ?_) fun cdv A outer s H vs Q E hr h => ?_
  · obtain ⟨a, ns, rfl, _⟩ := h
    exact hp.symm
  · obtain ⟨a, ns, rfl, hS, _, hQ⟩ := h
    have O : OkS Pg R k Tb (cxOf (L2.CX P w) P w K mg base Tb.N qual (defScope stb) fb cdv A outer s H E) := okS_cx lf ck hsc hr
    refine ⟨tS R (fun c dd _ H' => E c dd H') cBegin, der _ _ O (takes_of rfl rfl rfl rfl), ?_⟩
    have e0 : (L2.start Tb.N [V.ref a])[0]? = some (some (V.ref a)) := rfl
    show ∃ v, _ ∧ _
    refine ⟨_, e0, a, ns.map V.int, rfl, .inl (by rw [lf.eK]; exact hS), fun l hl => ?_⟩
    refine ⟨by show 4 ≤ sizeLine; decide, fun p hp' => ?_⟩
    have hpl : p ≠ l := by
      intro e
      subst e
      rw [upd_same] at hp'
      cases hp'
    exact hQ l p hl (by rw [upd_ne hpl] at hp'; exact hp') hpl
theorem repA_ints {F : Hp} : ∀ ns : List Int, RepA F (ns.map V.int) (ns.map .int)
  | [] => .nil
  | n :: ns => .cons (.int n) (repA_ints ns)
theorem law_si {ca : Str → Addr} {H : Hp} {l p : Addr} {ns : List Int} {N : List Str} {a : Addr} (hl : H l = none) (hp : H p = none) (h : p ≠ l) (hN : 2 ≤ N.length) :
    SI ca (lawEnv N.length) (lawSt ns) ((L2.start N [V.ref a]).set 1 (some (.ref p))) (upd (upd H l (.lst (ns.map V.int))) p (.lst [.ref l, .int 0, .int 0, .int 7])) (upd (fun _ => none) l (.lst (ns.map V.int))) (fun b => if b = p then some (.obj 0) else none) := by
  have hF : (upd (fun _ => none) l (.lst (ns.map V.int)) : Hp) l = some (.lst (ns.map V.int)) := upd_same
  refine ⟨⟨fun b x e => ?_, fun b x e => ?_, fun b c x e e' => ?_, fun j o e => ?_, fun b j e => ?_, fun b j g e => ?_⟩, ?_, fun i s e => ?_⟩
  · by_cases q : b = l
    · subst q
      rw [hF] at e
      rw [upd_ne (Ne.symm h), upd_same]
      exact e
    · rw [upd_ne q] at e
      cases e
  · split at e
    · rename_i q
      subst q
      exact ⟨upd_ne h, _, upd_same⟩
    · cases e
  · split at e
    · split at e'
      · rename_i q q'
        rw [q, q']
      · cases e'
    · cases e
  · cases j with
    | zero =>
      cases e
      exact ⟨p, if_pos rfl, _, upd_same, .cons (.lst hF (repA_ints ns)) (.cons (.int 0) (.cons (.int 0) (.cons (.int 7) .nil)))⟩
    | succ j => simp [lawSt] at e
  · split at e
    · cases e
      exact Nat.zero_lt_one
    · cases e
  · split at e
    · cases e
    · cases e
  · unfold lawEnv L2.start
    simp only [List.length_set, List.length_append, List.length_map, List.length_replicate, List.length_cons, List.length_nil]
    omega
  · unfold lawEnv at e
    match i with
    | 0 => cases e; trivial
    | 1 =>
      cases e
      refine ⟨p, if_pos rfl, List.getElem?_set_self ?_⟩
      unfold L2.start
      rw [List.length_append, List.length_map, List.length_replicate]
      show 1 < 1 + (N.length - 1)
      omega
    | i + 2 =>
      rw [List.getElem?_cons_succ, List.getElem?_cons_succ, List.getElem?_replicate] at e
      split at e
      · cases e; trivial
      · cases e
def spLaw (K : PySem.W.Frag) : Sp := fun vs H Q _ => ∃ (a : Addr) (ns : List Int), vs = [.ref a] ∧ SqL K H a (ns.map V.int) ∧ ns.length ≤ 63 ∧ ∀ H', Q (.bl true) H'
/-- the law's def: its first line draws, then rest -/
theorem law_ok {px p0 p1 p2 p3 : Pos} {y x : Str} {rest : List Stmt} {c : S} (FD : FunD K "law" qual (defArgs st) (defBody st) (defScope st) [] [] f fd) (lf : LF Pg R P w K mg base k) (fo : FsOk R Fn) (ck : T.ok = true) (hsc : T.sc = defScope st) (S : FnScope T.N ps (defScope st)) (hp : ps.length = 1)
    (FB : FnOk P w K mg base (L2.CX P w) k fb fdb ["_law_script"] (spBegin K)) (mb : mg "_law_begin" = some (.ref fb)) (kb : PySem.W.keepIn K (.ref fb) = true) (bb : L2.Binds K fdb ["_law_script"] [])
    (hb : defBody st = .Assign [.Name y px] (.Call (.Name "_law_begin" p1) [.Name x p2] [] p3) p0 :: rest) (h0 : T.N[0]? = some x) (h1 : T.N[1]? = some y) (hi0 : T.is.contains 0 = true) (hi1 : T.ls.contains 1 = true) (hg : T.gs[0]? = some ("_law_begin" : Str))
    (der : DSs Pg R k T rest c) (ev : ∀ ns : List Int, ns.length ≤ 63 → ∃ st', ex Fn wf c (lawEnv T.N.length) (lawSt ns) = .ret (.bool true) st') : FnOk P w K mg base (L2.CX P w) (k + 2) f fd ps (spLaw K) := by
  refine FD.ok S (fun vs H Q E h => ?_) fun cdv A outer s H vs Q E hr h => ?_
  · obtain ⟨a, ns, rfl, _⟩ := h
    exact hp.symm
  · obtain ⟨a, ns, rfl, hS, hlen, hQ⟩ := h
    have O : OkS Pg R k T (cxOf (L2.CX P w) P w K mg base T.N qual (defScope st) f cdv A outer s H E) := okS_cx lf ck hsc hr
    have tk := takes_of (X := cxOf (L2.CX P w) P w K mg base T.N qual (defScope st) f cdv A outer s H E) (E := E) rfl rfl rfl rfl
    obtain ⟨g, hn⟩ := O.x.gl hg
    have hN2 : 2 ≤ T.N.length := by
      have := (List.getElem?_eq_some_iff.mp h1).1
      omega
    refine ⟨tSeq (tAsg (tCallS (spBegin K) (WE fun c dd _ H' => E c dd H') (tCons (tVar 0) tNil)) (gName 1)) (tS R (fun c dd _ H' => E c dd H') c), ?_, ?_⟩
    · rw [hb]
      exact pss_cons (ps_asg (pe_callS FB (hr.mono (Nat.le_succ _)) g mb kb bb (passAt tk) (pa_cons (e_var (W := WE fun c dd _ H' => E c dd H') 0 hi0 h0 _ O.x (passAt tk)) pa_nil) (okNm_eq hn).1) (g_nm 1 hi1 h1 _ O.x)) (der _ _ O tk)
    · have e0 : (L2.start T.N [V.ref a])[0]? = some (some (V.ref a)) := rfl
      refine ⟨_, e0, a, ns, rfl, hS, hlen, fun l p hl hp' hpl => ?_⟩
      refine exS fo wf c _ (lawEnv T.N.length) (lawSt ns) _ _ _ _ _ (law_si hl hp' hpl hN2) ?_
      obtain ⟨st', e⟩ := ev ns hlen
      rw [e]
      intro v H' F' G' _ _ r
      cases r
      exact hQ H'
end
end Pm

set_option maxHeartbeats 4000000
/-! Pm15: from what the head tells to the law's own def. -/
namespace Pm
open PySem PySem.Spec L2 RZ

/-! ### what the head is asked -/
def litFa (x : Str) : Lit → He.Fa
  | .int i => .int x i
  | .str z => .str x z
  | _ => .keep x
def faOf (Pg : PgX) : List He.Fa :=
  (He.Fa.glo "law" :: .glo "_law_begin" :: Pg.pg.defs.map fun p => .glo p.1) ++ ((Pg.blts.map fun x => .free x) ++ ((Pg.glos.map fun p => litFa p.1 p.2) ++ ((Pg.pg.tabs.map fun p => .glo p.1) ++
    ((Pg.pg.atts.flatMap fun p => .cls p.1 :: .mkr p.1 :: .glo p.1 :: p.2.map fun f => .noat p.1 f) ++ ((Pg.pg.meths.map fun p => .meth p.1.1 p.1.2) ++ ((Pg.pg.excs.flatMap fun p => [.glo p.1, .exc p.1]) ++
      (Pg.pg.excs.flatMap fun y => Pg.pg.excs.map fun x => .exm y.1 x.1 (y.2.any fun g => decide (g = x.1)))))))))
def tsOf (Pg : PgX) : List He.Tab := Pg.pg.tabs.map fun p => (fun K => He.ga K p.1, p.2.map (·.1))
def exOf (Pg : PgX) (K : PySem.W.Frag) : Bool := Pg.pg.tabs.all fun p => tabB K (He.ga K p.1) p.2
def fxOf (K : PySem.W.Frag) (w : World) : Fx := ⟨K, w, He.ga K, He.ga K⟩
/-- no name twice; every field's class has an own __init__ -/
def ndB (Pg : PgX) : Bool := decide (Pg.pg.defs.map (·.1)).Nodup && decide (Pg.pg.meths.map (·.1)).Nodup && (Pg.pg.meths.all fun p => Pg.pg.atts.any fun q => decide (q.1 = p.1.1)) && Pg.glos.all fun p => match p.2 with
  | .int _ => true
  | .str _ => true
  | _ => false
def BindF (x qual : Str) (st : Stmt) (ps : List Str) : Prop := ∀ (kV doc pm : Value) (an : Option Addr) (cdv ct : Value) (us : List Value), us.length = ps.length → bindArgs (PySem.W.fnOf x qual (defArgs st) (defBody st) (defScope st) .none kV doc pm an cdv ct) ⟨us, []⟩ = pure (ps.zip us)
/-- a def of the text: its place in the head's list, its scope, its code -/
def DefS (Pg : PgX) (fn : List He.DefD) (x : Str) (d : Def) : Prop := ∃ (i : Nat) (st : Stmt) (T : Sc) (ps : List Str), fn[i]? = some ⟨(x, none), x, x, defArgs st, defBody st, defScope st, [], []⟩ ∧ BindF x x st ps ∧ T.ok = true ∧ T.sc = defScope st ∧ C8.scC T.N ps (defScope st) = true ∧ d.n = T.N.length ∧ d.ps = ps.length ∧
  ∀ R k, DSs Pg R k T (defBody st) d.body
def MethS (Pg : PgX) (fn : List He.DefD) (c m : Str) (d : Def) : Prop := ∃ (i : Nat) (qual : Str) (st : Stmt) (T : Sc) (ps : List Str), fn[i]? = some ⟨(c, some m), m, qual, defArgs st, defBody st, defScope st, [], []⟩ ∧ BindF m qual st ps ∧ T.ok = true ∧ T.sc = defScope st ∧ C8.scC T.N ps (defScope st) = true ∧ d.n = T.N.length ∧ d.ps = ps.length ∧
  ∀ R k, DSs Pg R k T (defBody st) d.body
theorem all_nil {α : Type} {p : α → Prop} : ∀ x ∈ ([] : List α), p x := fun _ h => nomatch h
theorem all_cons {α : Type} {p : α → Prop} {a : α} {l : List α} (h : p a) (r : ∀ x ∈ l, p x) : ∀ x ∈ a :: l, p x := fun x hx => by
  rcases List.mem_cons.mp hx with e | hx
  · rw [e]; exact h
  · exact r x hx
structure Dat (Pg : PgX) (fn : List He.DefD) : Prop where
  nd : ndB Pg = true
  defs : ∀ p ∈ Pg.pg.defs, DefS Pg fn p.1 p.2
  meths : ∀ p ∈ Pg.pg.meths, MethS Pg fn p.1.1 p.1.2 p.2
section
variable {Pg : PgX} {fn : List He.DefD} {K : PySem.W.Frag} {w : World} {h : Heap} {mg : Str → Option Value} {wf : Nat}
theorem fa_def {p : Str × Def} (hp : p ∈ Pg.pg.defs) : He.Fa.glo p.1 ∈ faOf Pg := List.mem_append_left _ (List.mem_cons_of_mem _ (List.mem_cons_of_mem _ (List.mem_map.mpr ⟨p, hp, rfl⟩)))
theorem fa_law : He.Fa.glo "law" ∈ faOf Pg := List.mem_append_left _ List.mem_cons_self
theorem fa_begin : He.Fa.glo "_law_begin" ∈ faOf Pg := List.mem_append_left _ (List.mem_cons_of_mem _ List.mem_cons_self)
theorem fa_blt {x : Str} (hp : x ∈ Pg.blts) : He.Fa.free x ∈ faOf Pg := List.mem_append_right _ (List.mem_append_left _ (List.mem_map.mpr ⟨x, hp, rfl⟩))
theorem fa_glo {p : Str × Lit} (hp : p ∈ Pg.glos) : litFa p.1 p.2 ∈ faOf Pg := List.mem_append_right _ (List.mem_append_right _ (List.mem_append_left _ (List.mem_map.mpr ⟨p, hp, rfl⟩)))
theorem fa_tab {p : Str × List (Str × Lit)} (hp : p ∈ Pg.pg.tabs) : He.Fa.glo p.1 ∈ faOf Pg := List.mem_append_right _ (List.mem_append_right _ (List.mem_append_right _ (List.mem_append_left _ (List.mem_map.mpr ⟨p, hp, rfl⟩))))
theorem fa_att {p : Str × List Str} (hp : p ∈ Pg.pg.atts) : ∀ f ∈ (He.Fa.cls p.1 :: .mkr p.1 :: .glo p.1 :: p.2.map fun f => .noat p.1 f), f ∈ faOf Pg := fun f hf =>
  List.mem_append_right _ (List.mem_append_right _ (List.mem_append_right _ (List.mem_append_right _ (List.mem_append_left _ (List.mem_flatMap.mpr ⟨p, hp, hf⟩)))))
theorem fa_meth {p : (Str × Str) × Def} (hp : p ∈ Pg.pg.meths) : He.Fa.meth p.1.1 p.1.2 ∈ faOf Pg := List.mem_append_right _ (List.mem_append_right _ (List.mem_append_right _ (List.mem_append_right _ (List.mem_append_right _ (List.mem_append_left _ (List.mem_map.mpr ⟨p, hp, rfl⟩))))))
theorem fa_exc {p : Str × List Str} (hp : p ∈ Pg.pg.excs) : ∀ f ∈ [He.Fa.glo p.1, .exc p.1], f ∈ faOf Pg := fun f hf =>
  List.mem_append_right _ (List.mem_append_right _ (List.mem_append_right _ (List.mem_append_right _ (List.mem_append_right _ (List.mem_append_right _ (List.mem_append_left _ (List.mem_flatMap.mpr ⟨p, hp, hf⟩)))))))
theorem fa_exm {y x : Str × List Str} (hy : y ∈ Pg.pg.excs) (hx : x ∈ Pg.pg.excs) : He.Fa.exm y.1 x.1 (y.2.any fun g => decide (g = x.1)) ∈ faOf Pg :=
  List.mem_append_right _ (List.mem_append_right _ (List.mem_append_right _ (List.mem_append_right _ (List.mem_append_right _ (List.mem_append_right _ (List.mem_append_right _ (List.mem_flatMap.mpr ⟨y, hy, List.mem_map.mpr ⟨x, hx, rfl⟩⟩)))))))
theorem all_of (KX : K.In h) (G : h.Ns mainGlobals mg) (c : He.SaysX (faOf Pg) fn (tsOf Pg) [] (exOf Pg) w h K) (D : Dat Pg fn) : All Pg (fxOf K w) mg wf := by
  have nd := D.nd
  unfold ndB at nd
  simp only [Bool.and_eq_true, List.all_eq_true] at nd
  obtain ⟨⟨⟨nd1, nd2⟩, nd3⟩, nd4⟩ := nd
  have nd1 := of_decide_eq_true nd1
  have nd2 := of_decide_eq_true nd2
  have F : ∀ {f : He.Fa}, f ∈ faOf Pg → f.ok K = true := fun hf => c.t.d.facts hf
  have ex : ∀ p ∈ Pg.pg.tabs, tabB K (He.ga K p.1) p.2 = true := List.all_eq_true.mp c.more
  have dicts : ∀ p ∈ Pg.pg.tabs, ∃ es n, KDict K w (He.ga K p.1) es n := fun p hp => by
    obtain ⟨i, hi, e⟩ := List.mem_iff_getElem.mp hp
    refine c.t.tab i (t := (fun K => He.ga K p.1, p.2.map (·.1))) ?_
    unfold tsOf
    rw [List.getElem?_map, List.getElem?_eq_getElem hi, e]
    rfl
  have clsOf : ∀ p ∈ Pg.pg.meths, Cls K (He.ga K p.1.1) ∧ Mk K (He.ga K p.1.1) (He.ma K (He.ga K p.1.1) "__init__") ∧ mg p.1.1 = some (.ref (He.ga K p.1.1)) := fun p hp => by
    obtain ⟨q, hq, e⟩ := List.any_eq_true.mp (nd3 p hp)
    have e := of_decide_eq_true e
    rw [← e]
    exact ⟨He.cls_ok (F (fa_att hq _ List.mem_cons_self)), He.mkr_ok (F (fa_att hq _ (List.mem_cons_of_mem _ List.mem_cons_self))), He.glo_ok KX G (F (fa_att hq _ (List.mem_cons_of_mem _ (List.mem_cons_of_mem _ List.mem_cons_self))))⟩
  refine ⟨⟨fun t r e _ z => ?_, fun t r e _ => ?_, fun cl f e => ?_, fun y x b e => ?_⟩, fun j x d e => ?_, fun j cl m d e => ?_, fun j x l e => ?_, fun j t r e => ?_, fun j x e => ?_, fun j x l e => ?_⟩
  · exact tabB_ok (ex (t, r) (of_lookup e)) z
  · exact dicts (t, r) (of_lookup e)
  · unfold attOf at e
    obtain ⟨g, hg, eg⟩ := List.any_eq_true.mp e
    have eg := of_decide_eq_true eg
    subst eg
    cases q : Pg.pg.atts.lookup cl with
    | none => rw [q] at hg; cases hg
    | some l =>
      rw [q] at hg
      have hm := of_lookup q
      exact ⟨He.cls_ok (F (fa_att hm _ List.mem_cons_self)), He.noat_ok (F (fa_att hm _ (List.mem_cons_of_mem _ (List.mem_cons_of_mem _ (List.mem_cons_of_mem _ (List.mem_map.mpr ⟨g, hg, rfl⟩))))))⟩
  · unfold subOf at e
    split at e
    · rename_i l l2 h1 h2
      cases e
      exact He.exm_ok (F (fa_exm (of_lookup h1) (of_lookup h2)))
    · cases e
  · have hm := List.mem_of_getElem? e
    obtain ⟨i, st, T, ps, hfn, hb, ck, hsc, hs, hn, hp, der⟩ := D.defs _ hm
    obtain ⟨fd, FD⟩ := c.t.d.def_ i hfn
    exact ⟨lookup_of nd1 e, st, T, ps, _, fd, ⟨⟨_, FD⟩, FD.bindsN hb⟩, He.glo_ok KX G (F (fa_def hm)), ck, hsc, C8.fnScope_by hs, hn, hp, fun R k => der R k⟩
  · have hm := List.mem_of_getElem? e
    obtain ⟨i, qual, st, T, ps, hfn, hb, ck, hsc, hs, hn, hp, der⟩ := D.meths _ hm
    obtain ⟨fd, FD⟩ := c.t.d.def_ i hfn
    obtain ⟨h1, h2, h3⟩ := clsOf _ hm
    exact ⟨lookup_of nd2 e, st, T, ps, _, fd, ⟨⟨_, FD⟩, FD.bindsN hb⟩, h1, He.meth_ok (F (fa_meth hm)), ck, hsc, C8.fnScope_by hs, hn, hp, fun em => by subst em; exact ⟨h2, h3⟩, fun R k => der R k⟩
  · have hm := List.mem_of_getElem? e
    have hf := F (fa_glo hm)
    have hk := nd4 _ hm
    cases l with
    | int i =>
      obtain ⟨t, ht⟩ := He.int_ok KX G hf
      exact ⟨_, ht, t, rfl⟩
    | str z =>
      obtain ⟨t, ht⟩ := He.str_ok KX G hf
      exact ⟨_, ht, t, rfl⟩
    | _ => cases hk
  · have hm := List.mem_of_getElem? e
    exact ⟨He.glo_ok KX G (F (fa_tab hm)), dicts _ hm⟩
  · exact He.free_ok KX G (F (fa_blt (List.mem_of_getElem? e)))
  · have hm := List.mem_of_getElem? e
    obtain ⟨h1, h2, h3, h4⟩ := He.exc_ok (F (fa_exc hm _ (List.mem_cons_of_mem _ List.mem_cons_self)))
    exact ⟨He.glo_ok KX G (F (fa_exc hm _ List.mem_cons_self)), ⟨h1, h2, h3, h4⟩⟩
/-- the law's own def -/
def LawS (Pg : PgX) (fn : List He.DefD) (c : S) (n : Nat) : Prop := ∃ (i ib : Nat) (st stb : Stmt) (T Tb : Sc) (px p0 p1 p2 p3 : Pos) (y : Str) (rest : List Stmt), fn[i]? = some ⟨("law", none), "law", "law", defArgs st, defBody st, defScope st, [], []⟩ ∧
  fn[ib]? = some ⟨("_law_begin", none), "_law_begin", "_law_begin", defArgs stb, defBody stb, defScope stb, [], []⟩ ∧ BindF "law" "law" st ["_law_script"] ∧ BindF "_law_begin" "_law_begin" stb ["_law_script"] ∧ T.ok = true ∧ T.sc = defScope st ∧ C8.scC T.N ["_law_script"] (defScope st) = true ∧
  Tb.ok = true ∧ Tb.sc = defScope stb ∧ C8.scC Tb.N ["_law_script"] (defScope stb) = true ∧ Tb.N = [("_law_script" : Str)] ∧
  defBody st = .Assign [.Name y px] (.Call (.Name "_law_begin" p1) [.Name "_law_script" p2] [] p3) p0 :: rest ∧ T.N[0]? = some ("_law_script" : Str) ∧ T.N[1]? = some y ∧ T.is.contains 0 = true ∧ T.ls.contains 1 = true ∧ T.gs[0]? = some ("_law_begin" : Str) ∧
  T.N.length = n ∧ (∀ R k, DSs Pg R k T rest c) ∧ ∀ R k, DSs Pg R k Tb (defBody stb) cBegin
theorem quiet {P : Program} {base : Heap} {k : Nat} {f : Addr} {fd : FuncData} {ps : List Str} {sp : Sp} (hE : ∀ vs H Q E, sp vs H Q E → sp vs H Q L2.E0) (F : FnOk P w K mg base (L2.CX P w) k f fd ps sp) : FnOk P w K mg base L2.CX0 k f fd ps sp :=
  ⟨F.len, fun A outer s H args us vs Q E hr e0 hb r hsp => codeAny_mono (F.run A outer s H args us vs Q L2.E0 hr e0 hb r (hE _ _ _ _ hsp)) fun r s' hq => by
    cases r with
    | error e =>
      obtain ⟨_, _, _, _, _, _, _, _, _, _, _, _, z⟩ := hq
      exact z.elim
    | ok fl =>
      cases fl with
      | ret u => exact hq
      | _ => exact hq.elim⟩
theorem law_facts {f : Addr} {P : Program} {c : S} {n m : Nat} (KX : K.In h) (G : h.Ns mainGlobals mg) (cc : He.SaysX (faOf Pg) fn (tsOf Pg) [] (exOf Pg) w h K) (D : Dat Pg fn) (L : LawS Pg fn c n) (hfa : mg ("law" : Str) = some (.ref f))
    (ev : ∀ ns : List Int, ns.length ≤ 63 → ∃ st', ex (fsOf Pg.pg wf (m + 1)) wf c (lawEnv n) (lawSt ns) = .ret (.bool true) st') :
    ∃ fd : FuncData, (∀ (s : Shared) (v : Value), BindsTo s fd ⟨[v], []⟩ [("_law_script", v)]) ∧ ∀ base : Heap, K.In base → base.Ns mainGlobals mg → FnOk P w K mg base L2.CX0 (2 * (m + 1) + 2) f fd ["_law_script"] (spLaw K) := by
  obtain ⟨i, ib, st, stb, T, Tb, px, p0, p1, p2, p3, y, rest, hfn, hfb, hb, hbb, ck, hsc, hs, ckb, hscb, hsb, hTb, hbody, h0, h1, hi0, hi1, hg, hlen, der, derb⟩ := L
  obtain ⟨fd, FD⟩ := cc.t.d.def_ i hfn
  obtain ⟨fdb, FDb⟩ := cc.t.d.def_ ib hfb
  have F : ∀ {f : He.Fa}, f ∈ faOf Pg → f.ok K = true := fun hf => cc.t.d.facts hf
  have e := hfa.symm.trans (He.glo_ok KX G (F fa_law))
  cases e
  have b := FunD.bindsA (ps := ["_law_script"]) FD hb
  refine ⟨fd, fun s v => b s [v] rfl, fun base _ _ => ?_⟩
  have A : All Pg (fxOf K w) mg wf := all_of KX G cc D
  have lf : LF Pg (rdOf (fxOf K w) (fsOf Pg.pg wf (m + 1))) P w K mg base (2 * (m + 1)) := lf_of A (m + 1)
  have lfm : LF Pg (rdOf (fxOf K w) (fsOf Pg.pg wf m)) P w K mg base (2 * m) := lf_of A m
  have FB : FnOk P w K mg base (L2.CX P w) (2 * m + 2) _ fdb ["_law_script"] (spBegin K) := begin_ok FDb lfm ckb hscb (C8.fnScope_by hsb) rfl (derb _ _) hTb
  have FB' : FnOk P w K mg base (L2.CX P w) (2 * (m + 1)) _ fdb ["_law_script"] (spBegin K) := FB.mono (by omega)
  subst hlen
  refine quiet (fun _ _ _ _ h => h) ?_
  exact law_ok (wf := wf) FD lf (fsOk_of A.st wf (m + 1)) ck hsc (C8.fnScope_by hs) rfl FB' (He.glo_ok KX G (F fa_begin)) FDb.kp (FDb.bindsN hbb) hbody h0 h1 hi0 hi1 hg (der _ _) ev
end
end Pm

namespace Cd
open PySem PySem.Spec L2 RZ Pm
def c_is_number : Pm.S := (.ret (.and (.isi (.var 0) .int) (.and (.not (.isi (.var 0) .bool)) (.chain .le .lt (.lit (.int 0)) (.var 0) (.var 1)))))
def D_is_number : Pm.Def := ⟨2, 2, c_is_number⟩
def c_is_statement : Pm.S := (.seq (.ife (.or (.not (.e (.isi (.var 1) .tuple))) (.or (.not (.e (.var 1))) (.or (.not (.e (.isi (.idx (.var 1) (.lit (.int 0))) .str))) (.e (.tabIn "SIZES" true (.idx (.var 1) (.lit (.int 0)))))))) (.ret (.lit (.bl false))) .skip) (.seq (.ife (.or (.e (.cmp .ne (.blt .len (.cons (.var 1) .nil)) (.tabGet "SIZES" (.idx (.var 1) (.lit (.int 0)))))) (.not (.e (.blt .all (.cons (.lc [2] (.nm 2) (.seq (.sl (.var 1) (.some (.lit (.int 1))) .none)) .none (.call "is_number" (.cons (.var 2) (.cons (.var 0) .nil)))) .nil))))) (.ret (.lit (.bl false))) .skip) (.ret (.cmp .eq (.lenDc [2] (.nm 2) (.seq (.sl (.var 1) (.some (.lit (.int 1))) .none)) (.var 2) (.lit (.bl true))) (.bin .sub (.blt .len (.cons (.var 1) .nil)) (.lit (.int 1)))))))
def D_is_statement : Pm.Def := ⟨2, 3, c_is_statement⟩
def c_check_statement : Pm.S := (.ife (.not (.e (.call "is_statement" (.cons (.var 0) (.cons (.var 1) .nil))))) (.sraise "BadStatement") .skip)
def D_check_statement : Pm.Def := ⟨2, 2, c_check_statement⟩
def c_check_facts : Pm.S := (.ife (.or (.not (.e (.isi (.var 1) .list))) (.or (.e (.cmp .gt (.blt .len (.cons (.var 1) .nil)) (.glo "MOST_FACTS" (.int 8)))) (.not (.e (.blt .all (.cons (.lc [2] (.nm 2) (.seq (.var 1)) .none (.call "is_statement" (.cons (.var 0) (.cons (.var 2) .nil)))) .nil)))))) (.sraise "BadStatement") .skip)
def D_check_facts : Pm.Def := ⟨2, 3, c_check_facts⟩
def c_opposite : Pm.S := (.seq (.drop (.call "check_statement" (.cons (.glo "MOST_SHEETS" (.int 4)) (.cons (.var 0) .nil)))) (.ret (.bin .add (.tup (.cons (.tabGet "OPPOSITES" (.idx (.var 0) (.lit (.int 0)))) .nil)) (.sl (.var 0) (.some (.lit (.int 1))) .none))))
def D_opposite : Pm.Def := ⟨1, 1, c_opposite⟩
def c_fits_on : Pm.S := (.ret (.and (.cmp .lt (.idx (.var 0) (.lit (.int 0))) (.idx (.var 1) (.lit (.int 0)))) (.cmp .lt (.idx (.var 0) (.lit (.int 1))) (.idx (.var 1) (.lit (.int 1))))))
def D_fits_on : Pm.Def := ⟨2, 2, c_fits_on⟩
def c_fit_both : Pm.S := (.seq (.sfor (.nm 3) (.seq (.tup (.cons (.lit (.int 0)) (.cons (.lit (.int 1)) .nil)))) (.sfor (.nm 4) (.seq (.tup (.cons (.lit (.int 0)) (.cons (.lit (.int 1)) .nil)))) (.sfor (.nm 5) (.seq (.tup (.cons (.lit (.int 0)) (.cons (.lit (.int 1)) .nil)))) (.ife (.and (.e (.cmp .lt (.bin .add (.idx (.var 0) (.var 4)) (.idx (.var 1) (.var 5))) (.idx (.var 2) (.var 3)))) (.and (.e (.cmp .lt (.idx (.var 0) (.bin .sub (.lit (.int 1)) (.var 4))) (.idx (.var 2) (.bin .sub (.lit (.int 1)) (.var 3))))) (.e (.cmp .lt (.idx (.var 1) (.bin .sub (.lit (.int 1)) (.var 5))) (.idx (.var 2) (.bin .sub (.lit (.int 1)) (.var 3))))))) (.ret (.lit (.bl true))) .skip)))) (.ret (.lit (.bl false))))
def D_fit_both : Pm.Def := ⟨3, 6, c_fit_both⟩
def c_is_so : Pm.S := (.seq (.ife (.e (.cmp .eq (.var 0) (.lit (.str "on")))) (.ret (.call "fits_on" (.cons (.idx (.var 1) (.lit (.int 0))) (.cons (.idx (.var 1) (.lit (.int 1))) .nil)))) .skip) (.seq (.ife (.e (.cmp .eq (.var 0) (.lit (.str "like")))) (.ret (.cmp .eq (.idx (.var 1) (.lit (.int 0))) (.idx (.var 1) (.lit (.int 1))))) .skip) (.ret (.call "fit_both" (.cons (.idx (.var 1) (.lit (.int 0))) (.cons (.idx (.var 1) (.lit (.int 1))) (.cons (.idx (.var 1) (.lit (.int 2))) .nil)))))))
def D_is_so : Pm.Def := ⟨2, 2, c_is_so⟩
def c_holds : Pm.S := (.seq (.drop (.call "check_statement" (.cons (.blt .len (.cons (.var 1) .nil)) (.cons (.var 0) .nil)))) (.seq (.asg 2 (.lc [3] (.nm 3) (.seq (.sl (.var 0) (.some (.lit (.int 1))) .none)) .none (.blt .tuple (.cons (.idx (.var 1) (.var 3)) .nil)))) (.seq (.ife (.e (.cmp .inn (.idx (.var 0) (.lit (.int 0))) (.tup (.cons (.lit (.str "on")) (.cons (.lit (.str "like")) (.cons (.lit (.str "both")) .nil)))))) (.ret (.call "is_so" (.cons (.idx (.var 0) (.lit (.int 0))) (.cons (.var 2) .nil)))) .skip) (.ret (.not (.call "is_so" (.cons (.tabGet "OPPOSITES" (.idx (.var 0) (.lit (.int 0)))) (.cons (.var 2) .nil))))))))
def D_holds : Pm.Def := ⟨2, 4, c_holds⟩
def c_keeps : Pm.S := (.seq (.drop (.call "check_facts" (.cons (.blt .len (.cons (.var 1) .nil)) (.cons (.var 0) .nil)))) (.ret (.blt .all (.cons (.lc [2] (.nm 2) (.seq (.var 0)) .none (.call "holds" (.cons (.var 2) (.cons (.var 1) .nil)))) .nil))))
def D_keeps : Pm.Def := ⟨2, 3, c_keeps⟩
def c__law_begin : Pm.S := (.ret (.lst (.cons (.blt .list (.cons (.var 0) .nil)) (.cons (.lit (.int 0)) (.cons (.lit (.int 0)) (.cons (.lit (.int 7)) .nil))))))
def D__law_begin : Pm.Def := ⟨1, 1, c__law_begin⟩
def c__law_draw : Pm.S := (.seq (.ife (.e (.cmp .eq (.idxV 0 (.lit (.int 2))) (.lit (.int 0)))) (.ife (.e (.cmp .lt (.idxV 0 (.lit (.int 1))) (.blt .len (.cons (.idxV 0 (.lit (.int 0))) .nil)))) (.seq (.asg 2 (.idx (.idxV 0 (.lit (.int 0))) (.idxV 0 (.lit (.int 1))))) (.seq (.setI 0 (.lit (.int 1)) (.bin .add (.idxV 0 (.lit (.int 1))) (.lit (.int 1)))) (.ife (.e (.cmp .ge (.var 2) (.bin .pow (.lit (.int 10)) (.lit (.int 18))))) (.setI 0 (.lit (.int 2)) (.var 2)) (.setI 0 (.lit (.int 3)) (.bin .mod (.blt .int (.cons (.bin .add (.bin .add (.bin .mul (.idxV 0 (.lit (.int 3))) (.lit (.int 48271))) (.bin .mul (.var 2) (.lit (.int 69621)))) (.lit (.int 11))) .nil)) (.lit (.int 2147483647))))))) (.setI 0 (.lit (.int 3)) (.bin .mod (.blt .int (.cons (.bin .add (.bin .mul (.idxV 0 (.lit (.int 3))) (.lit (.int 48271))) (.lit (.int 7))) .nil)) (.lit (.int 2147483647))))) .skip) (.seq (.ife (.e (.cmp .gt (.idxV 0 (.lit (.int 2))) (.lit (.int 0)))) (.seq (.asg 3 (.bin .mod (.blt .int (.cons (.idxV 0 (.lit (.int 2))) .nil)) (.var 1))) (.seq (.setI 0 (.lit (.int 2)) (.bin .fdiv (.idxV 0 (.lit (.int 2))) (.var 1))) (.ret (.var 3)))) .skip) (.ret (.bin .mod (.bin .mod (.blt .int (.cons (.bin .mul (.idxV 0 (.lit (.int 3))) (.lit (.int 16807))) .nil)) (.lit (.int 2147483629))) (.var 1)))))
def D__law_draw : Pm.Def := ⟨2, 4, c__law_draw⟩
def c__law_words : Pm.S := (.ret (.lst (.cons (.lit (.str "on")) (.cons (.lit (.str "off")) (.cons (.lit (.str "like")) (.cons (.lit (.str "unlike")) (.cons (.lit (.str "both")) (.cons (.lit (.str "notboth")) .nil))))))))
def D__law_words : Pm.Def := ⟨0, 0, c__law_words⟩
def c__law_statement : Pm.S := (.seq (.asg 2 (.idx (.lst (.cons (.lit (.int 6)) (.cons (.lit (.int 4)) (.cons (.lit (.int 4)) .nil)))) (.blt .min (.cons (.blt .max (.cons (.bin .sub (.lit (.int 3)) (.var 1)) (.cons (.lit (.int 0)) .nil))) (.cons (.lit (.int 2)) .nil))))) (.seq (.asg 3 (.idx (.call "_law_words" .nil) (.call "_law_draw" (.vr 0 (.cons (.var 2) .nil))))) (.seq (.asg 4 (.lrng (.var 1))) (.seq (.asgO 5 (.lst (.cons (.var 3) .nil))) (.seq (.sfor (.nm 6) (.rng1 (.idx (.lst (.cons (.lit (.int 2)) (.cons (.lit (.int 3)) .nil))) (.blt .int (.cons (.cmp .inn (.var 3) (.lst (.cons (.lit (.str "both")) (.cons (.lit (.str "notboth")) .nil)))) .nil)))) (.seq (.asg 7 (.call "_law_draw" (.vr 0 (.cons (.blt .len (.cons (.var 4) .nil)) .nil)))) (.seq (.app 5 (.idx (.var 4) (.var 7))) (.asg 4 (.bin .add (.sl (.var 4) .none (.some (.var 7))) (.sl (.var 4) (.some (.bin .add (.var 7) (.lit (.int 1)))) .none)))))) (.seq (.fz [5]) (.ret (.blt .tuple (.cons (.var 5) .nil)))))))))
def D__law_statement : Pm.Def := ⟨2, 8, c__law_statement⟩
def c__law_facts : Pm.S := (.ret (.lc [3] (.nm 3) (.rng1 (.var 2)) .none (.call "_law_statement" (.vr 0 (.cons (.var 1) .nil)))))
def D__law_facts : Pm.Def := ⟨3, 4, c__law_facts⟩
def c__law_turn : Pm.S := (.seq (.asgD 1 [(.inr "on", (.str "off")), (.inr "off", (.str "on")), (.inr "like", (.str "unlike")), (.inr "unlike", (.str "like")), (.inr "both", (.str "notboth")), (.inr "notboth", (.str "both"))]) (.ret (.bin .add (.tup (.cons (.dget 1 (.idx (.var 0) (.lit (.int 0)))) .nil)) (.sl (.var 0) (.some (.lit (.int 1))) .none))))
def D__law_turn : Pm.Def := ⟨1, 2, c__law_turn⟩
def c__law_holds : Pm.S := (.seq (.asg 2 (.blt .list (.cons (.idx (.var 1) (.idx (.var 0) (.lit (.int 1)))) .nil))) (.seq (.asg 3 (.blt .list (.cons (.idx (.var 1) (.idx (.var 0) (.lit (.int 2)))) .nil))) (.seq (.asg 4 (.idx (.var 0) (.lit (.int 0)))) (.seq (.ife (.e (.cmp .inn (.var 4) (.lst (.cons (.lit (.str "on")) (.cons (.lit (.str "off")) .nil))))) (.ret (.cmp .eq (.and (.cmp .lt (.idx (.var 2) (.lit (.int 0))) (.idx (.var 3) (.lit (.int 0)))) (.cmp .lt (.idx (.var 2) (.lit (.int 1))) (.idx (.var 3) (.lit (.int 1))))) (.cmp .eq (.var 4) (.lit (.str "on"))))) .skip) (.seq (.ife (.e (.cmp .inn (.var 4) (.lst (.cons (.lit (.str "like")) (.cons (.lit (.str "unlike")) .nil))))) (.ret (.cmp .eq (.cmp .eq (.var 2) (.var 3)) (.cmp .eq (.var 4) (.lit (.str "like"))))) .skip) (.seq (.asg 5 (.idx (.var 1) (.idx (.var 0) (.lit (.int 3))))) (.seq (.asg 6 (.lit (.bl false))) (.seq (.sfor (.nm 7) (.seq (.lst (.cons (.var 2) (.cons (.rev (.var 2)) .nil)))) (.sfor (.nm 8) (.seq (.lst (.cons (.var 3) (.cons (.rev (.var 3)) .nil)))) (.sfor (.nm 9) (.seq (.lst (.cons (.lst (.cons (.idx (.var 5) (.lit (.int 0))) (.cons (.idx (.var 5) (.lit (.int 1))) .nil))) (.cons (.lst (.cons (.idx (.var 5) (.lit (.int 1))) (.cons (.idx (.var 5) (.lit (.int 0))) .nil))) .nil)))) (.ife (.and (.e (.cmp .lt (.bin .add (.idx (.var 7) (.lit (.int 0))) (.idx (.var 8) (.lit (.int 0)))) (.idx (.var 9) (.lit (.int 0))))) (.e (.cmp .lt (.blt .max (.cons (.idx (.var 7) (.lit (.int 1))) (.cons (.idx (.var 8) (.lit (.int 1))) .nil))) (.idx (.var 9) (.lit (.int 1)))))) (.asg 6 (.lit (.bl true))) .skip)))) (.ret (.cmp .eq (.var 6) (.cmp .eq (.var 4) (.lit (.str "both")))))))))))))
def D__law_holds : Pm.Def := ⟨2, 10, c__law_holds⟩
def c__law_keeps : Pm.S := (.ret (.cmp .eq (.blt .len (.cons (.lc [2] (.nm 2) (.seq (.var 0)) (.some (.not (.e (.call "_law_holds" (.cons (.var 2) (.cons (.var 1) .nil)))))) (.var 2)) .nil)) (.lit (.int 0))))
def D__law_keeps : Pm.Def := ⟨2, 3, c__law_keeps⟩
def c__law_right : Pm.S := (.seq (.ife (.or (.not (.e (.isi (.var 1) .list))) (.e (.cmp .ne (.blt .len (.cons (.var 1) .nil)) (.var 0)))) (.ret (.lit (.bl false))) .skip) (.seq (.sfor (.nm 2) (.seq (.var 1)) (.seq (.ife (.or (.not (.e (.isi (.var 2) .tuple))) (.or (.e (.cmp .ne (.blt .len (.cons (.var 2) .nil)) (.lit (.int 2)))) (.not (.e (.blt .all (.cons (.lc [3] (.nm 3) (.seq (.var 2)) .none (.isi (.var 3) .int)) .nil)))))) (.ret (.lit (.bl false))) .skip) (.ife (.not (.e (.chain .le .le (.lit (.int 1)) (.idx (.var 2) (.lit (.int 0))) (.idx (.var 2) (.lit (.int 1)))))) (.ret (.lit (.bl false))) .skip))) (.ret (.lit (.bl true)))))
def D__law_right : Pm.Def := ⟨2, 4, c__law_right⟩
def c__law_drawn : Pm.S := (.seq (.asgO 3 (.lst .nil)) (.seq (.sfor (.nm 4) (.rng1 (.var 1)) (.seq (.asg 5 (.bin .add (.lit (.int 1)) (.call "_law_draw" (.vr 0 (.cons (.var 2) .nil))))) (.seq (.asg 6 (.bin .add (.lit (.int 1)) (.call "_law_draw" (.vr 0 (.cons (.var 2) .nil))))) (.app 3 (.tup (.cons (.blt .min (.cons (.var 5) (.cons (.var 6) .nil))) (.cons (.blt .max (.cons (.var 5) (.cons (.var 6) .nil))) .nil))))))) (.seq (.fz [3]) (.ret (.var 3)))))
def D__law_drawn : Pm.Def := ⟨3, 7, c__law_drawn⟩
def c__law_refused : Pm.S := (.seq (.asg 2 (.lit (.bl false))) (.seq (.stry (.ife (.e (.cmp .eq (.var 1) (.lit (.int 0)))) (.drop (.call "holds" (.cons (.var 0) (.cons (.lst (.cons (.tup (.cons (.lit (.int 1)) (.cons (.lit (.int 2)) .nil))) (.cons (.tup (.cons (.lit (.int 2)) (.cons (.lit (.int 3)) .nil))) .nil))) .nil)))) (.ife (.e (.cmp .eq (.var 1) (.lit (.int 1)))) (.drop (.call "opposite" (.cons (.var 0) .nil))) (.drop (.call "keeps" (.cons (.lst (.cons (.tup (.cons (.lit (.str "on")) (.cons (.lit (.int 0)) (.cons (.lit (.int 1)) .nil)))) (.cons (.var 0) .nil))) (.cons (.lst (.cons (.tup (.cons (.lit (.int 1)) (.cons (.lit (.int 2)) .nil))) (.cons (.tup (.cons (.lit (.int 2)) (.cons (.lit (.int 3)) .nil))) .nil))) .nil)))))) "BadStatement" (.asg 2 (.lit (.bl true)))) (.ret (.var 2))))
def D__law_refused : Pm.Def := ⟨2, 3, c__law_refused⟩
def c_line_of : Pm.S := (.seq (.asgD 3 []) (.seq (.sfor (.tp (.nm 4) (.tp (.nm 5) (.tp (.nm 6) .nil))) (.seq (.var 1)) (.dput 3 (.bin .add (.bin .mul (.lit (.int 2)) (.var 4)) (.var 5)) (.bin .add (.dgetOr 3 (.bin .add (.bin .mul (.lit (.int 2)) (.var 4)) (.var 5)) (.lit (.int 0))) (.var 6)))) (.ret (.tup (.cons (.blt .tuple (.cons (.lc [7] (.nm 7) (.rng1 (.bin .mul (.lit (.int 2)) (.var 0))) .none (.dgetOr 3 (.var 7) (.lit (.int 0)))) .nil)) (.cons (.var 2) .nil))))))
def D_line_of : Pm.Def := ⟨3, 8, c_line_of⟩
def c_base : Pm.S := (.seq (.asgO 1 (.lst .nil)) (.seq (.sfor (.nm 2) (.rng1 (.var 0)) (.seq (.app 1 (.call "line_of" (.cons (.var 0) (.cons (.lst (.cons (.tup (.cons (.var 2) (.cons (.lit (.int 0)) (.cons (.lit (.int 1)) .nil)))) .nil)) (.cons (.lit (.int 1)) .nil))))) (.app 1 (.call "line_of" (.cons (.var 0) (.cons (.lst (.cons (.tup (.cons (.var 2) (.cons (.lit (.int 1)) (.cons (.lit (.int 1)) .nil)))) (.cons (.tup (.cons (.var 2) (.cons (.lit (.int 0)) (.cons (.neg (.lit (.int 1))) .nil)))) .nil))) (.cons (.lit (.int 0)) .nil))))))) (.seq (.fz [1]) (.ret (.var 1)))))
def D_base : Pm.Def := ⟨1, 3, c_base⟩
def c_less : Pm.S := (.ret (.call "line_of" (.cons (.var 0) (.cons (.lst (.cons (.tup (.cons (.var 2) (.cons (.var 3) (.cons (.lit (.int 1)) .nil)))) (.cons (.tup (.cons (.var 1) (.cons (.var 3) (.cons (.neg (.lit (.int 1))) .nil)))) .nil))) (.cons (.var 4) .nil)))))
def D_less : Pm.Def := ⟨5, 5, c_less⟩
def c_both_ways : Pm.S := (.seq (.asgO 4 (.lst .nil)) (.seq (.sfor (.nm 5) (.seq (.tup (.cons (.lit (.int 0)) (.cons (.lit (.int 1)) .nil)))) (.sfor (.nm 6) (.seq (.tup (.cons (.lit (.int 0)) (.cons (.lit (.int 1)) .nil)))) (.sfor (.nm 7) (.seq (.tup (.cons (.lit (.int 0)) (.cons (.lit (.int 1)) .nil)))) (.seq (.asg 8 (.call "line_of" (.cons (.var 0) (.cons (.lst (.cons (.tup (.cons (.var 3) (.cons (.var 5) (.cons (.lit (.int 1)) .nil)))) (.cons (.tup (.cons (.var 1) (.cons (.var 6) (.cons (.neg (.lit (.int 1))) .nil)))) (.cons (.tup (.cons (.var 2) (.cons (.var 7) (.cons (.neg (.lit (.int 1))) .nil)))) .nil)))) (.cons (.lit (.int 1)) .nil))))) (.seq (.asg 9 (.call "line_of" (.cons (.var 0) (.cons (.lst (.cons (.tup (.cons (.var 3) (.cons (.bin .sub (.lit (.int 1)) (.var 5)) (.cons (.lit (.int 1)) .nil)))) (.cons (.tup (.cons (.var 1) (.cons (.bin .sub (.lit (.int 1)) (.var 6)) (.cons (.neg (.lit (.int 1))) .nil)))) .nil))) (.cons (.lit (.int 1)) .nil))))) (.app 4 (.lst (.cons (.var 8) (.cons (.var 9) (.cons (.call "line_of" (.cons (.var 0) (.cons (.lst (.cons (.tup (.cons (.var 3) (.cons (.bin .sub (.lit (.int 1)) (.var 5)) (.cons (.lit (.int 1)) .nil)))) (.cons (.tup (.cons (.var 2) (.cons (.bin .sub (.lit (.int 1)) (.var 7)) (.cons (.neg (.lit (.int 1))) .nil)))) .nil))) (.cons (.lit (.int 1)) .nil)))) .nil)))))))))) (.seq (.fz [4]) (.ret (.var 4)))))
def D_both_ways : Pm.Def := ⟨4, 10, c_both_ways⟩
def c_other_line : Pm.S := (.ret (.tup (.cons (.blt .tuple (.cons (.lc [1] (.nm 1) (.seq (.idx (.var 0) (.lit (.int 0)))) .none (.neg (.var 1))) .nil)) (.cons (.lit (.int 0)) .nil))))
def D_other_line : Pm.Def := ⟨1, 2, c_other_line⟩
def c_pair_clauses : Pm.S := (.seq (.ife (.e (.cmp .eq (.var 1) (.lit (.str "on")))) (.ret (.lst (.cons (.lst (.cons (.lst (.cons (.call "less" (.cons (.var 0) (.cons (.var 2) (.cons (.var 3) (.cons (.lit (.int 0)) (.cons (.lit (.int 1)) .nil)))))) (.cons (.call "less" (.cons (.var 0) (.cons (.var 2) (.cons (.var 3) (.cons (.lit (.int 1)) (.cons (.lit (.int 1)) .nil)))))) .nil))) .nil)) .nil))) .skip) (.seq (.ife (.e (.cmp .eq (.var 1) (.lit (.str "off")))) (.ret (.lst (.cons (.lst (.cons (.lst (.cons (.call "less" (.cons (.var 0) (.cons (.var 3) (.cons (.var 2) (.cons (.lit (.int 0)) (.cons (.lit (.int 0)) .nil)))))) .nil)) (.cons (.lst (.cons (.call "less" (.cons (.var 0) (.cons (.var 3) (.cons (.var 2) (.cons (.lit (.int 1)) (.cons (.lit (.int 0)) .nil)))))) .nil)) .nil))) .nil))) .skip) (.seq (.ife (.e (.cmp .eq (.var 1) (.lit (.str "like")))) (.seq (.asg 4 (.lst (.cons (.call "less" (.cons (.var 0) (.cons (.var 3) (.cons (.var 2) (.cons (.lit (.int 0)) (.cons (.lit (.int 0)) .nil)))))) (.cons (.call "less" (.cons (.var 0) (.cons (.var 2) (.cons (.var 3) (.cons (.lit (.int 0)) (.cons (.lit (.int 0)) .nil)))))) (.cons (.call "less" (.cons (.var 0) (.cons (.var 3) (.cons (.var 2) (.cons (.lit (.int 1)) (.cons (.lit (.int 0)) .nil)))))) (.cons (.call "less" (.cons (.var 0) (.cons (.var 2) (.cons (.var 3) (.cons (.lit (.int 1)) (.cons (.lit (.int 0)) .nil)))))) .nil)))))) (.ret (.lst (.cons (.lst (.cons (.var 4) .nil)) .nil)))) .skip) (.seq (.asg 5 (.lst (.cons (.call "less" (.cons (.var 0) (.cons (.var 2) (.cons (.var 3) (.cons (.lit (.int 0)) (.cons (.lit (.int 1)) .nil)))))) (.cons (.call "less" (.cons (.var 0) (.cons (.var 3) (.cons (.var 2) (.cons (.lit (.int 0)) (.cons (.lit (.int 1)) .nil)))))) (.cons (.call "less" (.cons (.var 0) (.cons (.var 2) (.cons (.var 3) (.cons (.lit (.int 1)) (.cons (.lit (.int 1)) .nil)))))) (.cons (.call "less" (.cons (.var 0) (.cons (.var 3) (.cons (.var 2) (.cons (.lit (.int 1)) (.cons (.lit (.int 1)) .nil)))))) .nil)))))) (.ret (.lst (.cons (.lc [6] (.nm 6) (.seq (.var 5)) .none (.lst (.cons (.var 6) .nil))) .nil)))))))
def D_pair_clauses : Pm.Def := ⟨4, 7, c_pair_clauses⟩
def c_clauses : Pm.S := (.seq (.drop (.call "check_statement" (.cons (.var 0) (.cons (.var 1) .nil)))) (.seq (.ife (.e (.cmp .eq (.blt .len (.cons (.var 1) .nil)) (.lit (.int 3)))) (.ret (.call "pair_clauses" (.cons (.var 0) (.cons (.idx (.var 1) (.lit (.int 0))) (.cons (.idx (.var 1) (.lit (.int 1))) (.cons (.idx (.var 1) (.lit (.int 2))) .nil)))))) .skip) (.seq (.asg 2 (.call "both_ways" (.cons (.var 0) (.cons (.idx (.var 1) (.lit (.int 1))) (.cons (.idx (.var 1) (.lit (.int 2))) (.cons (.idx (.var 1) (.lit (.int 3))) .nil)))))) (.seq (.ife (.e (.cmp .eq (.idx (.var 1) (.lit (.int 0))) (.lit (.str "both")))) (.ret (.lst (.cons (.var 2) .nil))) .skip) (.ret (.lc [3] (.nm 3) (.seq (.var 2)) .none (.lc [4] (.nm 4) (.seq (.var 3)) .none (.lst (.cons (.call "other_line" (.cons (.var 4) .nil)) .nil)))))))))
def D_clauses : Pm.Def := ⟨2, 5, c_clauses⟩
def c__law_line : Pm.S := (.seq (.asgO 3 (.lc [7] (.nm 7) (.rng1 (.bin .mul (.lit (.int 2)) (.var 0))) .none (.lit (.int 0)))) (.seq (.sfor (.tp (.nm 4) (.tp (.nm 5) (.tp (.nm 6) .nil))) (.seq (.var 1)) (.setI 3 (.bin .add (.bin .mul (.lit (.int 2)) (.var 4)) (.var 5)) (.bin .add (.idxV 3 (.bin .add (.bin .mul (.lit (.int 2)) (.var 4)) (.var 5))) (.var 6)))) (.seq (.fz [3]) (.ret (.tup (.cons (.blt .tuple (.cons (.var 3) .nil)) (.cons (.var 2) .nil)))))))
def D__law_line : Pm.Def := ⟨3, 8, c__law_line⟩
def c__law_base : Pm.S := (.seq (.asgO 1 (.lst .nil)) (.seq (.sfor (.nm 2) (.rng1 (.var 0)) (.seq (.app 1 (.call "_law_line" (.cons (.var 0) (.cons (.lst (.cons (.tup (.cons (.var 2) (.cons (.lit (.int 0)) (.cons (.lit (.int 1)) .nil)))) .nil)) (.cons (.lit (.int 1)) .nil))))) (.app 1 (.call "_law_line" (.cons (.var 0) (.cons (.lst (.cons (.tup (.cons (.var 2) (.cons (.lit (.int 1)) (.cons (.lit (.int 1)) .nil)))) (.cons (.tup (.cons (.var 2) (.cons (.lit (.int 0)) (.cons (.neg (.lit (.int 1))) .nil)))) .nil))) (.cons (.lit (.int 0)) .nil))))))) (.seq (.fz [1]) (.ret (.var 1)))))
def D__law_base : Pm.Def := ⟨1, 3, c__law_base⟩
def c__law_more : Pm.S := (.ret (.call "_law_line" (.cons (.var 0) (.cons (.lst (.cons (.tup (.cons (.var 1) (.cons (.var 3) (.cons (.lit (.int 1)) .nil)))) (.cons (.tup (.cons (.var 2) (.cons (.var 3) (.cons (.neg (.lit (.int 1))) .nil)))) .nil))) (.cons (.var 4) .nil)))))
def D__law_more : Pm.Def := ⟨5, 5, c__law_more⟩
def c__law_eight : Pm.S := (.seq (.asgO 4 (.lst .nil)) (.seq (.sfor (.nm 5) (.rng1 (.lit (.int 8))) (.seq (.par3 6 7 8 (.bin .fdiv (.var 5) (.lit (.int 4))) (.bin .mod (.bin .fdiv (.var 5) (.lit (.int 2))) (.lit (.int 2))) (.bin .mod (.var 5) (.lit (.int 2)))) (.seq (.asg 9 (.call "_law_line" (.cons (.var 0) (.cons (.lst (.cons (.tup (.cons (.var 3) (.cons (.var 6) (.cons (.lit (.int 1)) .nil)))) (.cons (.tup (.cons (.var 1) (.cons (.var 7) (.cons (.neg (.lit (.int 1))) .nil)))) (.cons (.tup (.cons (.var 2) (.cons (.var 8) (.cons (.neg (.lit (.int 1))) .nil)))) .nil)))) (.cons (.lit (.int 1)) .nil))))) (.seq (.asg 10 (.call "_law_line" (.cons (.var 0) (.cons (.lst (.cons (.tup (.cons (.var 3) (.cons (.bin .sub (.lit (.int 1)) (.var 6)) (.cons (.lit (.int 1)) .nil)))) (.cons (.tup (.cons (.var 1) (.cons (.bin .sub (.lit (.int 1)) (.var 7)) (.cons (.neg (.lit (.int 1))) .nil)))) .nil))) (.cons (.lit (.int 1)) .nil))))) (.app 4 (.lst (.cons (.var 9) (.cons (.var 10) (.cons (.call "_law_line" (.cons (.var 0) (.cons (.lst (.cons (.tup (.cons (.var 3) (.cons (.bin .sub (.lit (.int 1)) (.var 6)) (.cons (.lit (.int 1)) .nil)))) (.cons (.tup (.cons (.var 2) (.cons (.bin .sub (.lit (.int 1)) (.var 8)) (.cons (.neg (.lit (.int 1))) .nil)))) .nil))) (.cons (.lit (.int 1)) .nil)))) .nil))))))))) (.seq (.fz [4]) (.ret (.var 4)))))
def D__law_eight : Pm.Def := ⟨4, 11, c__law_eight⟩
def c__law_clauses : Pm.S := (.seq (.asgG (.tp (.nm 2) (.tp (.nm 3) (.tp (.nm 4) .nil))) (.sl (.var 1) .none (.some (.lit (.int 3))))) (.seq (.ife (.e (.cmp .eq (.var 2) (.lit (.str "on")))) (.ret (.lst (.cons (.lst (.cons (.lst (.cons (.call "_law_more" (.cons (.var 0) (.cons (.var 4) (.cons (.var 3) (.cons (.lit (.int 0)) (.cons (.lit (.int 1)) .nil)))))) (.cons (.call "_law_more" (.cons (.var 0) (.cons (.var 4) (.cons (.var 3) (.cons (.lit (.int 1)) (.cons (.lit (.int 1)) .nil)))))) .nil))) .nil)) .nil))) .skip) (.seq (.ife (.e (.cmp .eq (.var 2) (.lit (.str "off")))) (.ret (.lst (.cons (.lst (.cons (.lst (.cons (.call "_law_more" (.cons (.var 0) (.cons (.var 3) (.cons (.var 4) (.cons (.lit (.int 0)) (.cons (.lit (.int 0)) .nil)))))) .nil)) (.cons (.lst (.cons (.call "_law_more" (.cons (.var 0) (.cons (.var 3) (.cons (.var 4) (.cons (.lit (.int 1)) (.cons (.lit (.int 0)) .nil)))))) .nil)) .nil))) .nil))) .skip) (.seq (.ife (.e (.cmp .eq (.var 2) (.lit (.str "like")))) (.seq (.asg 5 (.lst (.cons (.call "_law_more" (.cons (.var 0) (.cons (.var 3) (.cons (.var 4) (.cons (.lit (.int 0)) (.cons (.lit (.int 0)) .nil)))))) (.cons (.call "_law_more" (.cons (.var 0) (.cons (.var 4) (.cons (.var 3) (.cons (.lit (.int 0)) (.cons (.lit (.int 0)) .nil)))))) .nil)))) (.ret (.lst (.cons (.lst (.cons (.bin .add (.var 5) (.lst (.cons (.call "_law_more" (.cons (.var 0) (.cons (.var 3) (.cons (.var 4) (.cons (.lit (.int 1)) (.cons (.lit (.int 0)) .nil)))))) (.cons (.call "_law_more" (.cons (.var 0) (.cons (.var 4) (.cons (.var 3) (.cons (.lit (.int 1)) (.cons (.lit (.int 0)) .nil)))))) .nil)))) .nil)) .nil)))) .skip) (.seq (.ife (.e (.cmp .eq (.var 2) (.lit (.str "unlike")))) (.seq (.asg 5 (.lst (.cons (.lst (.cons (.call "_law_more" (.cons (.var 0) (.cons (.var 4) (.cons (.var 3) (.cons (.lit (.int 0)) (.cons (.lit (.int 1)) .nil)))))) .nil)) (.cons (.lst (.cons (.call "_law_more" (.cons (.var 0) (.cons (.var 3) (.cons (.var 4) (.cons (.lit (.int 0)) (.cons (.lit (.int 1)) .nil)))))) .nil)) .nil)))) (.ret (.lst (.cons (.bin .add (.var 5) (.lst (.cons (.lst (.cons (.call "_law_more" (.cons (.var 0) (.cons (.var 4) (.cons (.var 3) (.cons (.lit (.int 1)) (.cons (.lit (.int 1)) .nil)))))) .nil)) (.cons (.lst (.cons (.call "_law_more" (.cons (.var 0) (.cons (.var 3) (.cons (.var 4) (.cons (.lit (.int 1)) (.cons (.lit (.int 1)) .nil)))))) .nil)) .nil)))) .nil)))) .skip) (.seq (.asg 6 (.call "_law_eight" (.cons (.var 0) (.cons (.var 3) (.cons (.var 4) (.cons (.idx (.var 1) (.lit (.int 3))) .nil)))))) (.seq (.ife (.e (.cmp .eq (.var 2) (.lit (.str "both")))) (.ret (.lst (.cons (.var 6) .nil))) .skip) (.seq (.asgO 7 (.lst .nil)) (.seq (.sfor (.nm 8) (.seq (.var 6)) (.app 7 (.lc [9] (.nm 9) (.seq (.var 8)) .none (.lst (.cons (.tup (.cons (.blt .tuple (.cons (.lc [10] (.nm 10) (.seq (.idx (.var 9) (.lit (.int 0)))) .none (.neg (.var 10))) .nil)) (.cons (.lit (.int 0)) .nil))) .nil))))) (.seq (.fz [7]) (.ret (.var 7))))))))))))
def D__law_clauses : Pm.Def := ⟨2, 11, c__law_clauses⟩
def c__law_all : Pm.S := (.seq (.asg 2 (.lst .nil)) (.seq (.sfor (.nm 3) (.seq (.var 1)) (.asg 2 (.bin .add (.var 2) (.call "_law_clauses" (.cons (.var 0) (.cons (.var 3) .nil)))))) (.ret (.var 2))))
def D__law_all : Pm.Def := ⟨2, 4, c__law_all⟩
def c__law_sum : Pm.S := (.seq (.ife (.or (.not (.e (.isi (.var 1) .tuple))) (.e (.cmp .ne (.blt .len (.cons (.var 1) .nil)) (.blt .len (.cons (.var 0) .nil))))) (.ret (.lit (.bl false))) .skip) (.seq (.sfor (.nm 2) (.seq (.var 1)) (.ife (.or (.not (.e (.isi (.var 2) .int))) (.or (.e (.isi (.var 2) .bool)) (.e (.cmp .lt (.var 2) (.lit (.int 0)))))) (.ret (.lit (.bl false))) .skip)) (.seq (.sfor (.nm 3) (.rng1 (.blt .len (.cons (.idx (.idx (.var 0) (.lit (.int 0))) (.lit (.int 0))) .nil))) (.ife (.e (.cmp .gt (.blt .sum (.cons (.lc [4] (.nm 4) (.rng1 (.blt .len (.cons (.var 0) .nil))) .none (.bin .mul (.idx (.var 1) (.var 4)) (.idx (.idx (.idx (.var 0) (.var 4)) (.lit (.int 0))) (.var 3)))) .nil)) (.lit (.int 0)))) (.ret (.lit (.bl false))) .skip)) (.ret (.cmp .gt (.blt .sum (.cons (.lc [4] (.nm 4) (.rng1 (.blt .len (.cons (.var 0) .nil))) .none (.bin .mul (.idx (.var 1) (.var 4)) (.idx (.idx (.var 0) (.var 4)) (.lit (.int 1))))) .nil)) (.lit (.int 0)))))))
def D__law_sum : Pm.Def := ⟨2, 5, c__law_sum⟩
def c__law_shown : Pm.S := (.seq (.ife (.or (.not (.e (.isi (.var 2) .tuple))) (.or (.e (.cmp .lt (.blt .len (.cons (.var 2) .nil)) (.lit (.int 2)))) (.not (.e (.isi (.idx (.var 2) (.lit (.int 0))) .str))))) (.ret (.lit (.bl false))) .skip) (.seq (.ife (.e (.cmp .eq (.idx (.var 2) (.lit (.int 0))) (.lit (.str "sum")))) (.ret (.and (.cmp .eq (.blt .len (.cons (.var 2) .nil)) (.lit (.int 2))) (.call "_law_sum" (.cons (.var 1) (.cons (.idx (.var 2) (.lit (.int 1))) .nil))))) .skip) (.seq (.ife (.or (.e (.cmp .ne (.idx (.var 2) (.lit (.int 0))) (.lit (.str "ways")))) (.or (.e (.cmp .ne (.blt .len (.cons (.var 2) .nil)) (.lit (.int 3)))) (.or (.not (.e (.isi (.idx (.var 2) (.lit (.int 1))) .int))) (.e (.isi (.idx (.var 2) (.lit (.int 1))) .bool))))) (.ret (.lit (.bl false))) .skip) (.seq (.ife (.or (.not (.e (.chain .le .lt (.lit (.int 0)) (.idx (.var 2) (.lit (.int 1))) (.blt .len (.cons (.var 0) .nil))))) (.not (.e (.isi (.idx (.var 2) (.lit (.int 2))) .tuple)))) (.ret (.lit (.bl false))) .skip) (.seq (.ife (.e (.cmp .ne (.blt .len (.cons (.idx (.var 2) (.lit (.int 2))) .nil)) (.blt .len (.cons (.idx (.var 0) (.idx (.var 2) (.lit (.int 1)))) .nil)))) (.ret (.lit (.bl false))) .skip) (.seq (.sfor (.nm 3) (.rng1 (.blt .len (.cons (.idx (.var 2) (.lit (.int 2))) .nil))) (.ife (.not (.e (.call "_law_shown" (.cons (.var 0) (.cons (.bin .add (.var 1) (.idx (.idx (.var 0) (.idx (.var 2) (.lit (.int 1)))) (.var 3))) (.cons (.idx (.idx (.var 2) (.lit (.int 2))) (.var 3)) .nil)))))) (.ret (.lit (.bl false))) .skip)) (.ret (.lit (.bl true)))))))))
def D__law_shown : Pm.Def := ⟨3, 4, c__law_shown⟩
def c__law_paper : Pm.S := (.ret (.call "_law_shown" (.cons (.call "_law_all" (.cons (.var 0) (.cons (.var 1) .nil))) (.cons (.call "_law_base" (.cons (.var 0) .nil)) (.cons (.var 2) .nil)))))
def D__law_paper : Pm.Def := ⟨3, 3, c__law_paper⟩
def c__law_like : Pm.S := (.seq (.ife (.e (.isi (.var 1) .dict)) (.seq (.ife (.or (.not (.e (.isi (.var 0) .dict))) (.e (.cmp .ne (.blt .list (.cons (.var 0) .nil)) (.blt .list (.cons (.var 1) .nil))))) (.ret (.lit (.bl false))) .skip) (.ret (.blt .all (.cons (.lc [3] (.nm 3) (.seq (.var 1)) .none (.call "_law_like" (.cons (.idx (.var 0) (.var 3)) (.cons (.idx (.var 1) (.var 3)) .nil)))) .nil)))) .skip) (.seq (.ife (.e (.isN (.var 1))) (.ret (.isN (.var 0))) .skip) (.seq (.ife (.e (.isi (.var 1) .bool)) (.ret (.and (.isi (.var 0) .bool) (.cmp .eq (.var 0) (.var 1)))) .skip) (.seq (.ife (.e (.isi (.var 1) .int)) (.ret (.and (.isi (.var 0) .int) (.and (.not (.isi (.var 0) .bool)) (.cmp .eq (.var 0) (.var 1))))) .skip) (.seq (.ife (.e (.isi (.var 1) .str)) (.ret (.and (.isi (.var 0) .str) (.cmp .eq (.var 0) (.var 1)))) .skip) (.seq (.ife (.e (.isi (.var 1) .tuple)) (.ife (.or (.not (.e (.isi (.var 0) .tuple))) (.e (.cmp .ne (.blt .len (.cons (.var 0) .nil)) (.blt .len (.cons (.var 1) .nil))))) (.ret (.lit (.bl false))) .skip) (.ife (.or (.not (.e (.isi (.var 0) .list))) (.e (.cmp .ne (.blt .len (.cons (.var 0) .nil)) (.blt .len (.cons (.var 1) .nil))))) (.ret (.lit (.bl false))) .skip)) (.seq (.sfor (.nm 2) (.rng1 (.blt .len (.cons (.var 1) .nil))) (.ife (.not (.e (.call "_law_like" (.cons (.idx (.var 0) (.var 2)) (.cons (.idx (.var 1) (.var 2)) .nil))))) (.ret (.lit (.bl false))) .skip)) (.ret (.lit (.bl true))))))))))
def D__law_like : Pm.Def := ⟨2, 4, c__law_like⟩
def c__law_kept : Pm.S := (.seq (.asg 2 (.lst .nil)) (.seq (.sfor (.nm 3) (.seq (.var 1)) (.asg 2 (.bin .add (.var 2) (.lst (.cons (.idx (.var 3) (.lit (.int 0))) (.cons (.idx (.var 3) (.lit (.int 1))) .nil)))))) (.ret (.cmp .ge (.blt .sum (.cons (.lc [4] (.nm 4) (.rng1 (.blt .len (.cons (.var 2) .nil))) .none (.bin .mul (.idx (.idx (.var 0) (.lit (.int 0))) (.var 4)) (.idx (.var 2) (.var 4)))) .nil)) (.idx (.var 0) (.lit (.int 1)))))))
def D__law_kept : Pm.Def := ⟨2, 5, c__law_kept⟩
def c__law_met : Pm.S := (.seq (.sfor (.nm 2) (.seq (.var 0)) (.ife (.e (.cmp .eq (.blt .len (.cons (.lc [3] (.nm 3) (.seq (.var 2)) (.some (.not (.e (.call "_law_kept" (.cons (.var 3) (.cons (.var 1) .nil)))))) (.var 3)) .nil)) (.lit (.int 0)))) (.ret (.lit (.bl true))) .skip)) (.ret (.lit (.bl false))))
def D__law_met : Pm.Def := ⟨2, 4, c__law_met⟩
def c_common : Pm.S := (.seq (.swhile (.e (.var 1)) (.par2 0 1 (.var 1) (.bin .mod (.var 0) (.var 1)))) (.ret (.blt .abs (.cons (.var 0) .nil))))
def D_common : Pm.Def := ⟨2, 2, c_common⟩
def c_lowered : Pm.S := (.seq (.asg 1 (.lit (.int 0))) (.seq (.sfor (.nm 2) (.seq (.var 0)) (.asg 1 (.call "common" (.cons (.var 1) (.cons (.var 2) .nil))))) (.ret (.ife (.e (.cmp .le (.var 1) (.lit (.int 1)))) (.var 0) (.lc [2] (.nm 2) (.seq (.var 0)) .none (.bin .fdiv (.var 2) (.var 1)))))))
def D_lowered : Pm.Def := ⟨1, 3, c_lowered⟩
def c_Table___init__ : Pm.S := (.seq (.setA "Table" 0 "size" (.var 2)) (.seq (.setA "Table" 0 "many" (.blt .len (.cons (.var 1) .nil))) (.seq (.setAO "Table" 0 "lines" (.lst .nil)) (.seq (.setAO "Table" 0 "basis" (.lst .nil)) (.seq (.setA "Table" 0 "goal" (.bin .mul (.lst (.cons (.lit (.int 0)) .nil)) (.bin .add (.bin .add (.var 2) (.blt .len (.cons (.var 1) .nil))) (.lit (.int 1))))) (.seq (.sfor (.tp (.nm 3) (.tp (.tp (.nm 4) (.tp (.nm 5) .nil)) .nil)) (.enum (.var 1)) (.seq (.asg 6 (.ife (.e (.var 5)) (.lit (.int 1)) (.neg (.lit (.int 1))))) (.seq (.asg 7 (.lc [9] (.nm 9) (.rng1 (.blt .len (.cons (.var 1) .nil))) .none (.ife (.e (.cmp .eq (.var 9) (.var 3))) (.neg (.var 6)) (.lit (.int 0))))) (.seq (.asg 8 (.bin .add (.bin .add (.lc [10] (.nm 10) (.seq (.var 4)) .none (.bin .mul (.var 6) (.var 10))) (.var 7)) (.lst (.cons (.var 5) .nil)))) (.seq (.appA "Table" 0 "lines" (.var 8)) (.seq (.appA "Table" 0 "basis" (.ife (.e (.var 5)) (.bin .add (.bin .add (.var 2) (.lenV 1)) (.var 3)) (.bin .add (.var 2) (.var 3)))) (.ife (.e (.var 5)) (.setA "Table" 0 "goal" (.bin .add (.lc [11, 12] (.tp (.nm 11) (.tp (.nm 12) .nil)) (.zip (.sl (.att "Table" 0 "goal") .none (.some (.neg (.lit (.int 1))))) (.sl (.var 8) .none (.some (.neg (.lit (.int 1)))))) .none (.bin .sub (.var 11) (.var 12))) (.lst (.cons (.bin .add (.idx (.att "Table" 0 "goal") (.neg (.lit (.int 1)))) (.lit (.int 1))) .nil)))) .skip))))))) (.seq (.fzA "Table" 0 "lines") (.seq (.fzA "Table" 0 "basis") .skip))))))))
def D_Table___init__ : Pm.Def := ⟨3, 13, c_Table___init__⟩
def c_Table_entering : Pm.S := (.seq (.sfor (.tp (.nm 1) (.tp (.nm 2) .nil)) (.enum (.sl (.att "Table" 0 "goal") .none (.some (.neg (.lit (.int 1)))))) (.ife (.e (.cmp .lt (.var 2) (.lit (.int 0)))) (.ret (.var 1)) .skip)) (.ret (.lit .non)))
def D_Table_entering : Pm.Def := ⟨1, 3, c_Table_entering⟩
def c_Table_is_before : Pm.S := (.seq (.asg 4 (.bin .mul (.idx (.idx (.att "Table" 0 "lines") (.var 1)) (.neg (.lit (.int 1)))) (.idx (.idx (.att "Table" 0 "lines") (.var 2)) (.var 3)))) (.seq (.asg 5 (.bin .mul (.idx (.idx (.att "Table" 0 "lines") (.var 2)) (.neg (.lit (.int 1)))) (.idx (.idx (.att "Table" 0 "lines") (.var 1)) (.var 3)))) (.ret (.or (.cmp .lt (.var 4) (.var 5)) (.and (.cmp .eq (.var 4) (.var 5)) (.cmp .lt (.idx (.att "Table" 0 "basis") (.var 1)) (.idx (.att "Table" 0 "basis") (.var 2))))))))
def D_Table_is_before : Pm.Def := ⟨4, 6, c_Table_is_before⟩
def c_Table_leaving : Pm.S := (.seq (.asg 2 (.lit .non)) (.seq (.sfor (.tp (.nm 3) (.tp (.nm 4) .nil)) (.enum (.att "Table" 0 "lines")) (.ife (.and (.e (.cmp .gt (.idx (.var 4) (.var 1)) (.lit (.int 0)))) (.or (.e (.isN (.var 2))) (.e (.meth "Table" "is_before" 0 (.cons (.var 3) (.cons (.var 2) (.cons (.var 1) .nil))))))) (.asg 2 (.var 3)) .skip)) (.ret (.var 2))))
def D_Table_leaving : Pm.Def := ⟨2, 5, c_Table_leaving⟩
def c_Table_pivot : Pm.S := (.seq (.asg 3 (.idx (.att "Table" 0 "lines") (.var 1))) (.seq (.asg 4 (.idx (.var 3) (.var 2))) (.seq (.asgO 5 (.lst .nil)) (.seq (.sfor (.tp (.nm 6) (.tp (.nm 7) .nil)) (.enum (.att "Table" 0 "lines")) (.ife (.or (.e (.cmp .eq (.var 6) (.var 1))) (.e (.cmp .eq (.idx (.var 7) (.var 2)) (.lit (.int 0))))) (.app 5 (.var 7)) (.app 5 (.call "lowered" (.cons (.lc [10, 11] (.tp (.nm 10) (.tp (.nm 11) .nil)) (.zip (.var 7) (.var 3)) .none (.bin .sub (.bin .mul (.var 10) (.var 4)) (.bin .mul (.var 11) (.idx (.var 7) (.var 2))))) .nil))))) (.seq (.asg 8 (.lc [10, 11] (.tp (.nm 10) (.tp (.nm 11) .nil)) (.zip (.sl (.att "Table" 0 "goal") .none (.some (.neg (.lit (.int 1))))) (.sl (.var 3) .none (.some (.neg (.lit (.int 1)))))) .none (.bin .sub (.bin .mul (.var 10) (.var 4)) (.bin .mul (.var 11) (.idx (.att "Table" 0 "goal") (.var 2)))))) (.seq (.asg 9 (.bin .add (.bin .mul (.idx (.att "Table" 0 "goal") (.neg (.lit (.int 1)))) (.var 4)) (.bin .mul (.idx (.att "Table" 0 "goal") (.var 2)) (.idx (.var 3) (.neg (.lit (.int 1))))))) (.seq (.setA "Table" 0 "goal" (.call "lowered" (.cons (.bin .add (.var 8) (.lst (.cons (.var 9) .nil))) .nil))) (.seq (.fz [5]) (.seq (.setA "Table" 0 "lines" (.var 5)) (.setA "Table" 0 "basis" (.lc [6, 10] (.tp (.nm 6) (.tp (.nm 10) .nil)) (.enum (.att "Table" 0 "basis")) .none (.ife (.e (.cmp .eq (.var 6) (.var 1))) (.var 2) (.var 10)))))))))))))
def D_Table_pivot : Pm.Def := ⟨3, 12, c_Table_pivot⟩
def c_Table_run : Pm.S := (.seq (.asg 1 (.meth "Table" "entering" 0 .nil)) (.swhile (.and (.e (.cmp .gt (.idx (.att "Table" 0 "goal") (.neg (.lit (.int 1)))) (.lit (.int 0)))) (.e (.notN (.var 1)))) (.seq (.drop (.meth "Table" "pivot" 0 (.cons (.meth "Table" "leaving" 0 (.cons (.var 1) .nil)) (.cons (.var 1) .nil)))) (.asg 1 (.meth "Table" "entering" 0 .nil)))))
def D_Table_run : Pm.Def := ⟨1, 2, c_Table_run⟩
def c_Table_values : Pm.S := (.seq (.asgO 1 (.bin .mul (.lst (.cons (.lit (.int 0)) .nil)) (.att "Table" 0 "size"))) (.seq (.asgO 2 (.bin .mul (.lst (.cons (.lit (.int 1)) .nil)) (.att "Table" 0 "size"))) (.seq (.sfor (.tp (.nm 3) (.tp (.nm 4) .nil)) (.zip (.att "Table" 0 "lines") (.att "Table" 0 "basis")) (.ife (.e (.cmp .lt (.var 4) (.att "Table" 0 "size"))) (.set2 1 2 (.var 4) (.var 4) (.idx (.var 3) (.neg (.lit (.int 1)))) (.idx (.var 3) (.var 4))) .skip)) (.seq (.asg 5 (.lit (.int 1))) (.seq (.fz [2]) (.seq (.sfor (.nm 6) (.seq (.var 2)) (.asg 5 (.bin .fdiv (.bin .mul (.var 5) (.var 6)) (.call "common" (.cons (.var 5) (.cons (.var 6) .nil)))))) (.seq (.fz [1, 2]) (.ret (.lc [7, 6] (.tp (.nm 7) (.tp (.nm 6) .nil)) (.zip (.var 1) (.var 2)) .none (.bin .fdiv (.bin .mul (.var 7) (.var 5)) (.var 6)))))))))))
def D_Table_values : Pm.Def := ⟨1, 8, c_Table_values⟩
def c_Table_numbers : Pm.S := (.ret (.blt .tuple (.cons (.sl (.att "Table" 0 "goal") (.some (.att "Table" 0 "size")) (.some (.bin .add (.att "Table" 0 "size") (.att "Table" 0 "many")))) .nil)))
def D_Table_numbers : Pm.Def := ⟨1, 1, c_Table_numbers⟩
def c_solved : Pm.S := (.seq (.mk 2 "Table" (.cons (.var 0) (.cons (.var 1) .nil))) (.seq (.drop (.meth "Table" "run" 2 .nil)) (.seq (.ife (.e (.cmp .gt (.idx (.att "Table" 2 "goal") (.neg (.lit (.int 1)))) (.lit (.int 0)))) (.ret (.tup (.cons (.lit (.str "no")) (.cons (.meth "Table" "numbers" 2 .nil) .nil)))) .skip) (.ret (.tup (.cons (.lit (.str "yes")) (.cons (.blt .tuple (.cons (.meth "Table" "values" 2 .nil) .nil)) .nil)))))))
def D_solved : Pm.Def := ⟨2, 3, c_solved⟩
def c_all_clauses : Pm.S := (.ret (.lc2 [2, 3] [3] (.nm 2) (.seq (.var 1)) .none (.nm 3) (.seq (.call "clauses" (.cons (.var 0) (.cons (.var 2) .nil)))) .none (.var 3)))
def D_all_clauses : Pm.Def := ⟨2, 4, c_all_clauses⟩
def c_is_kept : Pm.S := (.ret (.cmp .ge (.blt .sum (.cons (.lc [2, 3] (.tp (.nm 2) (.tp (.nm 3) .nil)) (.zip (.idx (.var 0) (.lit (.int 0))) (.var 1)) .none (.bin .mul (.var 2) (.var 3))) .nil)) (.idx (.var 0) (.lit (.int 1)))))
def D_is_kept : Pm.Def := ⟨2, 4, c_is_kept⟩
def c_is_met : Pm.S := (.ret (.blt .any (.cons (.lc [2] (.nm 2) (.seq (.var 0)) .none (.blt .all (.cons (.lc [3] (.nm 3) (.seq (.var 2)) .none (.call "is_kept" (.cons (.var 3) (.cons (.var 1) .nil)))) .nil))) .nil)))
def D_is_met : Pm.Def := ⟨2, 4, c_is_met⟩
def c_standing : Pm.S := (.ret (.blt .len (.cons (.lc [3] (.nm 3) (.seq (.var 0)) (.some (.e (.cmp .eq (.idx (.call "solved" (.cons (.bin .add (.var 1) (.var 3)) (.cons (.var 2) .nil))) (.lit (.int 0))) (.lit (.str "yes"))))) (.var 3)) .nil)))
def D_standing : Pm.Def := ⟨3, 4, c_standing⟩
def c_narrowest : Pm.S := (.seq (.asg 4 (.lc [6] (.nm 6) (.seq (.var 1)) (.some (.e (.cmp .eq (.blt .len (.cons (.idx (.var 0) (.var 6)) .nil)) (.lit (.int 1))))) (.var 6))) (.seq (.ife (.e (.var 4)) (.ret (.idx (.var 4) (.lit (.int 0)))) .skip) (.seq (.asg 5 (.lc [6] (.nm 6) (.seq (.var 1)) .none (.tup (.cons (.call "standing" (.cons (.idx (.var 0) (.var 6)) (.cons (.var 2) (.cons (.var 3) .nil)))) (.cons (.var 6) .nil))))) (.ret (.idx (.idx (.blt .sorted (.cons (.var 5) .nil)) (.lit (.int 0))) (.lit (.int 1)))))))
def D_narrowest : Pm.Def := ⟨4, 7, c_narrowest⟩
def c_sought : Pm.S := (.seq (.asgG (.tp (.nm 3) (.tp (.nm 4) .nil)) (.call "solved" (.cons (.var 1) (.cons (.var 2) .nil)))) (.seq (.ife (.e (.cmp .eq (.var 3) (.lit (.str "no")))) (.ret (.tup (.cons (.var 3) (.cons (.tup (.cons (.lit (.str "sum")) (.cons (.var 4) .nil))) .nil)))) .skip) (.seq (.asg 5 (.lc [9, 10] (.tp (.nm 9) (.tp (.nm 10) .nil)) (.enum (.var 0)) (.some (.not (.e (.call "is_met" (.cons (.var 10) (.cons (.var 4) .nil)))))) (.var 9))) (.seq (.ife (.not (.e (.var 5))) (.ret (.tup (.cons (.var 3) (.cons (.var 4) .nil)))) .skip) (.seq (.asg 6 (.call "narrowest" (.cons (.var 0) (.cons (.var 5) (.cons (.var 1) (.cons (.var 2) .nil)))))) (.seq (.asgO 7 (.lst .nil)) (.seq (.sfor (.nm 8) (.seq (.idx (.var 0) (.var 6))) (.seq (.asgG (.tp (.nm 3) (.tp (.nm 4) .nil)) (.call "sought" (.cons (.var 0) (.cons (.bin .add (.var 1) (.var 8)) (.cons (.var 2) .nil))))) (.seq (.ife (.e (.cmp .eq (.var 3) (.lit (.str "yes")))) (.ret (.tup (.cons (.var 3) (.cons (.var 4) .nil)))) .skip) (.app 7 (.var 4))))) (.seq (.fz [7]) (.ret (.tup (.cons (.lit (.str "no")) (.cons (.tup (.cons (.lit (.str "ways")) (.cons (.var 6) (.cons (.blt .tuple (.cons (.var 7) .nil)) .nil)))) .nil))))))))))))
def D_sought : Pm.Def := ⟨3, 11, c_sought⟩
def c_answered : Pm.S := (.ret (.call "sought" (.cons (.call "all_clauses" (.cons (.var 0) (.cons (.var 1) .nil))) (.cons (.call "base" (.cons (.var 0) .nil)) (.cons (.bin .mul (.lit (.int 2)) (.var 0)) .nil)))))
def D_answered : Pm.Def := ⟨2, 2, c_answered⟩
def c_as_sizes : Pm.S := (.ret (.lc [1] (.nm 1) (.rng3 (.lit (.int 0)) (.blt .len (.cons (.var 0) .nil)) (.lit (.int 2))) .none (.tup (.cons (.idx (.var 0) (.var 1)) (.cons (.idx (.var 0) (.bin .add (.var 1) (.lit (.int 1)))) .nil)))))
def D_as_sizes : Pm.Def := ⟨1, 2, c_as_sizes⟩
def c_found_sizes : Pm.S := (.seq (.asgG (.tp (.nm 2) (.tp (.nm 3) .nil)) (.call "answered" (.cons (.var 0) (.cons (.var 1) .nil)))) (.ret (.ife (.e (.cmp .eq (.var 2) (.lit (.str "yes")))) (.call "as_sizes" (.cons (.var 3) .nil)) (.lit .non))))
def D_found_sizes : Pm.Def := ⟨2, 4, c_found_sizes⟩
def c_sizes_for : Pm.S := (.seq (.drop (.call "check_facts" (.cons (.var 0) (.cons (.var 1) .nil)))) (.ret (.call "found_sizes" (.cons (.var 0) (.cons (.var 1) .nil)))))
def D_sizes_for : Pm.Def := ⟨2, 2, c_sizes_for⟩
def c_judged : Pm.S := (.seq (.asg 3 (.notN (.call "found_sizes" (.cons (.var 0) (.cons (.bin .add (.var 1) (.lst (.cons (.var 2) .nil))) .nil))))) (.seq (.asg 4 (.notN (.call "found_sizes" (.cons (.var 0) (.cons (.bin .add (.var 1) (.lst (.cons (.call "opposite" (.cons (.var 2) .nil)) .nil))) .nil))))) (.seq (.ife (.e (.var 3)) (.ret (.ife (.e (.var 4)) (.lit (.str "open")) (.lit (.str "sure")))) .skip) (.ret (.ife (.e (.var 4)) (.lit (.str "never")) (.lit (.str "none")))))))
def D_judged : Pm.Def := ⟨3, 5, c_judged⟩
def c_verdict : Pm.S := (.seq (.drop (.call "check_facts" (.cons (.var 0) (.cons (.var 1) .nil)))) (.seq (.drop (.call "check_statement" (.cons (.var 0) (.cons (.var 2) .nil)))) (.ret (.call "judged" (.cons (.var 0) (.cons (.var 1) (.cons (.var 2) .nil)))))))
def D_verdict : Pm.Def := ⟨3, 3, c_verdict⟩
def c_paper : Pm.S := (.seq (.drop (.call "check_facts" (.cons (.var 0) (.cons (.var 1) .nil)))) (.seq (.asgG (.tp (.nm 2) (.tp (.nm 3) .nil)) (.call "answered" (.cons (.var 0) (.cons (.var 1) .nil)))) (.ret (.ife (.e (.cmp .eq (.var 2) (.lit (.str "no")))) (.var 3) (.lit .non)))))
def D_paper : Pm.Def := ⟨2, 4, c_paper⟩
def c__law_either : Pm.S := (.seq (.asg 2 (.call "sizes_for" (.cons (.var 0) (.cons (.var 1) .nil)))) (.seq (.asg 3 (.call "paper" (.cons (.var 0) (.cons (.var 1) .nil)))) (.seq (.ife (.e (.cmp .eq (.isN (.var 2)) (.isN (.var 3)))) (.ret (.lit .non)) .skip) (.seq (.ife (.and (.e (.notN (.var 2))) (.not (.and (.e (.call "_law_right" (.cons (.var 0) (.cons (.var 2) .nil)))) (.e (.call "_law_keeps" (.cons (.var 1) (.cons (.var 2) .nil))))))) (.ret (.lit .non)) .skip) (.seq (.ife (.and (.e (.notN (.var 3))) (.not (.e (.call "_law_paper" (.cons (.var 0) (.cons (.var 1) (.cons (.var 3) .nil))))))) (.ret (.lit .non)) .skip) (.ret (.notN (.var 2))))))))
def D__law_either : Pm.Def := ⟨2, 4, c__law_either⟩
def c_is_whole : Pm.S := (.ret (.and (.isi (.var 0) .int) (.not (.isi (.var 0) .bool))))
def D_is_whole : Pm.Def := ⟨1, 1, c_is_whole⟩
def c_shows_sum : Pm.S := (.seq (.ife (.or (.not (.e (.isi (.var 1) .tuple))) (.e (.cmp .ne (.blt .len (.cons (.var 1) .nil)) (.blt .len (.cons (.var 0) .nil))))) (.ret (.lit (.bl false))) .skip) (.seq (.ife (.not (.e (.blt .all (.cons (.lc [3] (.nm 3) (.seq (.var 1)) .none (.and (.call "is_whole" (.cons (.var 3) .nil)) (.cmp .ge (.var 3) (.lit (.int 0))))) .nil)))) (.ret (.lit (.bl false))) .skip) (.seq (.sfor (.nm 2) (.rng1 (.blt .len (.cons (.idx (.idx (.var 0) (.lit (.int 0))) (.lit (.int 0))) .nil))) (.ife (.e (.cmp .gt (.blt .sum (.cons (.lc [3, 4] (.tp (.nm 3) (.tp (.nm 4) .nil)) (.zip (.var 1) (.var 0)) .none (.bin .mul (.var 3) (.idx (.idx (.var 4) (.lit (.int 0))) (.var 2)))) .nil)) (.lit (.int 0)))) (.ret (.lit (.bl false))) .skip)) (.ret (.cmp .gt (.blt .sum (.cons (.lc [3, 4] (.tp (.nm 3) (.tp (.nm 4) .nil)) (.zip (.var 1) (.var 0)) .none (.bin .mul (.var 3) (.idx (.var 4) (.lit (.int 1))))) .nil)) (.lit (.int 0)))))))
def D_shows_sum : Pm.Def := ⟨2, 5, c_shows_sum⟩
def c_shows_at : Pm.S := (.seq (.ife (.or (.not (.e (.isi (.var 2) .tuple))) (.or (.e (.cmp .lt (.blt .len (.cons (.var 2) .nil)) (.lit (.int 2)))) (.not (.e (.isi (.idx (.var 2) (.lit (.int 0))) .str))))) (.ret (.lit (.bl false))) .skip) (.seq (.ife (.e (.cmp .eq (.idx (.var 2) (.lit (.int 0))) (.lit (.str "sum")))) (.ret (.and (.cmp .eq (.blt .len (.cons (.var 2) .nil)) (.lit (.int 2))) (.call "shows_sum" (.cons (.var 1) (.cons (.idx (.var 2) (.lit (.int 1))) .nil))))) .skip) (.seq (.ife (.or (.e (.cmp .ne (.idx (.var 2) (.lit (.int 0))) (.lit (.str "ways")))) (.or (.e (.cmp .ne (.blt .len (.cons (.var 2) .nil)) (.lit (.int 3)))) (.or (.not (.e (.call "is_whole" (.cons (.idx (.var 2) (.lit (.int 1))) .nil)))) (.not (.e (.chain .le .lt (.lit (.int 0)) (.idx (.var 2) (.lit (.int 1))) (.blt .len (.cons (.var 0) .nil)))))))) (.ret (.lit (.bl false))) .skip) (.seq (.asg 3 (.idx (.var 0) (.idx (.var 2) (.lit (.int 1))))) (.seq (.ife (.or (.not (.e (.isi (.idx (.var 2) (.lit (.int 2))) .tuple))) (.e (.cmp .ne (.blt .len (.cons (.idx (.var 2) (.lit (.int 2))) .nil)) (.blt .len (.cons (.var 3) .nil))))) (.ret (.lit (.bl false))) .skip) (.ret (.blt .all (.cons (.lc [4, 5] (.tp (.nm 4) (.tp (.nm 5) .nil)) (.zip (.var 3) (.idx (.var 2) (.lit (.int 2)))) .none (.call "shows_at" (.cons (.var 0) (.cons (.bin .add (.var 1) (.var 4)) (.cons (.var 5) .nil))))) .nil))))))))
def D_shows_at : Pm.Def := ⟨3, 6, c_shows_at⟩
def c_shows : Pm.S := (.seq (.drop (.call "check_facts" (.cons (.var 0) (.cons (.var 1) .nil)))) (.ret (.call "shows_at" (.cons (.call "all_clauses" (.cons (.var 0) (.cons (.var 1) .nil))) (.cons (.call "base" (.cons (.var 0) .nil)) (.cons (.var 2) .nil))))))
def D_shows : Pm.Def := ⟨3, 3, c_shows⟩
def c__law_spoilt : Pm.S := (.seq (.ife (.e (.isN (.var 1))) (.ret (.tup (.cons (.lit (.str "sum")) (.cons (.tup (.cons (.lit (.int 0)) (.cons (.lit (.int 1)) .nil))) .nil)))) .skip) (.seq (.ife (.e (.cmp .eq (.idx (.var 1) (.lit (.int 0))) (.lit (.str "sum")))) (.seq (.asgO 2 (.blt .list (.cons (.idx (.var 1) (.lit (.int 1))) .nil))) (.seq (.ife (.e (.cmp .gt (.lenV 2) (.lit (.int 0)))) (.setI 2 (.call "_law_draw" (.vr 0 (.cons (.lenV 2) .nil))) (.call "_law_draw" (.vr 0 (.cons (.lit (.int 4)) .nil)))) .skip) (.seq (.fz [2]) (.ret (.tup (.cons (.lit (.str "sum")) (.cons (.blt .tuple (.cons (.var 2) .nil)) .nil))))))) .skip) (.seq (.asgO 3 (.blt .list (.cons (.idx (.var 1) (.lit (.int 2))) .nil))) (.seq (.asg 4 (.call "_law_draw" (.vr 0 (.cons (.lit (.int 4)) .nil)))) (.seq (.ife (.e (.cmp .eq (.var 4) (.lit (.int 0)))) (.ret (.tup (.cons (.lit (.str "ways")) (.cons (.call "_law_draw" (.vr 0 (.cons (.lit (.int 4)) .nil))) (.cons (.idx (.var 1) (.lit (.int 2))) .nil))))) .skip) (.seq (.asg 5 (.call "_law_draw" (.vr 0 (.cons (.lenV 3) .nil)))) (.seq (.ife (.e (.cmp .eq (.var 4) (.lit (.int 1)))) (.seq (.fz [3]) (.ret (.tup (.cons (.lit (.str "ways")) (.cons (.idx (.var 1) (.lit (.int 1))) (.cons (.blt .tuple (.cons (.bin .add (.sl (.var 3) .none (.some (.var 5))) (.sl (.var 3) (.some (.bin .add (.var 5) (.lit (.int 1)))) .none)) .nil)) .nil)))))) .skip) (.seq (.setI 3 (.var 5) (.call "_law_spoilt" (.vr 0 (.cons (.idxV 3 (.var 5)) .nil)))) (.seq (.fz [3]) (.ret (.tup (.cons (.lit (.str "ways")) (.cons (.idx (.var 1) (.lit (.int 1))) (.cons (.blt .tuple (.cons (.var 3) .nil)) .nil))))))))))))))
def D__law_spoilt : Pm.Def := ⟨2, 6, c__law_spoilt⟩
def c__law_small : Pm.S := (.seq (.asg 2 (.lst .nil)) (.seq (.sfor (.nm 3) (.rng2 (.lit (.int 1)) (.bin .add (.var 1) (.lit (.int 1)))) (.asg 2 (.bin .add (.var 2) (.lc [8] (.nm 8) (.rng2 (.var 3) (.bin .add (.var 1) (.lit (.int 1)))) .none (.tup (.cons (.var 3) (.cons (.var 8) .nil))))))) (.seq (.asg 4 (.lst (.cons (.lst .nil) .nil))) (.seq (.sfor (.nm 5) (.rng1 (.var 0)) (.seq (.asg 6 (.lst .nil)) (.seq (.sfor (.nm 7) (.seq (.var 4)) (.asg 6 (.bin .add (.var 6) (.lc [9] (.nm 9) (.seq (.var 2)) .none (.bin .add (.var 7) (.lst (.cons (.var 9) .nil))))))) (.asg 4 (.var 6))))) (.ret (.var 4))))))
def D__law_small : Pm.Def := ⟨2, 10, c__law_small⟩
def c_breaking : Pm.S := (.seq (.sfor (.nm 3) (.seq (.var 2)) (.seq (.asg 4 (.call "found_sizes" (.cons (.var 0) (.cons (.bin .add (.var 1) (.lst (.cons (.call "opposite" (.cons (.var 3) .nil)) .nil))) .nil)))) (.ife (.e (.notN (.var 4))) (.ret (.var 4)) .skip))) (.ret (.lit .non)))
def D_breaking : Pm.Def := ⟨3, 5, c_breaking⟩
def c_follows : Pm.S := (.seq (.drop (.call "check_facts" (.cons (.var 0) (.cons (.var 1) .nil)))) (.seq (.drop (.call "check_facts" (.cons (.var 0) (.cons (.var 2) .nil)))) (.ret (.isN (.call "breaking" (.cons (.var 0) (.cons (.var 1) (.cons (.var 2) .nil))))))))
def D_follows : Pm.Def := ⟨3, 3, c_follows⟩
def c_parting : Pm.S := (.seq (.drop (.call "check_facts" (.cons (.var 0) (.cons (.var 1) .nil)))) (.seq (.drop (.call "check_facts" (.cons (.var 0) (.cons (.var 2) .nil)))) (.seq (.asg 3 (.call "breaking" (.cons (.var 0) (.cons (.var 1) (.cons (.var 2) .nil))))) (.seq (.ife (.e (.notN (.var 3))) (.ret (.tup (.cons (.lit (.int 0)) (.cons (.var 3) .nil)))) .skip) (.seq (.asg 3 (.call "breaking" (.cons (.var 0) (.cons (.var 2) (.cons (.var 1) .nil))))) (.ret (.ife (.e (.isN (.var 3))) (.lit .non) (.tup (.cons (.lit (.int 1)) (.cons (.var 3) .nil))))))))))
def D_parting : Pm.Def := ⟨3, 4, c_parting⟩
def c_needless : Pm.S := (.seq (.drop (.call "check_facts" (.cons (.var 0) (.cons (.var 1) .nil)))) (.seq (.asgO 2 (.lst .nil)) (.seq (.sfor (.tp (.nm 3) (.tp (.nm 4) .nil)) (.enum (.var 1)) (.ife (.e (.isN (.call "breaking" (.cons (.var 0) (.cons (.bin .add (.sl (.var 1) .none (.some (.var 3))) (.sl (.var 1) (.some (.bin .add (.var 3) (.lit (.int 1)))) .none)) (.cons (.lst (.cons (.var 4) .nil)) .nil)))))) (.app 2 (.var 3)) .skip)) (.seq (.fz [2]) (.ret (.var 2))))))
def D_needless : Pm.Def := ⟨2, 5, c_needless⟩
def c__law_follows : Pm.S := (.seq (.sfor (.nm 3) (.seq (.var 2)) (.seq (.asg 4 (.call "paper" (.cons (.var 0) (.cons (.bin .add (.var 1) (.lst (.cons (.call "_law_turn" (.cons (.var 3) .nil)) .nil))) .nil)))) (.ife (.or (.e (.isN (.var 4))) (.not (.e (.call "_law_paper" (.cons (.var 0) (.cons (.bin .add (.var 1) (.lst (.cons (.call "_law_turn" (.cons (.var 3) .nil)) .nil))) (.cons (.var 4) .nil))))))) (.ret (.lit (.bl false))) .skip))) (.ret (.lit (.bl true))))
def D__law_follows : Pm.Def := ⟨3, 5, c__law_follows⟩
def c_picks : Pm.S := (.seq (.ife (.e (.cmp .eq (.var 1) (.lit (.int 0)))) (.ret (.lst (.cons (.tup .nil) .nil))) .skip) (.seq (.asg 2 (.lst .nil)) (.seq (.sfor (.tp (.nm 3) (.tp (.nm 4) .nil)) (.enum (.var 0)) (.asg 2 (.bin .add (.var 2) (.lc [5] (.nm 5) (.seq (.call "picks" (.cons (.sl (.var 0) (.some (.bin .add (.var 3) (.lit (.int 1)))) .none) (.cons (.bin .sub (.var 1) (.lit (.int 1))) .nil)))) .none (.bin .add (.tup (.cons (.var 4) .nil)) (.var 5)))))) (.ret (.var 2)))))
def D_picks : Pm.Def := ⟨2, 6, c_picks⟩
def c_is_enough : Pm.S := (.ret (.cmp .inn (.call "judged" (.cons (.var 0) (.cons (.var 1) (.cons (.var 2) .nil)))) (.tup (.cons (.lit (.str "sure")) (.cons (.lit (.str "none")) .nil)))))
def D_is_enough : Pm.Def := ⟨3, 3, c_is_enough⟩
def c_fewest : Pm.S := (.seq (.drop (.call "check_facts" (.cons (.var 0) (.cons (.var 1) .nil)))) (.seq (.drop (.call "check_statement" (.cons (.var 0) (.cons (.var 2) .nil)))) (.seq (.sfor (.nm 3) (.rng1 (.bin .add (.blt .len (.cons (.var 1) .nil)) (.lit (.int 1)))) (.seq (.asg 4 (.call "picks" (.cons (.lrng (.blt .len (.cons (.var 1) .nil))) (.cons (.var 3) .nil)))) (.seq (.asg 5 (.lc [6] (.nm 6) (.seq (.var 4)) (.some (.e (.call "is_enough" (.cons (.var 0) (.cons (.lc [7] (.nm 7) (.seq (.var 6)) .none (.idx (.var 1) (.var 7))) (.cons (.var 2) .nil)))))) (.var 6))) (.ife (.e (.var 5)) (.ret (.var 5)) .skip)))) (.ret (.lst .nil)))))
def D_fewest : Pm.Def := ⟨3, 8, c_fewest⟩
def c__law_sets : Pm.S := (.seq (.ife (.e (.cmp .eq (.var 1) (.lit (.int 0)))) (.ret (.lst (.cons (.tup .nil) .nil))) .skip) (.seq (.asg 2 (.lst .nil)) (.seq (.sfor (.nm 3) (.rng1 (.var 0)) (.asg 2 (.bin .add (.var 2) (.lc [4] (.nm 4) (.seq (.call "_law_sets" (.cons (.var 3) (.cons (.bin .sub (.var 1) (.lit (.int 1))) .nil)))) .none (.bin .add (.var 4) (.tup (.cons (.var 3) .nil))))))) (.ret (.blt .sorted (.cons (.var 2) .nil))))))
def D__law_sets : Pm.Def := ⟨2, 5, c__law_sets⟩
def c__law_enough : Pm.S := (.seq (.asg 3 (.bin .add (.var 1) (.lst (.cons (.call "_law_turn" (.cons (.var 2) .nil)) .nil)))) (.seq (.asg 4 (.call "paper" (.cons (.var 0) (.cons (.var 3) .nil)))) (.seq (.ife (.e (.notN (.var 4))) (.ret (.idx (.lst (.cons (.lit .non) (.cons (.lit (.bl true)) .nil))) (.blt .int (.cons (.call "_law_paper" (.cons (.var 0) (.cons (.var 3) (.cons (.var 4) .nil)))) .nil)))) .skip) (.ret (.idx (.lst (.cons (.lit .non) (.cons (.lit (.bl false)) .nil))) (.blt .int (.cons (.call "_law_keeps" (.cons (.var 3) (.cons (.call "sizes_for" (.cons (.var 0) (.cons (.var 3) .nil))) .nil))) .nil)))))))
def D__law_enough : Pm.Def := ⟨3, 5, c__law_enough⟩
def c_orders : Pm.S := (.seq (.ife (.not (.e (.var 0))) (.ret (.lst (.cons (.tup .nil) .nil))) .skip) (.seq (.asg 1 (.lst .nil)) (.seq (.sfor (.tp (.nm 2) (.tp (.nm 3) .nil)) (.enum (.var 0)) (.asg 1 (.bin .add (.var 1) (.lc [4] (.nm 4) (.seq (.call "orders" (.cons (.bin .add (.sl (.var 0) .none (.some (.var 2))) (.sl (.var 0) (.some (.bin .add (.var 2) (.lit (.int 1)))) .none)) .nil))) .none (.bin .add (.tup (.cons (.var 3) .nil)) (.var 4)))))) (.ret (.var 1)))))
def D_orders : Pm.Def := ⟨1, 5, c_orders⟩
def c_nest_facts : Pm.S := (.ret (.lc [1, 2] (.tp (.nm 1) (.tp (.nm 2) .nil)) (.zip (.var 0) (.sl (.var 0) (.some (.lit (.int 1))) .none)) .none (.tup (.cons (.lit (.str "on")) (.cons (.var 1) (.cons (.var 2) .nil))))))
def D_nest_facts : Pm.Def := ⟨1, 3, c_nest_facts⟩
def c_nests : Pm.S := (.seq (.drop (.call "check_facts" (.cons (.var 0) (.cons (.var 1) .nil)))) (.seq (.asg 2 (.call "orders" (.cons (.lrng (.var 0)) .nil))) (.ret (.lc [3] (.nm 3) (.seq (.var 2)) (.some (.e (.notN (.call "found_sizes" (.cons (.var 0) (.cons (.bin .add (.var 1) (.call "nest_facts" (.cons (.var 3) .nil))) .nil)))))) (.var 3)))))
def D_nests : Pm.Def := ⟨2, 4, c_nests⟩
def c_sure_pairs : Pm.S := (.seq (.asgO 2 (.lst .nil)) (.seq (.sfor (.nm 3) (.rng1 (.var 0)) (.sfor (.nm 4) (.rng1 (.var 0)) (.ife (.and (.e (.cmp .ne (.var 3) (.var 4))) (.e (.isN (.call "breaking" (.cons (.var 0) (.cons (.var 1) (.cons (.lst (.cons (.tup (.cons (.lit (.str "on")) (.cons (.var 3) (.cons (.var 4) .nil)))) .nil)) .nil))))))) (.app 2 (.tup (.cons (.var 3) (.cons (.var 4) .nil)))) .skip))) (.seq (.fz [2]) (.ret (.var 2)))))
def D_sure_pairs : Pm.Def := ⟨2, 5, c_sure_pairs⟩
def c_grown_rows : Pm.S := (.ret (.lc2 [2, 3, 4] [3, 4] (.nm 2) (.seq (.var 0)) .none (.tp (.nm 3) (.tp (.nm 4) .nil)) (.seq (.var 1)) (.some (.e (.cmp .eq (.idx (.var 2) (.neg (.lit (.int 1)))) (.var 3)))) (.bin .add (.var 2) (.tup (.cons (.var 4) .nil)))))
def D_grown_rows : Pm.Def := ⟨2, 5, c_grown_rows⟩
def c_sure_nests : Pm.S := (.seq (.drop (.call "check_facts" (.cons (.var 0) (.cons (.var 1) .nil)))) (.seq (.ife (.e (.isN (.call "found_sizes" (.cons (.var 0) (.cons (.var 1) .nil))))) (.ret (.lst .nil)) .skip) (.seq (.asg 2 (.call "sure_pairs" (.cons (.var 0) (.cons (.var 1) .nil)))) (.seq (.asg 3 (.lc [5] (.nm 5) (.rng1 (.var 0)) .none (.tup (.cons (.var 5) .nil)))) (.seq (.asg 4 (.call "grown_rows" (.cons (.var 3) (.cons (.var 2) .nil)))) (.seq (.swhile (.e (.var 4)) (.seq (.asg 3 (.var 4)) (.asg 4 (.call "grown_rows" (.cons (.var 3) (.cons (.var 2) .nil)))))) (.ret (.blt .sorted (.cons (.var 3) .nil)))))))))
def D_sure_nests : Pm.Def := ⟨2, 6, c_sure_nests⟩
def c__law_orders : Pm.S := (.seq (.ife (.e (.cmp .eq (.blt .len (.cons (.var 0) .nil)) (.lit (.int 0)))) (.ret (.lst (.cons (.tup .nil) .nil))) .skip) (.seq (.asg 1 (.lst .nil)) (.seq (.sfor (.nm 2) (.rng1 (.blt .len (.cons (.var 0) .nil))) (.asg 1 (.bin .add (.var 1) (.lc [3] (.nm 3) (.seq (.call "_law_orders" (.cons (.bin .add (.sl (.var 0) .none (.some (.var 2))) (.sl (.var 0) (.some (.bin .add (.var 2) (.lit (.int 1)))) .none)) .nil))) .none (.bin .add (.tup (.cons (.idx (.var 0) (.var 2)) .nil)) (.var 3)))))) (.ret (.var 1)))))
def D__law_orders : Pm.Def := ⟨1, 4, c__law_orders⟩
def c__law_can : Pm.S := (.seq (.asg 2 (.call "paper" (.cons (.var 0) (.cons (.var 1) .nil)))) (.seq (.ife (.e (.isN (.var 2))) (.ret (.idx (.lst (.cons (.lit .non) (.cons (.lit (.bl true)) .nil))) (.blt .int (.cons (.call "_law_keeps" (.cons (.var 1) (.cons (.call "sizes_for" (.cons (.var 0) (.cons (.var 1) .nil))) .nil))) .nil)))) .skip) (.ret (.idx (.lst (.cons (.lit .non) (.cons (.lit (.bl false)) .nil))) (.blt .int (.cons (.call "_law_paper" (.cons (.var 0) (.cons (.var 1) (.cons (.var 2) .nil)))) .nil))))))
def D__law_can : Pm.Def := ⟨2, 3, c__law_can⟩
def c__law_longest : Pm.S := (.seq (.asg 2 (.lc [5] (.nm 5) (.rng1 (.var 0)) .none (.tup (.cons (.var 5) .nil)))) (.seq (.asg 3 (.blt .list (.cons (.var 2) .nil))) (.seq (.swhile (.e (.cmp .gt (.blt .len (.cons (.var 3) .nil)) (.lit (.int 0)))) (.seq (.asg 2 (.var 3)) (.seq (.asg 3 (.lst .nil)) (.sfor (.nm 4) (.seq (.var 2)) (.asg 3 (.bin .add (.var 3) (.lc [5] (.nm 5) (.rng1 (.var 0)) (.some (.e (.cmp .inn (.tup (.cons (.idx (.var 4) (.neg (.lit (.int 1)))) (.cons (.var 5) .nil))) (.var 1)))) (.bin .add (.var 4) (.tup (.cons (.var 5) .nil)))))))))) (.ret (.blt .sorted (.cons (.var 2) .nil))))))
def D__law_longest : Pm.Def := ⟨2, 6, c__law_longest⟩
def c_is_script : Pm.S := (.seq (.ife (.e (.isN (.var 1))) (.ret (.lit (.bl true))) .skip) (.seq (.ife (.or (.not (.e (.isi (.var 1) .tuple))) (.or (.e (.cmp .ne (.blt .len (.cons (.var 1) .nil)) (.lit (.int 4)))) (.or (.not (.e (.isi (.idx (.var 1) (.lit (.int 0))) .str))) (.e (.cmp .ne (.idx (.var 1) (.lit (.int 0))) (.lit (.str "ask"))))))) (.ret (.lit (.bl false))) .skip) (.seq (.ife (.or (.e (.cmp .eq (.var 2) (.lit (.int 0)))) (.not (.e (.call "is_statement" (.cons (.var 0) (.cons (.idx (.var 1) (.lit (.int 1))) .nil)))))) (.ret (.lit (.bl false))) .skip) (.ret (.and (.call "is_script" (.cons (.var 0) (.cons (.idx (.var 1) (.lit (.int 2))) (.cons (.bin .sub (.var 2) (.lit (.int 1))) .nil)))) (.call "is_script" (.cons (.var 0) (.cons (.idx (.var 1) (.lit (.int 3))) (.cons (.bin .sub (.var 2) (.lit (.int 1))) .nil)))))))))
def D_is_script : Pm.Def := ⟨3, 3, c_is_script⟩
def c_check_script : Pm.S := (.ife (.not (.e (.call "is_script" (.cons (.var 0) (.cons (.var 1) (.cons (.glo "MOST_ASKS" (.int 6)) .nil)))))) (.sraise "BadScript") .skip)
def D_check_script : Pm.Def := ⟨2, 2, c_check_script⟩
def c_answer_told : Pm.S := (.ret (.ife (.e (.var 1)) (.var 0) (.call "opposite" (.cons (.var 0) .nil))))
def D_answer_told : Pm.Def := ⟨2, 2, c_answer_told⟩
def c_reached : Pm.S := (.seq (.ife (.e (.isN (.call "found_sizes" (.cons (.var 0) (.cons (.var 1) .nil))))) (.ret (.lst .nil)) .skip) (.seq (.ife (.e (.isN (.var 2))) (.ret (.lst (.cons (.tup (.cons (.tup .nil) (.cons (.var 1) .nil))) .nil))) .skip) (.seq (.asgO 3 (.lst .nil)) (.seq (.sfor (.tp (.nm 4) (.tp (.nm 5) .nil)) (.seq (.tup (.cons (.tup (.cons (.lit (.bl true)) (.cons (.idx (.var 2) (.lit (.int 2))) .nil))) (.cons (.tup (.cons (.lit (.bl false)) (.cons (.idx (.var 2) (.lit (.int 3))) .nil))) .nil)))) (.sfor (.tp (.nm 6) (.tp (.nm 7) .nil)) (.seq (.call "reached" (.cons (.var 0) (.cons (.bin .add (.var 1) (.lst (.cons (.call "answer_told" (.cons (.idx (.var 2) (.lit (.int 1))) (.cons (.var 4) .nil))) .nil))) (.cons (.var 5) .nil))))) (.app 3 (.tup (.cons (.bin .add (.tup (.cons (.var 4) .nil)) (.var 6)) (.cons (.var 7) .nil)))))) (.seq (.fz [3]) (.ret (.var 3)))))))
def D_reached : Pm.Def := ⟨3, 8, c_reached⟩
def c_is_settled : Pm.S := (.ret (.cmp .ne (.call "judged" (.cons (.var 0) (.cons (.var 1) (.cons (.var 2) .nil)))) (.lit (.str "open"))))
def D_is_settled : Pm.Def := ⟨3, 3, c_is_settled⟩
def c_settles : Pm.S := (.seq (.drop (.call "check_facts" (.cons (.var 0) (.cons (.var 1) .nil)))) (.seq (.drop (.call "check_script" (.cons (.var 0) (.cons (.var 2) .nil)))) (.seq (.drop (.call "check_statement" (.cons (.var 0) (.cons (.var 3) .nil)))) (.ret (.blt .all (.cons (.lc [4, 5] (.tp (.nm 4) (.tp (.nm 5) .nil)) (.seq (.call "reached" (.cons (.var 0) (.cons (.var 1) (.cons (.var 2) .nil))))) .none (.call "is_settled" (.cons (.var 0) (.cons (.var 5) (.cons (.var 3) .nil))))) .nil))))))
def D_settles : Pm.Def := ⟨4, 6, c_settles⟩
def c_script_within : Pm.S := (.seq (.ife (.or (.e (.isN (.call "found_sizes" (.cons (.var 0) (.cons (.var 1) .nil))))) (.e (.call "is_settled" (.cons (.var 0) (.cons (.var 1) (.cons (.var 3) .nil)))))) (.ret (.tup (.cons (.lit .non) .nil))) .skip) (.seq (.ife (.e (.cmp .eq (.var 4) (.lit (.int 0)))) (.ret (.lit .non)) .skip) (.seq (.sfor (.tp (.nm 5) (.tp (.nm 6) .nil)) (.enum (.var 2)) (.seq (.asg 7 (.bin .add (.sl (.var 2) .none (.some (.var 5))) (.sl (.var 2) (.some (.bin .add (.var 5) (.lit (.int 1)))) .none))) (.seq (.asg 8 (.call "script_within" (.cons (.var 0) (.cons (.bin .add (.var 1) (.lst (.cons (.var 6) .nil))) (.cons (.var 7) (.cons (.var 3) (.cons (.bin .sub (.var 4) (.lit (.int 1))) .nil))))))) (.seq (.asg 9 (.ife (.e (.isN (.var 8))) (.lit .non) (.call "script_within" (.cons (.var 0) (.cons (.bin .add (.var 1) (.lst (.cons (.call "opposite" (.cons (.var 6) .nil)) .nil))) (.cons (.var 7) (.cons (.var 3) (.cons (.bin .sub (.var 4) (.lit (.int 1))) .nil)))))))) (.ife (.e (.notN (.var 9))) (.ret (.tup (.cons (.tup (.cons (.lit (.str "ask")) (.cons (.var 6) (.cons (.idx (.var 8) (.lit (.int 0))) (.cons (.idx (.var 9) (.lit (.int 0))) .nil))))) .nil))) .skip))))) (.ret (.lit .non)))))
def D_script_within : Pm.Def := ⟨5, 10, c_script_within⟩
def c_fewest_tries : Pm.S := (.seq (.drop (.call "check_facts" (.cons (.var 0) (.cons (.var 1) .nil)))) (.seq (.drop (.call "check_facts" (.cons (.var 0) (.cons (.var 2) .nil)))) (.seq (.drop (.call "check_statement" (.cons (.var 0) (.cons (.var 3) .nil)))) (.seq (.sfor (.nm 4) (.rng1 (.bin .add (.blt .len (.cons (.var 2) .nil)) (.lit (.int 1)))) (.seq (.asg 5 (.call "script_within" (.cons (.var 0) (.cons (.var 1) (.cons (.var 2) (.cons (.var 3) (.cons (.var 4) .nil))))))) (.ife (.e (.notN (.var 5))) (.ret (.tup (.cons (.var 4) (.cons (.idx (.var 5) (.lit (.int 0))) .nil)))) .skip))) (.ret (.lit .non))))))
def D_fewest_tries : Pm.Def := ⟨4, 6, c_fewest_tries⟩
def c__law_within : Pm.S := (.seq (.ife (.e (.cmp .ne (.call "verdict" (.cons (.var 0) (.cons (.var 1) (.cons (.var 3) .nil)))) (.lit (.str "open")))) (.ret (.lit (.bl true))) .skip) (.seq (.ife (.e (.cmp .eq (.var 4) (.lit (.int 0)))) (.ret (.lit (.bl false))) .skip) (.seq (.sfor (.nm 5) (.rng1 (.blt .len (.cons (.var 2) .nil))) (.seq (.asg 6 (.idx (.var 2) (.var 5))) (.seq (.asg 7 (.bin .add (.sl (.var 2) .none (.some (.var 5))) (.sl (.var 2) (.some (.bin .add (.var 5) (.lit (.int 1)))) .none))) (.seq (.asg 8 (.lit (.bl true))) (.seq (.sfor (.nm 9) (.seq (.lst (.cons (.var 6) (.cons (.call "_law_turn" (.cons (.var 6) .nil)) .nil)))) (.seq (.asg 10 (.bin .add (.var 1) (.lst (.cons (.var 9) .nil)))) (.ife (.and (.e (.var 8)) (.not (.e (.call "_law_within" (.cons (.var 0) (.cons (.var 10) (.cons (.var 7) (.cons (.var 3) (.cons (.bin .sub (.var 4) (.lit (.int 1))) .nil))))))))) (.asg 8 (.lit (.bl false))) .skip))) (.ife (.e (.var 8)) (.ret (.lit (.bl true))) .skip)))))) (.ret (.lit (.bl false))))))
def D__law_within : Pm.Def := ⟨5, 11, c__law_within⟩
def c__law_deep : Pm.S := (.seq (.ife (.e (.isN (.var 0))) (.ret (.lit (.int 0))) .skip) (.seq (.ife (.e (.cmp .nin (.idx (.var 0) (.lit (.int 1))) (.var 1))) (.ret (.lit (.int 99))) .skip) (.ret (.bin .add (.lit (.int 1)) (.blt .max (.cons (.call "_law_deep" (.cons (.idx (.var 0) (.lit (.int 2))) (.cons (.var 1) .nil))) (.cons (.call "_law_deep" (.cons (.idx (.var 0) (.lit (.int 3))) (.cons (.var 1) .nil))) .nil)))))))
def D__law_deep : Pm.Def := ⟨2, 2, c__law_deep⟩
def c__law_named : Pm.S := (.ret (.bin .add (.tup (.cons (.idx (.var 0) (.lit (.int 0))) .nil)) (.blt .tuple (.cons (.lc [2] (.nm 2) (.seq (.sl (.var 0) (.some (.lit (.int 1))) .none)) .none (.idx (.var 1) (.var 2))) .nil))))
def D__law_named : Pm.Def := ⟨2, 3, c__law_named⟩
def c__law_rows : Pm.S := (.seq (.asg 0 (.lst (.cons (.lst (.cons (.lst (.cons (.tup (.cons (.lit (.str "on")) (.cons (.lit (.int 0)) (.cons (.lit (.int 1)) .nil)))) (.cons (.tup (.cons (.lit (.str "on")) (.cons (.lit (.int 1)) (.cons (.lit (.int 2)) .nil)))) .nil))) (.cons (.tup (.cons (.lit (.str "on")) (.cons (.lit (.int 0)) (.cons (.lit (.int 2)) .nil)))) (.cons (.lit (.str "sure")) .nil)))) (.cons (.lst (.cons (.lst (.cons (.tup (.cons (.lit (.str "on")) (.cons (.lit (.int 0)) (.cons (.lit (.int 1)) .nil)))) .nil)) (.cons (.tup (.cons (.lit (.str "on")) (.cons (.lit (.int 1)) (.cons (.lit (.int 0)) .nil)))) (.cons (.lit (.str "never")) .nil)))) .nil)))) (.seq (.asg 0 (.bin .add (.var 0) (.lst (.cons (.lst (.cons (.lst (.cons (.tup (.cons (.lit (.str "both")) (.cons (.lit (.int 0)) (.cons (.lit (.int 1)) (.cons (.lit (.int 2)) .nil))))) .nil)) (.cons (.tup (.cons (.lit (.str "on")) (.cons (.lit (.int 0)) (.cons (.lit (.int 2)) .nil)))) (.cons (.lit (.str "sure")) .nil)))) (.cons (.lst (.cons (.lst (.cons (.tup (.cons (.lit (.str "both")) (.cons (.lit (.int 0)) (.cons (.lit (.int 1)) (.cons (.lit (.int 2)) .nil))))) .nil)) (.cons (.tup (.cons (.lit (.str "both")) (.cons (.lit (.int 1)) (.cons (.lit (.int 0)) (.cons (.lit (.int 2)) .nil))))) (.cons (.lit (.str "sure")) .nil)))) .nil))))) (.seq (.asg 0 (.bin .add (.var 0) (.lst (.cons (.lst (.cons (.lst (.cons (.tup (.cons (.lit (.str "on")) (.cons (.lit (.int 0)) (.cons (.lit (.int 2)) .nil)))) (.cons (.tup (.cons (.lit (.str "on")) (.cons (.lit (.int 1)) (.cons (.lit (.int 2)) .nil)))) .nil))) (.cons (.tup (.cons (.lit (.str "both")) (.cons (.lit (.int 0)) (.cons (.lit (.int 1)) (.cons (.lit (.int 2)) .nil))))) (.cons (.lit (.str "open")) .nil)))) (.cons (.lst (.cons (.lst .nil) (.cons (.tup (.cons (.lit (.str "like")) (.cons (.lit (.int 0)) (.cons (.lit (.int 1)) .nil)))) (.cons (.lit (.str "open")) .nil)))) .nil))))) (.seq (.asg 0 (.bin .add (.var 0) (.lst (.cons (.lst (.cons (.lst (.cons (.tup (.cons (.lit (.str "on")) (.cons (.lit (.int 0)) (.cons (.lit (.int 1)) .nil)))) (.cons (.tup (.cons (.lit (.str "both")) (.cons (.lit (.int 1)) (.cons (.lit (.int 2)) (.cons (.lit (.int 3)) .nil))))) .nil))) (.cons (.tup (.cons (.lit (.str "both")) (.cons (.lit (.int 0)) (.cons (.lit (.int 2)) (.cons (.lit (.int 3)) .nil))))) (.cons (.lit (.str "sure")) .nil)))) .nil)))) (.seq (.asg 0 (.bin .add (.var 0) (.lst (.cons (.lst (.cons (.lst (.cons (.tup (.cons (.lit (.str "both")) (.cons (.lit (.int 0)) (.cons (.lit (.int 1)) (.cons (.lit (.int 2)) .nil))))) (.cons (.tup (.cons (.lit (.str "on")) (.cons (.lit (.int 2)) (.cons (.lit (.int 3)) .nil)))) .nil))) (.cons (.tup (.cons (.lit (.str "both")) (.cons (.lit (.int 0)) (.cons (.lit (.int 1)) (.cons (.lit (.int 3)) .nil))))) (.cons (.lit (.str "sure")) .nil)))) .nil)))) (.seq (.asg 0 (.bin .add (.var 0) (.lst (.cons (.lst (.cons (.lst (.cons (.tup (.cons (.lit (.str "like")) (.cons (.lit (.int 0)) (.cons (.lit (.int 1)) .nil)))) (.cons (.tup (.cons (.lit (.str "both")) (.cons (.lit (.int 0)) (.cons (.lit (.int 2)) (.cons (.lit (.int 3)) .nil))))) .nil))) (.cons (.tup (.cons (.lit (.str "both")) (.cons (.lit (.int 1)) (.cons (.lit (.int 2)) (.cons (.lit (.int 3)) .nil))))) (.cons (.lit (.str "sure")) .nil)))) .nil)))) (.seq (.asg 0 (.bin .add (.var 0) (.lst (.cons (.lst (.cons (.lst (.cons (.tup (.cons (.lit (.str "off")) (.cons (.lit (.int 0)) (.cons (.lit (.int 2)) .nil)))) .nil)) (.cons (.tup (.cons (.lit (.str "both")) (.cons (.lit (.int 0)) (.cons (.lit (.int 1)) (.cons (.lit (.int 2)) .nil))))) (.cons (.lit (.str "never")) .nil)))) .nil)))) (.seq (.asg 0 (.bin .add (.var 0) (.lst (.cons (.lst (.cons (.lst (.cons (.tup (.cons (.lit (.str "on")) (.cons (.lit (.int 0)) (.cons (.lit (.int 1)) .nil)))) (.cons (.tup (.cons (.lit (.str "like")) (.cons (.lit (.int 0)) (.cons (.lit (.int 1)) .nil)))) .nil))) (.cons (.tup (.cons (.lit (.str "on")) (.cons (.lit (.int 2)) (.cons (.lit (.int 3)) .nil)))) (.cons (.lit (.str "none")) .nil)))) .nil)))) (.seq (.asg 0 (.bin .add (.var 0) (.lst (.cons (.lst (.cons (.lst (.cons (.tup (.cons (.lit (.str "off")) (.cons (.lit (.int 0)) (.cons (.lit (.int 1)) .nil)))) (.cons (.tup (.cons (.lit (.str "off")) (.cons (.lit (.int 1)) (.cons (.lit (.int 0)) .nil)))) .nil))) (.cons (.tup (.cons (.lit (.str "like")) (.cons (.lit (.int 0)) (.cons (.lit (.int 1)) .nil)))) (.cons (.lit (.str "open")) .nil)))) .nil)))) (.seq (.asg 0 (.bin .add (.var 0) (.lst (.cons (.lst (.cons (.lst (.cons (.tup (.cons (.lit (.str "like")) (.cons (.lit (.int 0)) (.cons (.lit (.int 1)) .nil)))) (.cons (.tup (.cons (.lit (.str "like")) (.cons (.lit (.int 1)) (.cons (.lit (.int 2)) .nil)))) (.cons (.tup (.cons (.lit (.str "unlike")) (.cons (.lit (.int 0)) (.cons (.lit (.int 2)) .nil)))) .nil)))) (.cons (.tup (.cons (.lit (.str "on")) (.cons (.lit (.int 0)) (.cons (.lit (.int 1)) .nil)))) (.cons (.lit (.str "none")) .nil)))) .nil)))) (.seq (.asg 0 (.bin .add (.var 0) (.lst (.cons (.lst (.cons (.lst (.cons (.tup (.cons (.lit (.str "both")) (.cons (.lit (.int 0)) (.cons (.lit (.int 1)) (.cons (.lit (.int 2)) .nil))))) (.cons (.tup (.cons (.lit (.str "both")) (.cons (.lit (.int 1)) (.cons (.lit (.int 2)) (.cons (.lit (.int 3)) .nil))))) .nil))) (.cons (.tup (.cons (.lit (.str "both")) (.cons (.lit (.int 0)) (.cons (.lit (.int 1)) (.cons (.lit (.int 3)) .nil))))) (.cons (.lit (.str "sure")) .nil)))) .nil)))) (.ret (.bin .add (.var 0) (.lst (.cons (.lst (.cons (.lst (.cons (.tup (.cons (.lit (.str "both")) (.cons (.lit (.int 0)) (.cons (.lit (.int 1)) (.cons (.lit (.int 2)) .nil))))) (.cons (.tup (.cons (.lit (.str "like")) (.cons (.lit (.int 0)) (.cons (.lit (.int 2)) .nil)))) .nil))) (.cons (.tup (.cons (.lit (.str "on")) (.cons (.lit (.int 0)) (.cons (.lit (.int 1)) .nil)))) (.cons (.lit (.str "none")) .nil)))) .nil)))))))))))))))
def D__law_rows : Pm.Def := ⟨0, 1, c__law_rows⟩
end Cd

namespace Lw
open PySem Pm
def c_law : Pm.S := (.seq (.asg 2 (.bin .add (.lit (.int 2)) (.call "_law_draw" (.vr 1 (.cons (.lit (.int 3)) .nil))))) (.seq (.ife (.not (.e (.call "_law_like" (.cons (.call "base" (.cons (.var 2) .nil)) (.cons (.call "_law_base" (.cons (.var 2) .nil)) .nil))))) (.ret (.lit (.bl false))) .skip) (.seq (.sfor (.nm 3) (.rng1 (.lit (.int 6))) (.seq (.asg 4 (.call "_law_statement" (.vr 1 (.cons (.var 2) .nil)))) (.seq (.asg 5 (.call "clauses" (.cons (.var 2) (.cons (.var 4) .nil)))) (.seq (.ife (.not (.e (.call "_law_like" (.cons (.var 5) (.cons (.call "_law_clauses" (.cons (.var 2) (.cons (.var 4) .nil))) .nil))))) (.ret (.lit (.bl false))) .skip) (.sfor (.nm 6) (.rng1 (.lit (.int 4))) (.seq (.asg 7 (.call "_law_drawn" (.vr 1 (.cons (.var 2) (.cons (.lit (.int 6)) .nil))))) (.seq (.asg 8 (.cmp .eq (.blt .len (.cons (.lc [9] (.nm 9) (.seq (.var 5)) (.some (.not (.e (.call "_law_met" (.cons (.var 9) (.cons (.var 7) .nil)))))) (.var 9)) .nil)) (.lit (.int 0)))) (.seq (.ife (.e (.cmp .ne (.var 8) (.call "_law_holds" (.cons (.var 4) (.cons (.var 7) .nil))))) (.ret (.lit (.bl false))) .skip) (.ife (.e (.cmp .gt (.blt .len (.cons (.lc [10] (.nm 10) (.seq (.call "base" (.cons (.var 2) .nil))) (.some (.not (.e (.call "_law_kept" (.cons (.var 10) (.cons (.var 7) .nil)))))) (.var 10)) .nil)) (.lit (.int 0)))) (.ret (.lit (.bl false))) .skip))))))))) (.ret (.lit (.bl true))))))
def pg : Pm.Prog := ⟨(([(("is_number" : Str), Cd.D_is_number), (("is_statement" : Str), Cd.D_is_statement), (("check_statement" : Str), Cd.D_check_statement), (("line_of" : Str), Cd.D_line_of), (("base" : Str), Cd.D_base), (("less" : Str), Cd.D_less), (("both_ways" : Str), Cd.D_both_ways), (("other_line" : Str), Cd.D_other_line), (("pair_clauses" : Str), Cd.D_pair_clauses), (("clauses" : Str), Cd.D_clauses), (("_law_draw" : Str), Cd.D__law_draw), (("_law_words" : Str), Cd.D__law_words), (("_law_statement" : Str), Cd.D__law_statement), (("_law_facts" : Str), Cd.D__law_facts), (("_law_turn" : Str), Cd.D__law_turn), (("_law_holds" : Str), Cd.D__law_holds), (("_law_keeps" : Str), Cd.D__law_keeps), (("_law_right" : Str), Cd.D__law_right), (("_law_drawn" : Str), Cd.D__law_drawn), (("_law_line" : Str), Cd.D__law_line), (("_law_base" : Str), Cd.D__law_base), (("_law_more" : Str), Cd.D__law_more), (("_law_eight" : Str), Cd.D__law_eight), (("_law_clauses" : Str), Cd.D__law_clauses)] : List (Str × Pm.Def)) ++ ([(("_law_all" : Str), Cd.D__law_all), (("_law_sum" : Str), Cd.D__law_sum), (("_law_shown" : Str), Cd.D__law_shown), (("_law_paper" : Str), Cd.D__law_paper), (("_law_like" : Str), Cd.D__law_like), (("_law_kept" : Str), Cd.D__law_kept), (("_law_met" : Str), Cd.D__law_met)] : List (Str × Pm.Def))), [], [("SIZES", [("on", (.int 3)), ("off", (.int 3)), ("like", (.int 3)), ("unlike", (.int 3)), ("both", (.int 4)), ("notboth", (.int 4))])], [], [("BadStatement", ["BadStatement", "SheetError"])]⟩
theorem nd : (pg.defs.map (·.1)).Nodup := by decide +kernel
theorem at_is_number : pg.defs[0]? = some (Str.ofString "is_number", Cd.D_is_number) := rfl
theorem at_is_statement : pg.defs[1]? = some (Str.ofString "is_statement", Cd.D_is_statement) := rfl
theorem at_check_statement : pg.defs[2]? = some (Str.ofString "check_statement", Cd.D_check_statement) := rfl
theorem at_line_of : pg.defs[3]? = some (Str.ofString "line_of", Cd.D_line_of) := rfl
theorem at_base : pg.defs[4]? = some (Str.ofString "base", Cd.D_base) := rfl
theorem at_less : pg.defs[5]? = some (Str.ofString "less", Cd.D_less) := rfl
theorem at_both_ways : pg.defs[6]? = some (Str.ofString "both_ways", Cd.D_both_ways) := rfl
theorem at_other_line : pg.defs[7]? = some (Str.ofString "other_line", Cd.D_other_line) := rfl
theorem at_pair_clauses : pg.defs[8]? = some (Str.ofString "pair_clauses", Cd.D_pair_clauses) := rfl
theorem at_clauses : pg.defs[9]? = some (Str.ofString "clauses", Cd.D_clauses) := rfl
theorem at__law_draw : pg.defs[10]? = some (Str.ofString "_law_draw", Cd.D__law_draw) := rfl
theorem at__law_words : pg.defs[11]? = some (Str.ofString "_law_words", Cd.D__law_words) := rfl
theorem at__law_statement : pg.defs[12]? = some (Str.ofString "_law_statement", Cd.D__law_statement) := rfl
theorem at__law_facts : pg.defs[13]? = some (Str.ofString "_law_facts", Cd.D__law_facts) := rfl
theorem at__law_turn : pg.defs[14]? = some (Str.ofString "_law_turn", Cd.D__law_turn) := rfl
theorem at__law_holds : pg.defs[15]? = some (Str.ofString "_law_holds", Cd.D__law_holds) := rfl
theorem at__law_keeps : pg.defs[16]? = some (Str.ofString "_law_keeps", Cd.D__law_keeps) := rfl
theorem at__law_right : pg.defs[17]? = some (Str.ofString "_law_right", Cd.D__law_right) := rfl
theorem at__law_drawn : pg.defs[18]? = some (Str.ofString "_law_drawn", Cd.D__law_drawn) := rfl
theorem at__law_line : pg.defs[19]? = some (Str.ofString "_law_line", Cd.D__law_line) := rfl
theorem at__law_base : pg.defs[20]? = some (Str.ofString "_law_base", Cd.D__law_base) := rfl
theorem at__law_more : pg.defs[21]? = some (Str.ofString "_law_more", Cd.D__law_more) := rfl
theorem at__law_eight : pg.defs[22]? = some (Str.ofString "_law_eight", Cd.D__law_eight) := rfl
theorem at__law_clauses : pg.defs[23]? = some (Str.ofString "_law_clauses", Cd.D__law_clauses) := rfl
theorem at__law_all : pg.defs[24]? = some (Str.ofString "_law_all", Cd.D__law_all) := rfl
theorem at__law_sum : pg.defs[25]? = some (Str.ofString "_law_sum", Cd.D__law_sum) := rfl
theorem at__law_shown : pg.defs[26]? = some (Str.ofString "_law_shown", Cd.D__law_shown) := rfl
theorem at__law_paper : pg.defs[27]? = some (Str.ofString "_law_paper", Cd.D__law_paper) := rfl
theorem at__law_like : pg.defs[28]? = some (Str.ofString "_law_like", Cd.D__law_like) := rfl
theorem at__law_kept : pg.defs[29]? = some (Str.ofString "_law_kept", Cd.D__law_kept) := rfl
theorem at__law_met : pg.defs[30]? = some (Str.ofString "_law_met", Cd.D__law_met) := rfl
end Lw

set_option maxHeartbeats 0
namespace Lw
open PySem PySem.Spec L2 RZ Pm Cd
def Pg : Pm.PgX := ⟨pg, [], ["len", "min", "max", "int", "str", "list", "tuple", "sum", "all", "isinstance", "range", "bool", "dict"]⟩
end Lw
namespace Lw
open PySem PySem.Spec L2 RZ Pm Cd
def topS (i : Nat) : Stmt := PySem.Challenge.pw_sheetsfit_k02_whole_rows.main.body.getD i (.Pass ⟨0, 0, 0, 0⟩)
def T_is_number : Sc := ⟨["thing", "many"], [0, 1], [], ["isinstance", "int", "bool"], [], defScope (topS 5), true⟩
theorem k_is_number : T_is_number.ok = true := by decide +kernel
theorem b_is_number : BindF "is_number" "is_number" (topS 5) ["thing", "many"] := fun _ _ _ _ _ _ us hl => match us, hl with | [_, _], _ => rfl
theorem r_is_number (R : RdC) (k : Nat) : DSs Pg R k T_is_number (defBody (topS 5)) c_is_number := (d_one (d_ret (fun _ => (e_and (e_isi .int 0 9 1 3 rfl rfl rfl rfl rfl (e_var 0 rfl rfl)) (e_and (e_not (e_isi .bool 0 9 2 11 rfl rfl rfl rfl rfl (e_var 0 rfl rfl))) (e_one (e_chain .le .lt e_int (e_var 0 rfl rfl) (e_var 1 rfl rfl))))))))
def T_is_statement : Sc := ⟨["many", "thing", "one"], [1], [], ["isinstance", "tuple", "str", "SIZES", "len", "all"], ["many"], defScope (topS 6), true⟩
theorem k_is_statement : T_is_statement.ok = true := by decide +kernel
theorem b_is_statement : BindF "is_statement" "is_statement" (topS 6) ["many", "thing"] := fun _ _ _ _ _ _ us hl => match us, hl with | [_, _], _ => rfl
theorem r_is_statement (R : RdC) (k : Nat) : DSs Pg R k T_is_statement (defBody (topS 6)) c_is_statement := (d_cons (d_if (fun _ => (t_w (w_or (t_not (t_e (e_isi .tuple 0 9 1 6 rfl rfl rfl rfl rfl (e_var 1 rfl rfl)))) (w_or (t_not (t_e (e_var 1 rfl rfl))) (w_or (t_not (t_e (e_isi .str 0 9 2 4 rfl rfl rfl rfl rfl (e_idx (e_var 1 rfl rfl) e_int)))) (w_or1 (t_tabNot 3 0 rfl rfl (e_idx (e_var 1 rfl rfl) e_int)))))))) (d_one (d_ret (fun _ => e_bl))) d_nil) (d_cons (d_if (fun _ => (t_w (w_or (t_cmp .ne (e_blt .len 4 0 rfl rfl rfl (a_cons (e_var 1 rfl rfl) a_nil)) (e_tabGet 3 0 rfl rfl (e_idx (e_var 1 rfl rfl) e_int))) (w_or1 (t_not (t_e (e_blt .all 5 8 rfl rfl rfl (a_cons (e_lc [("one", 2)] [2, 0] [2] ["is_number"] [] (i_seq (e_sl (e_var 1 rfl rfl) (o_some e_int) o_none)) (g_nm 2 rfl rfl) c_nil (e_call 0 0 rfl rfl (as_cons (e_var 2 rfl rfl) (as_cons (e_var 0 rfl rfl) as_nil)))) a_nil)))))))) (d_one (d_ret (fun _ => e_bl))) d_nil) (d_one (d_ret (fun _ => (e_cmp .eq (e_lenDc 4 0 [("one", 2)] [2] [2] [] [] rfl rfl (i_seq (e_sl (e_var 1 rfl rfl) (o_some e_int) o_none)) (g_nm 2 rfl rfl) (e_var 2 rfl rfl) e_bl) (e_bin .sub (e_blt .len 4 0 rfl rfl rfl (a_cons (e_var 1 rfl rfl) a_nil)) e_int)))))))
def T_check_statement : Sc := ⟨["many", "thing"], [0, 1], [], ["is_statement", "BadStatement"], [], defScope (topS 7), true⟩
theorem k_check_statement : T_check_statement.ok = true := by decide +kernel
theorem b_check_statement : BindF "check_statement" "check_statement" (topS 7) ["many", "thing"] := fun _ _ _ _ _ _ us hl => match us, hl with | [_, _], _ => rfl
theorem r_check_statement (R : RdC) (k : Nat) : DSs Pg R k T_check_statement (defBody (topS 7)) c_check_statement := (d_one (d_if (fun _ => (t_not (t_e (e_call 0 1 rfl rfl (as_cons (e_var 0 rfl rfl) (as_cons (e_var 1 rfl rfl) as_nil)))))) (d_one (d_raise 1 0 rfl rfl)) d_nil))
def T_line_of : Sc := ⟨["many", "parts", "least", "numbers", "sheet", "side", "number", "place"], [1, 3, 4, 5, 6, 0, 2], [3, 4, 5, 6], ["tuple", "range"], ["numbers"], defScope (topS 9), true⟩
theorem k_line_of : T_line_of.ok = true := by decide +kernel
theorem b_line_of : BindF "line_of" "line_of" (topS 9) ["many", "parts", "least"] := fun _ _ _ _ _ _ us hl => match us, hl with | [_, _, _], _ => rfl
theorem r_line_of (R : RdC) (k : Nat) : DSs Pg R k T_line_of (defBody (topS 9)) c_line_of := (d_cons (d_dict0 3 rfl rfl) (d_cons (d_for (fun _ => (i_seq (e_var 1 rfl rfl))) (g_tup (gs_cons (g_nm 4 rfl rfl) (gs_cons (g_nm 5 rfl rfl) (gs_cons (g_nm 6 rfl rfl) gs_nil)))) (d_one (d_dput 3 rfl rfl (fun _ => (e_bin .add (e_bin .mul e_int (e_var 4 rfl rfl)) (e_var 5 rfl rfl))) (fun _ => (e_bin .add (e_dgetOr 3 rfl rfl (e_bin .add (e_bin .mul e_int (e_var 4 rfl rfl)) (e_var 5 rfl rfl)) e_int) (e_var 6 rfl rfl)))))) (d_one (d_ret (fun _ => (e_tup (a_cons (e_blt .tuple 0 6 rfl rfl rfl (a_cons (e_lc [("place", 7)] [3, 7] [7] [] [] (i_rng1 1 10 rfl rfl (e_bin .mul e_int (e_var 0 rfl rfl))) (g_nm 7 rfl rfl) c_nil (e_dgetOr 3 rfl rfl (e_var 7 rfl rfl) e_int)) a_nil)) (a_cons (e_var 2 rfl rfl) a_nil))))))))
def T_base : Sc := ⟨["many", "found", "sheet"], [0, 2, 1], [1, 2], ["range", "line_of"], [], defScope (topS 10), true⟩
theorem k_base : T_base.ok = true := by decide +kernel
theorem b_base : BindF "base" "base" (topS 10) ["many"] := fun _ _ _ _ _ _ us hl => match us, hl with | [_], _ => rfl
theorem r_base (R : RdC) (k : Nat) : DSs Pg R k T_base (defBody (topS 10)) c_base := (d_cons (d_asgO 1 rfl rfl (fun _ => (e_lst a_nil))) (d_cons (d_for (fun _ => (i_rng1 0 10 rfl rfl (e_var 0 rfl rfl))) (g_nm 2 rfl rfl) (d_cons (d_app 1 rfl rfl (fun _ => (e_call 1 3 rfl rfl (as_cons (e_var 0 rfl rfl) (as_cons (e_lst (a_cons (e_tup (a_cons (e_var 2 rfl rfl) (a_cons e_int (a_cons e_int a_nil)))) a_nil)) (as_cons e_int as_nil)))))) (d_one (d_app 1 rfl rfl (fun _ => (e_call 1 3 rfl rfl (as_cons (e_var 0 rfl rfl) (as_cons (e_lst (a_cons (e_tup (a_cons (e_var 2 rfl rfl) (a_cons e_int (a_cons e_int a_nil)))) (a_cons (e_tup (a_cons (e_var 2 rfl rfl) (a_cons e_int (a_cons (e_neg e_int) a_nil)))) a_nil))) (as_cons e_int as_nil))))))))) (d_fz [1] (d_one (d_ret (fun _ => (e_var 1 rfl rfl)))))))
def T_less : Sc := ⟨["many", "one", "other", "side", "least"], [0, 2, 3, 1, 4], [], ["line_of"], [], defScope (topS 11), true⟩
theorem k_less : T_less.ok = true := by decide +kernel
theorem b_less : BindF "less" "less" (topS 11) ["many", "one", "other", "side", "least"] := fun _ _ _ _ _ _ us hl => match us, hl with | [_, _, _, _, _], _ => rfl
theorem r_less (R : RdC) (k : Nat) : DSs Pg R k T_less (defBody (topS 11)) c_less := (d_one (d_ret (fun _ => (e_call 0 3 rfl rfl (as_cons (e_var 0 rfl rfl) (as_cons (e_lst (a_cons (e_tup (a_cons (e_var 2 rfl rfl) (a_cons (e_var 3 rfl rfl) (a_cons e_int a_nil)))) (a_cons (e_tup (a_cons (e_var 1 rfl rfl) (a_cons (e_var 3 rfl rfl) (a_cons (e_neg e_int) a_nil)))) a_nil))) (as_cons (e_var 4 rfl rfl) as_nil)))))))
def T_both_ways : Sc := ⟨["many", "a", "b", "c", "found", "k", "i", "j", "first", "second"], [0, 3, 5, 1, 6, 2, 7, 8, 9, 4], [4, 5, 6, 7, 8, 9], ["line_of"], [], defScope (topS 12), true⟩
theorem k_both_ways : T_both_ways.ok = true := by decide +kernel
theorem b_both_ways : BindF "both_ways" "both_ways" (topS 12) ["many", "a", "b", "c"] := fun _ _ _ _ _ _ us hl => match us, hl with | [_, _, _, _], _ => rfl
theorem r_both_ways (R : RdC) (k : Nat) : DSs Pg R k T_both_ways (defBody (topS 12)) c_both_ways := (d_cons (d_asgO 4 rfl rfl (fun _ => (e_lst a_nil))) (d_cons (d_for (fun _ => (i_seq (e_tup (a_cons e_int (a_cons e_int a_nil))))) (g_nm 5 rfl rfl) (d_one (d_for (fun _ => (i_seq (e_tup (a_cons e_int (a_cons e_int a_nil))))) (g_nm 6 rfl rfl) (d_one (d_for (fun _ => (i_seq (e_tup (a_cons e_int (a_cons e_int a_nil))))) (g_nm 7 rfl rfl) (d_cons (d_asg 8 rfl rfl (fun _ => (e_call 0 3 rfl rfl (as_cons (e_var 0 rfl rfl) (as_cons (e_lst (a_cons (e_tup (a_cons (e_var 3 rfl rfl) (a_cons (e_var 5 rfl rfl) (a_cons e_int a_nil)))) (a_cons (e_tup (a_cons (e_var 1 rfl rfl) (a_cons (e_var 6 rfl rfl) (a_cons (e_neg e_int) a_nil)))) (a_cons (e_tup (a_cons (e_var 2 rfl rfl) (a_cons (e_var 7 rfl rfl) (a_cons (e_neg e_int) a_nil)))) a_nil)))) (as_cons e_int as_nil)))))) (d_cons (d_asg 9 rfl rfl (fun _ => (e_call 0 3 rfl rfl (as_cons (e_var 0 rfl rfl) (as_cons (e_lst (a_cons (e_tup (a_cons (e_var 3 rfl rfl) (a_cons (e_bin .sub e_int (e_var 5 rfl rfl)) (a_cons e_int a_nil)))) (a_cons (e_tup (a_cons (e_var 1 rfl rfl) (a_cons (e_bin .sub e_int (e_var 6 rfl rfl)) (a_cons (e_neg e_int) a_nil)))) a_nil))) (as_cons e_int as_nil)))))) (d_one (d_app 4 rfl rfl (fun _ => (e_lst (a_cons (e_var 8 rfl rfl) (a_cons (e_var 9 rfl rfl) (a_cons (e_call 0 3 rfl rfl (as_cons (e_var 0 rfl rfl) (as_cons (e_lst (a_cons (e_tup (a_cons (e_var 3 rfl rfl) (a_cons (e_bin .sub e_int (e_var 5 rfl rfl)) (a_cons e_int a_nil)))) (a_cons (e_tup (a_cons (e_var 2 rfl rfl) (a_cons (e_bin .sub e_int (e_var 7 rfl rfl)) (a_cons (e_neg e_int) a_nil)))) a_nil))) (as_cons e_int as_nil)))) a_nil)))))))))))))) (d_fz [4] (d_one (d_ret (fun _ => (e_var 4 rfl rfl)))))))
def T_other_line : Sc := ⟨["line", "number"], [0], [], ["tuple"], [], defScope (topS 13), true⟩
theorem k_other_line : T_other_line.ok = true := by decide +kernel
theorem b_other_line : BindF "other_line" "other_line" (topS 13) ["line"] := fun _ _ _ _ _ _ us hl => match us, hl with | [_], _ => rfl
theorem r_other_line (R : RdC) (k : Nat) : DSs Pg R k T_other_line (defBody (topS 13)) c_other_line := (d_one (d_ret (fun _ => (e_tup (a_cons (e_blt .tuple 0 6 rfl rfl rfl (a_cons (e_lc [("number", 1)] [1] [1] [] [] (i_seq (e_idx (e_var 0 rfl rfl) e_int)) (g_nm 1 rfl rfl) c_nil (e_neg (e_var 1 rfl rfl))) a_nil)) (a_cons e_int a_nil))))))
def T_pair_clauses : Sc := ⟨["many", "word", "a", "b", "rows", "ways", "one"], [1, 0, 2, 3, 4, 5], [4, 5], ["less"], [], defScope (topS 14), true⟩
theorem k_pair_clauses : T_pair_clauses.ok = true := by decide +kernel
theorem b_pair_clauses : BindF "pair_clauses" "pair_clauses" (topS 14) ["many", "word", "a", "b"] := fun _ _ _ _ _ _ us hl => match us, hl with | [_, _, _, _], _ => rfl
theorem r_pair_clauses (R : RdC) (k : Nat) : DSs Pg R k T_pair_clauses (defBody (topS 14)) c_pair_clauses := (d_cons (d_if (fun _ => (t_cmp .eq (e_var 1 rfl rfl) e_str)) (d_one (d_ret (fun _ => (e_lst (a_cons (e_lst (a_cons (e_lst (a_cons (e_call 0 5 rfl rfl (as_cons (e_var 0 rfl rfl) (as_cons (e_var 2 rfl rfl) (as_cons (e_var 3 rfl rfl) (as_cons e_int (as_cons e_int as_nil)))))) (a_cons (e_call 0 5 rfl rfl (as_cons (e_var 0 rfl rfl) (as_cons (e_var 2 rfl rfl) (as_cons (e_var 3 rfl rfl) (as_cons e_int (as_cons e_int as_nil)))))) a_nil))) a_nil)) a_nil))))) d_nil) (d_cons (d_if (fun _ => (t_cmp .eq (e_var 1 rfl rfl) e_str)) (d_one (d_ret (fun _ => (e_lst (a_cons (e_lst (a_cons (e_lst (a_cons (e_call 0 5 rfl rfl (as_cons (e_var 0 rfl rfl) (as_cons (e_var 3 rfl rfl) (as_cons (e_var 2 rfl rfl) (as_cons e_int (as_cons e_int as_nil)))))) a_nil)) (a_cons (e_lst (a_cons (e_call 0 5 rfl rfl (as_cons (e_var 0 rfl rfl) (as_cons (e_var 3 rfl rfl) (as_cons (e_var 2 rfl rfl) (as_cons e_int (as_cons e_int as_nil)))))) a_nil)) a_nil))) a_nil))))) d_nil) (d_cons (d_if (fun _ => (t_cmp .eq (e_var 1 rfl rfl) e_str)) (d_cons (d_asg 4 rfl rfl (fun _ => (e_lst (a_cons (e_call 0 5 rfl rfl (as_cons (e_var 0 rfl rfl) (as_cons (e_var 3 rfl rfl) (as_cons (e_var 2 rfl rfl) (as_cons e_int (as_cons e_int as_nil)))))) (a_cons (e_call 0 5 rfl rfl (as_cons (e_var 0 rfl rfl) (as_cons (e_var 2 rfl rfl) (as_cons (e_var 3 rfl rfl) (as_cons e_int (as_cons e_int as_nil)))))) (a_cons (e_call 0 5 rfl rfl (as_cons (e_var 0 rfl rfl) (as_cons (e_var 3 rfl rfl) (as_cons (e_var 2 rfl rfl) (as_cons e_int (as_cons e_int as_nil)))))) (a_cons (e_call 0 5 rfl rfl (as_cons (e_var 0 rfl rfl) (as_cons (e_var 2 rfl rfl) (as_cons (e_var 3 rfl rfl) (as_cons e_int (as_cons e_int as_nil)))))) a_nil))))))) (d_one (d_ret (fun _ => (e_lst (a_cons (e_lst (a_cons (e_var 4 rfl rfl) a_nil)) a_nil)))))) d_nil) (d_cons (d_asg 5 rfl rfl (fun _ => (e_lst (a_cons (e_call 0 5 rfl rfl (as_cons (e_var 0 rfl rfl) (as_cons (e_var 2 rfl rfl) (as_cons (e_var 3 rfl rfl) (as_cons e_int (as_cons e_int as_nil)))))) (a_cons (e_call 0 5 rfl rfl (as_cons (e_var 0 rfl rfl) (as_cons (e_var 3 rfl rfl) (as_cons (e_var 2 rfl rfl) (as_cons e_int (as_cons e_int as_nil)))))) (a_cons (e_call 0 5 rfl rfl (as_cons (e_var 0 rfl rfl) (as_cons (e_var 2 rfl rfl) (as_cons (e_var 3 rfl rfl) (as_cons e_int (as_cons e_int as_nil)))))) (a_cons (e_call 0 5 rfl rfl (as_cons (e_var 0 rfl rfl) (as_cons (e_var 3 rfl rfl) (as_cons (e_var 2 rfl rfl) (as_cons e_int (as_cons e_int as_nil)))))) a_nil))))))) (d_one (d_ret (fun _ => (e_lst (a_cons (e_lc [("one", 6)] [6] [6] [] [] (i_seq (e_var 5 rfl rfl)) (g_nm 6 rfl rfl) c_nil (e_lst (a_cons (e_var 6 rfl rfl) a_nil))) a_nil)))))))))
def T_clauses : Sc := ⟨["many", "statement", "ways", "way", "line"], [0, 1, 2], [2], ["check_statement", "len", "pair_clauses", "both_ways"], [], defScope (topS 15), true⟩
theorem k_clauses : T_clauses.ok = true := by decide +kernel
theorem b_clauses : BindF "clauses" "clauses" (topS 15) ["many", "statement"] := fun _ _ _ _ _ _ us hl => match us, hl with | [_, _], _ => rfl
theorem r_clauses (R : RdC) (k : Nat) : DSs Pg R k T_clauses (defBody (topS 15)) c_clauses := (d_cons (d_drop (fun _ => (e_call 0 2 rfl rfl (as_cons (e_var 0 rfl rfl) (as_cons (e_var 1 rfl rfl) as_nil))))) (d_cons (d_if (fun _ => (t_cmp .eq (e_blt .len 1 0 rfl rfl rfl (a_cons (e_var 1 rfl rfl) a_nil)) e_int)) (d_one (d_ret (fun _ => (e_call 2 8 rfl rfl (as_cons (e_var 0 rfl rfl) (as_cons (e_idx (e_var 1 rfl rfl) e_int) (as_cons (e_idx (e_var 1 rfl rfl) e_int) (as_cons (e_idx (e_var 1 rfl rfl) e_int) as_nil)))))))) d_nil) (d_cons (d_asg 2 rfl rfl (fun _ => (e_call 3 6 rfl rfl (as_cons (e_var 0 rfl rfl) (as_cons (e_idx (e_var 1 rfl rfl) e_int) (as_cons (e_idx (e_var 1 rfl rfl) e_int) (as_cons (e_idx (e_var 1 rfl rfl) e_int) as_nil))))))) (d_cons (d_if (fun _ => (t_cmp .eq (e_idx (e_var 1 rfl rfl) e_int) e_str)) (d_one (d_ret (fun _ => (e_lst (a_cons (e_var 2 rfl rfl) a_nil))))) d_nil) (d_one (d_ret (fun _ => (e_lc [("way", 3)] [3] [3] [] [] (i_seq (e_var 2 rfl rfl)) (g_nm 3 rfl rfl) c_nil (e_lc [("line", 4)] [4] [4] ["other_line"] [] (i_seq (e_var 3 rfl rfl)) (g_nm 4 rfl rfl) c_nil (e_lst (a_cons (e_call 0 7 rfl rfl (as_cons (e_var 4 rfl rfl) as_nil)) a_nil)))))))))))
def T__law_begin : Sc := ⟨["_law_script"], [0], [], ["list"], [], defScope (topS 17), true⟩
theorem k__law_begin : T__law_begin.ok = true := by decide +kernel
theorem b__law_begin : BindF "_law_begin" "_law_begin" (topS 17) ["_law_script"] := fun _ _ _ _ _ _ us hl => match us, hl with | [_], _ => rfl
theorem r__law_begin (R : RdC) (k : Nat) : DSs Pg R k T__law_begin (defBody (topS 17)) cBegin := (d_one (d_ret (fun _ => (e_lst (a_cons (e_blt .list 0 5 rfl rfl rfl (a_cons (e_var 0 rfl rfl) a_nil)) (a_cons e_int (a_cons e_int (a_cons e_int a_nil))))))))
def T__law_draw : Sc := ⟨["_law_draws", "_law_size", "_law_cell", "_law_found"], [0, 2, 1, 3], [2, 3], ["len", "int"], [], defScope (topS 18), true⟩
theorem k__law_draw : T__law_draw.ok = true := by decide +kernel
theorem b__law_draw : BindF "_law_draw" "_law_draw" (topS 18) ["_law_draws", "_law_size"] := fun _ _ _ _ _ _ us hl => match us, hl with | [_, _], _ => rfl
theorem r__law_draw (R : RdC) (k : Nat) : DSs Pg R k T__law_draw (defBody (topS 18)) c__law_draw := (d_cons (d_if (fun _ => (t_cmp .eq (e_idxV 0 rfl rfl e_int) e_int)) (d_one (d_if (fun _ => (t_cmp .lt (e_idxV 0 rfl rfl e_int) (e_blt .len 0 0 rfl rfl rfl (a_cons (e_idxV 0 rfl rfl e_int) a_nil)))) (d_cons (d_asg 2 rfl rfl (fun _ => (e_idx (e_idxV 0 rfl rfl e_int) (e_idxV 0 rfl rfl e_int)))) (d_cons (d_setI 0 rfl rfl (fun _ => e_int) (fun _ => (e_bin .add (e_idxV 0 rfl rfl e_int) e_int))) (d_one (d_if (fun _ => (t_cmp .ge (e_var 2 rfl rfl) (e_bin .pow e_int e_int))) (d_one (d_setI 0 rfl rfl (fun _ => e_int) (fun _ => (e_var 2 rfl rfl)))) (d_one (d_setI 0 rfl rfl (fun _ => e_int) (fun _ => (e_bin .mod (e_blt .int 1 3 rfl rfl rfl (a_cons (e_bin .add (e_bin .add (e_bin .mul (e_idxV 0 rfl rfl e_int) e_int) (e_bin .mul (e_var 2 rfl rfl) e_int)) e_int) a_nil)) e_int)))))))) (d_one (d_setI 0 rfl rfl (fun _ => e_int) (fun _ => (e_bin .mod (e_blt .int 1 3 rfl rfl rfl (a_cons (e_bin .add (e_bin .mul (e_idxV 0 rfl rfl e_int) e_int) e_int) a_nil)) e_int)))))) d_nil) (d_cons (d_if (fun _ => (t_cmp .gt (e_idxV 0 rfl rfl e_int) e_int)) (d_cons (d_asg 3 rfl rfl (fun _ => (e_bin .mod (e_blt .int 1 3 rfl rfl rfl (a_cons (e_idxV 0 rfl rfl e_int) a_nil)) (e_var 1 rfl rfl)))) (d_cons (d_setI 0 rfl rfl (fun _ => e_int) (fun _ => (e_bin .fdiv (e_idxV 0 rfl rfl e_int) (e_var 1 rfl rfl)))) (d_one (d_ret (fun _ => (e_var 3 rfl rfl)))))) d_nil) (d_one (d_ret (fun _ => (e_bin .mod (e_bin .mod (e_blt .int 1 3 rfl rfl rfl (a_cons (e_bin .mul (e_idxV 0 rfl rfl e_int) e_int) a_nil)) e_int) (e_var 1 rfl rfl)))))))
def T__law_words : Sc := ⟨[], [], [], [], [], defScope (topS 19), true⟩
theorem k__law_words : T__law_words.ok = true := by decide +kernel
theorem b__law_words : BindF "_law_words" "_law_words" (topS 19) [] := fun _ _ _ _ _ _ us hl => match us, hl with | [], _ => rfl
theorem r__law_words (R : RdC) (k : Nat) : DSs Pg R k T__law_words (defBody (topS 19)) c__law_words := (d_one (d_ret (fun _ => (e_lst (a_cons e_str (a_cons e_str (a_cons e_str (a_cons e_str (a_cons e_str (a_cons e_str a_nil))))))))))
def T__law_statement : Sc := ⟨["_law_draws", "_law_many", "_law_top", "_law_word", "_law_left", "_law_found", "_law_k", "_law_at"], [1, 0, 2, 3, 4, 7, 5], [2, 3, 4, 5, 6, 7], ["min", "max", "_law_draw", "_law_words", "list", "range", "int", "len", "tuple"], [], defScope (topS 20), true⟩
theorem k__law_statement : T__law_statement.ok = true := by decide +kernel
theorem b__law_statement : BindF "_law_statement" "_law_statement" (topS 20) ["_law_draws", "_law_many"] := fun _ _ _ _ _ _ us hl => match us, hl with | [_, _], _ => rfl
theorem r__law_statement (R : RdC) (k : Nat) : DSs Pg R k T__law_statement (defBody (topS 20)) c__law_statement := (d_cons (d_asg 2 rfl rfl (fun _ => (e_idx (e_lst (a_cons e_int (a_cons e_int (a_cons e_int a_nil)))) (e_blt .min 0 1 rfl rfl rfl (a_cons (e_blt .max 1 2 rfl rfl rfl (a_cons (e_bin .sub e_int (e_var 1 rfl rfl)) (a_cons e_int a_nil))) (a_cons e_int a_nil)))))) (d_cons (d_asg 3 rfl rfl (fun _ => (e_idx (e_call0 3 11 rfl rfl) (e_call 2 10 rfl rfl (as_vr 0 rfl rfl (as_cons (e_var 2 rfl rfl) as_nil)))))) (d_cons (d_asg 4 rfl rfl (fun _ => (e_lrng 4 5 5 10 rfl rfl rfl rfl (e_var 1 rfl rfl)))) (d_cons (d_asgO 5 rfl rfl (fun _ => (e_lst (a_cons (e_var 3 rfl rfl) a_nil)))) (d_cons (d_for (fun _ => (i_rng1 5 10 rfl rfl (e_idx (e_lst (a_cons e_int (a_cons e_int a_nil))) (e_blt .int 6 3 rfl rfl rfl (a_cons (e_cmp .inn (e_var 3 rfl rfl) (e_lst (a_cons e_str (a_cons e_str a_nil)))) a_nil))))) (g_nm 6 rfl rfl) (d_cons (d_asg 7 rfl rfl (fun _ => (e_call 2 10 rfl rfl (as_vr 0 rfl rfl (as_cons (e_blt .len 7 0 rfl rfl rfl (a_cons (e_var 4 rfl rfl) a_nil)) as_nil))))) (d_cons (d_app 5 rfl rfl (fun _ => (e_idx (e_var 4 rfl rfl) (e_var 7 rfl rfl)))) (d_one (d_asg 4 rfl rfl (fun _ => (e_bin .add (e_sl (e_var 4 rfl rfl) o_none (o_some (e_var 7 rfl rfl))) (e_sl (e_var 4 rfl rfl) (o_some (e_bin .add (e_var 7 rfl rfl) e_int)) o_none)))))))) (d_fz [5] (d_one (d_ret (fun _ => (e_blt .tuple 8 6 rfl rfl rfl (a_cons (e_var 5 rfl rfl) a_nil)))))))))))
def T__law_facts : Sc := ⟨["_law_draws", "_law_many", "_law_size", "_law_k"], [2], [], ["range"], ["_law_draws", "_law_many"], defScope (topS 21), true⟩
theorem k__law_facts : T__law_facts.ok = true := by decide +kernel
theorem b__law_facts : BindF "_law_facts" "_law_facts" (topS 21) ["_law_draws", "_law_many", "_law_size"] := fun _ _ _ _ _ _ us hl => match us, hl with | [_, _, _], _ => rfl
theorem r__law_facts (R : RdC) (k : Nat) : DSs Pg R k T__law_facts (defBody (topS 21)) c__law_facts := (d_one (d_ret (fun _ => (e_lc [("_law_k", 3)] [0, 1] [3] ["_law_statement"] [] (i_rng1 0 10 rfl rfl (e_var 2 rfl rfl)) (g_nm 3 rfl rfl) c_nil (e_call 0 12 rfl rfl (as_vr 0 rfl rfl (as_cons (e_var 1 rfl rfl) as_nil)))))))
def T__law_turn : Sc := ⟨["_law_statement_here", "_law_pairs"], [0, 1], [1], [], [], defScope (topS 22), true⟩
theorem k__law_turn : T__law_turn.ok = true := by decide +kernel
theorem b__law_turn : BindF "_law_turn" "_law_turn" (topS 22) ["_law_statement_here"] := fun _ _ _ _ _ _ us hl => match us, hl with | [_], _ => rfl
theorem r__law_turn (R : RdC) (k : Nat) : DSs Pg R k T__law_turn (defBody (topS 22)) c__law_turn := (d_cons (d_dict 1 rfl rfl (p_cons (p_cons (p_cons (p_cons (p_cons (p_cons p_nil))))))) (d_one (d_ret (fun _ => (e_bin .add (e_tup (a_cons (e_dget 1 rfl rfl (e_idx (e_var 0 rfl rfl) e_int)) a_nil)) (e_sl (e_var 0 rfl rfl) (o_some e_int) o_none))))))
def T__law_holds : Sc := ⟨["_law_statement_here", "_law_sizes", "_law_a", "_law_b", "_law_word", "_law_c", "_law_found", "_law_first", "_law_second", "_law_third"], [0, 1, 4, 2, 3, 5, 7, 8, 9, 6], [2, 3, 4, 5, 6, 7, 8, 9], ["list", "max"], [], defScope (topS 23), true⟩
theorem k__law_holds : T__law_holds.ok = true := by decide +kernel
theorem b__law_holds : BindF "_law_holds" "_law_holds" (topS 23) ["_law_statement_here", "_law_sizes"] := fun _ _ _ _ _ _ us hl => match us, hl with | [_, _], _ => rfl
theorem r__law_holds (R : RdC) (k : Nat) : DSs Pg R k T__law_holds (defBody (topS 23)) c__law_holds := (d_cons (d_asg 2 rfl rfl (fun _ => (e_blt .list 0 5 rfl rfl rfl (a_cons (e_idx (e_var 1 rfl rfl) (e_idx (e_var 0 rfl rfl) e_int)) a_nil)))) (d_cons (d_asg 3 rfl rfl (fun _ => (e_blt .list 0 5 rfl rfl rfl (a_cons (e_idx (e_var 1 rfl rfl) (e_idx (e_var 0 rfl rfl) e_int)) a_nil)))) (d_cons (d_asg 4 rfl rfl (fun _ => (e_idx (e_var 0 rfl rfl) e_int))) (d_cons (d_if (fun _ => (t_cmp .inn (e_var 4 rfl rfl) (e_lst (a_cons e_str (a_cons e_str a_nil))))) (d_one (d_ret (fun _ => (e_cmp .eq (e_and (e_cmp .lt (e_idx (e_var 2 rfl rfl) e_int) (e_idx (e_var 3 rfl rfl) e_int)) (e_one (e_cmp .lt (e_idx (e_var 2 rfl rfl) e_int) (e_idx (e_var 3 rfl rfl) e_int)))) (e_cmp .eq (e_var 4 rfl rfl) e_str))))) d_nil) (d_cons (d_if (fun _ => (t_cmp .inn (e_var 4 rfl rfl) (e_lst (a_cons e_str (a_cons e_str a_nil))))) (d_one (d_ret (fun _ => (e_cmp .eq (e_cmp .eq (e_var 2 rfl rfl) (e_var 3 rfl rfl)) (e_cmp .eq (e_var 4 rfl rfl) e_str))))) d_nil) (d_cons (d_asg 5 rfl rfl (fun _ => (e_idx (e_var 1 rfl rfl) (e_idx (e_var 0 rfl rfl) e_int)))) (d_cons (d_asg 6 rfl rfl (fun _ => e_bl)) (d_cons (d_for (fun _ => (i_seq (e_lst (a_cons (e_var 2 rfl rfl) (a_cons (e_rev (e_var 2 rfl rfl)) a_nil))))) (g_nm 7 rfl rfl) (d_one (d_for (fun _ => (i_seq (e_lst (a_cons (e_var 3 rfl rfl) (a_cons (e_rev (e_var 3 rfl rfl)) a_nil))))) (g_nm 8 rfl rfl) (d_one (d_for (fun _ => (i_seq (e_lst (a_cons (e_lst (a_cons (e_idx (e_var 5 rfl rfl) e_int) (a_cons (e_idx (e_var 5 rfl rfl) e_int) a_nil))) (a_cons (e_lst (a_cons (e_idx (e_var 5 rfl rfl) e_int) (a_cons (e_idx (e_var 5 rfl rfl) e_int) a_nil))) a_nil))))) (g_nm 9 rfl rfl) (d_one (d_if (fun _ => (t_w (w_and (t_cmp .lt (e_bin .add (e_idx (e_var 7 rfl rfl) e_int) (e_idx (e_var 8 rfl rfl) e_int)) (e_idx (e_var 9 rfl rfl) e_int)) (w_and1 (t_cmp .lt (e_blt .max 1 2 rfl rfl rfl (a_cons (e_idx (e_var 7 rfl rfl) e_int) (a_cons (e_idx (e_var 8 rfl rfl) e_int) a_nil))) (e_idx (e_var 9 rfl rfl) e_int)))))) (d_one (d_asg 6 rfl rfl (fun _ => e_bl))) d_nil))))))) (d_one (d_ret (fun _ => (e_cmp .eq (e_var 6 rfl rfl) (e_cmp .eq (e_var 4 rfl rfl) e_str)))))))))))))
def T__law_keeps : Sc := ⟨["_law_facts_here", "_law_sizes", "_law_fact"], [0], [], ["len"], ["_law_sizes"], defScope (topS 24), true⟩
theorem k__law_keeps : T__law_keeps.ok = true := by decide +kernel
theorem b__law_keeps : BindF "_law_keeps" "_law_keeps" (topS 24) ["_law_facts_here", "_law_sizes"] := fun _ _ _ _ _ _ us hl => match us, hl with | [_, _], _ => rfl
theorem r__law_keeps (R : RdC) (k : Nat) : DSs Pg R k T__law_keeps (defBody (topS 24)) c__law_keeps := (d_one (d_ret (fun _ => (e_cmp .eq (e_blt .len 0 0 rfl rfl rfl (a_cons (e_lc [("_law_fact", 2)] [2, 1] [2] ["_law_holds"] [] (i_seq (e_var 0 rfl rfl)) (g_nm 2 rfl rfl) (c_one (t_not (t_e (e_call 0 15 rfl rfl (as_cons (e_var 2 rfl rfl) (as_cons (e_var 1 rfl rfl) as_nil)))))) (e_var 2 rfl rfl)) a_nil)) e_int))))
def T__law_right : Sc := ⟨["_law_many", "_law_sizes", "_law_pair", "_law_one"], [1, 0, 2], [2], ["isinstance", "list", "len", "tuple", "all"], [], defScope (topS 25), true⟩
theorem k__law_right : T__law_right.ok = true := by decide +kernel
theorem b__law_right : BindF "_law_right" "_law_right" (topS 25) ["_law_many", "_law_sizes"] := fun _ _ _ _ _ _ us hl => match us, hl with | [_, _], _ => rfl
theorem r__law_right (R : RdC) (k : Nat) : DSs Pg R k T__law_right (defBody (topS 25)) c__law_right := (d_cons (d_if (fun _ => (t_w (w_or (t_not (t_e (e_isi .list 0 9 1 5 rfl rfl rfl rfl rfl (e_var 1 rfl rfl)))) (w_or1 (t_cmp .ne (e_blt .len 2 0 rfl rfl rfl (a_cons (e_var 1 rfl rfl) a_nil)) (e_var 0 rfl rfl)))))) (d_one (d_ret (fun _ => e_bl))) d_nil) (d_cons (d_for (fun _ => (i_seq (e_var 1 rfl rfl))) (g_nm 2 rfl rfl) (d_cons (d_if (fun _ => (t_w (w_or (t_not (t_e (e_isi .tuple 0 9 3 6 rfl rfl rfl rfl rfl (e_var 2 rfl rfl)))) (w_or (t_cmp .ne (e_blt .len 2 0 rfl rfl rfl (a_cons (e_var 2 rfl rfl) a_nil)) e_int) (w_or1 (t_not (t_e (e_blt .all 4 8 rfl rfl rfl (a_cons (e_lc [("_law_one", 3)] [3] [3] ["isinstance", "int"] [] (i_seq (e_var 2 rfl rfl)) (g_nm 3 rfl rfl) c_nil (e_isi .int 0 9 1 3 rfl rfl rfl rfl rfl (e_var 3 rfl rfl))) a_nil))))))))) (d_one (d_ret (fun _ => e_bl))) d_nil) (d_one (d_if (fun _ => (t_not (t_chain .le .le e_int (e_idx (e_var 2 rfl rfl) e_int) (e_idx (e_var 2 rfl rfl) e_int)))) (d_one (d_ret (fun _ => e_bl))) d_nil)))) (d_one (d_ret (fun _ => e_bl)))))
def T__law_drawn : Sc := ⟨["_law_draws", "_law_many", "_law_top", "_law_found", "_law_k", "_law_one", "_law_two"], [1, 0, 2, 5, 6, 3], [3, 4, 5, 6], ["range", "_law_draw", "min", "max"], [], defScope (topS 26), true⟩
theorem k__law_drawn : T__law_drawn.ok = true := by decide +kernel
theorem b__law_drawn : BindF "_law_drawn" "_law_drawn" (topS 26) ["_law_draws", "_law_many", "_law_top"] := fun _ _ _ _ _ _ us hl => match us, hl with | [_, _, _], _ => rfl
theorem r__law_drawn (R : RdC) (k : Nat) : DSs Pg R k T__law_drawn (defBody (topS 26)) c__law_drawn := (d_cons (d_asgO 3 rfl rfl (fun _ => (e_lst a_nil))) (d_cons (d_for (fun _ => (i_rng1 0 10 rfl rfl (e_var 1 rfl rfl))) (g_nm 4 rfl rfl) (d_cons (d_asg 5 rfl rfl (fun _ => (e_bin .add e_int (e_call 1 10 rfl rfl (as_vr 0 rfl rfl (as_cons (e_var 2 rfl rfl) as_nil)))))) (d_cons (d_asg 6 rfl rfl (fun _ => (e_bin .add e_int (e_call 1 10 rfl rfl (as_vr 0 rfl rfl (as_cons (e_var 2 rfl rfl) as_nil)))))) (d_one (d_app 3 rfl rfl (fun _ => (e_tup (a_cons (e_blt .min 2 1 rfl rfl rfl (a_cons (e_var 5 rfl rfl) (a_cons (e_var 6 rfl rfl) a_nil))) (a_cons (e_blt .max 3 2 rfl rfl rfl (a_cons (e_var 5 rfl rfl) (a_cons (e_var 6 rfl rfl) a_nil))) a_nil))))))))) (d_fz [3] (d_one (d_ret (fun _ => (e_var 3 rfl rfl)))))))
def T__law_line : Sc := ⟨["_law_many", "_law_parts", "_law_least", "_law_numbers", "_law_sheet", "_law_side", "_law_number", "_law_k"], [0, 1, 4, 5, 3, 6, 2], [3, 4, 5, 6], ["range", "tuple"], [], defScope (topS 27), true⟩
theorem k__law_line : T__law_line.ok = true := by decide +kernel
theorem b__law_line : BindF "_law_line" "_law_line" (topS 27) ["_law_many", "_law_parts", "_law_least"] := fun _ _ _ _ _ _ us hl => match us, hl with | [_, _, _], _ => rfl
theorem r__law_line (R : RdC) (k : Nat) : DSs Pg R k T__law_line (defBody (topS 27)) c__law_line := (d_cons (d_asgOLc 3 [("_law_k", 7)] [] [7] [] [] rfl rfl (fun _ => (i_rng1 0 10 rfl rfl (e_bin .mul e_int (e_var 0 rfl rfl)))) (g_nm 7 rfl rfl) c_nil e_int) (d_cons (d_for (fun _ => (i_seq (e_var 1 rfl rfl))) (g_tup (gs_cons (g_nm 4 rfl rfl) (gs_cons (g_nm 5 rfl rfl) (gs_cons (g_nm 6 rfl rfl) gs_nil)))) (d_one (d_setI 3 rfl rfl (fun _ => (e_bin .add (e_bin .mul e_int (e_var 4 rfl rfl)) (e_var 5 rfl rfl))) (fun _ => (e_bin .add (e_idxV 3 rfl rfl (e_bin .add (e_bin .mul e_int (e_var 4 rfl rfl)) (e_var 5 rfl rfl))) (e_var 6 rfl rfl)))))) (d_fz [3] (d_one (d_ret (fun _ => (e_tup (a_cons (e_blt .tuple 1 6 rfl rfl rfl (a_cons (e_var 3 rfl rfl) a_nil)) (a_cons (e_var 2 rfl rfl) a_nil)))))))))
def T__law_base : Sc := ⟨["_law_many", "_law_found", "_law_k"], [0, 2, 1], [1, 2], ["range", "_law_line"], [], defScope (topS 28), true⟩
theorem k__law_base : T__law_base.ok = true := by decide +kernel
theorem b__law_base : BindF "_law_base" "_law_base" (topS 28) ["_law_many"] := fun _ _ _ _ _ _ us hl => match us, hl with | [_], _ => rfl
theorem r__law_base (R : RdC) (k : Nat) : DSs Pg R k T__law_base (defBody (topS 28)) c__law_base := (d_cons (d_asgO 1 rfl rfl (fun _ => (e_lst a_nil))) (d_cons (d_for (fun _ => (i_rng1 0 10 rfl rfl (e_var 0 rfl rfl))) (g_nm 2 rfl rfl) (d_cons (d_app 1 rfl rfl (fun _ => (e_call 1 19 rfl rfl (as_cons (e_var 0 rfl rfl) (as_cons (e_lst (a_cons (e_tup (a_cons (e_var 2 rfl rfl) (a_cons e_int (a_cons e_int a_nil)))) a_nil)) (as_cons e_int as_nil)))))) (d_one (d_app 1 rfl rfl (fun _ => (e_call 1 19 rfl rfl (as_cons (e_var 0 rfl rfl) (as_cons (e_lst (a_cons (e_tup (a_cons (e_var 2 rfl rfl) (a_cons e_int (a_cons e_int a_nil)))) (a_cons (e_tup (a_cons (e_var 2 rfl rfl) (a_cons e_int (a_cons (e_neg e_int) a_nil)))) a_nil))) (as_cons e_int as_nil))))))))) (d_fz [1] (d_one (d_ret (fun _ => (e_var 1 rfl rfl)))))))
def T__law_more : Sc := ⟨["_law_many", "_law_big", "_law_small", "_law_side", "_law_least"], [0, 1, 3, 2, 4], [], ["_law_line"], [], defScope (topS 29), true⟩
theorem k__law_more : T__law_more.ok = true := by decide +kernel
theorem b__law_more : BindF "_law_more" "_law_more" (topS 29) ["_law_many", "_law_big", "_law_small", "_law_side", "_law_least"] := fun _ _ _ _ _ _ us hl => match us, hl with | [_, _, _, _, _], _ => rfl
theorem r__law_more (R : RdC) (k : Nat) : DSs Pg R k T__law_more (defBody (topS 29)) c__law_more := (d_one (d_ret (fun _ => (e_call 0 19 rfl rfl (as_cons (e_var 0 rfl rfl) (as_cons (e_lst (a_cons (e_tup (a_cons (e_var 1 rfl rfl) (a_cons (e_var 3 rfl rfl) (a_cons e_int a_nil)))) (a_cons (e_tup (a_cons (e_var 2 rfl rfl) (a_cons (e_var 3 rfl rfl) (a_cons (e_neg e_int) a_nil)))) a_nil))) (as_cons (e_var 4 rfl rfl) as_nil)))))))
def T__law_eight : Sc := ⟨["_law_many", "_law_a", "_law_b", "_law_c", "_law_found", "_law_k", "_law_z", "_law_x", "_law_y", "_law_one", "_law_two"], [5, 0, 3, 6, 1, 7, 2, 8, 9, 10, 4], [4, 5, 6, 7, 8, 9, 10], ["range", "_law_line"], [], defScope (topS 30), true⟩
theorem k__law_eight : T__law_eight.ok = true := by decide +kernel
theorem b__law_eight : BindF "_law_eight" "_law_eight" (topS 30) ["_law_many", "_law_a", "_law_b", "_law_c"] := fun _ _ _ _ _ _ us hl => match us, hl with | [_, _, _, _], _ => rfl
theorem r__law_eight (R : RdC) (k : Nat) : DSs Pg R k T__law_eight (defBody (topS 30)) c__law_eight := (d_cons (d_asgO 4 rfl rfl (fun _ => (e_lst a_nil))) (d_cons (d_for (fun _ => (i_rng1 0 10 rfl rfl e_int)) (g_nm 5 rfl rfl) (d_cons (d_par3 6 7 8 rfl rfl rfl (fun _ => (e_bin .fdiv (e_var 5 rfl rfl) e_int)) (fun _ => (e_bin .mod (e_bin .fdiv (e_var 5 rfl rfl) e_int) e_int)) (fun _ => (e_bin .mod (e_var 5 rfl rfl) e_int))) (d_cons (d_asg 9 rfl rfl (fun _ => (e_call 1 19 rfl rfl (as_cons (e_var 0 rfl rfl) (as_cons (e_lst (a_cons (e_tup (a_cons (e_var 3 rfl rfl) (a_cons (e_var 6 rfl rfl) (a_cons e_int a_nil)))) (a_cons (e_tup (a_cons (e_var 1 rfl rfl) (a_cons (e_var 7 rfl rfl) (a_cons (e_neg e_int) a_nil)))) (a_cons (e_tup (a_cons (e_var 2 rfl rfl) (a_cons (e_var 8 rfl rfl) (a_cons (e_neg e_int) a_nil)))) a_nil)))) (as_cons e_int as_nil)))))) (d_cons (d_asg 10 rfl rfl (fun _ => (e_call 1 19 rfl rfl (as_cons (e_var 0 rfl rfl) (as_cons (e_lst (a_cons (e_tup (a_cons (e_var 3 rfl rfl) (a_cons (e_bin .sub e_int (e_var 6 rfl rfl)) (a_cons e_int a_nil)))) (a_cons (e_tup (a_cons (e_var 1 rfl rfl) (a_cons (e_bin .sub e_int (e_var 7 rfl rfl)) (a_cons (e_neg e_int) a_nil)))) a_nil))) (as_cons e_int as_nil)))))) (d_one (d_app 4 rfl rfl (fun _ => (e_lst (a_cons (e_var 9 rfl rfl) (a_cons (e_var 10 rfl rfl) (a_cons (e_call 1 19 rfl rfl (as_cons (e_var 0 rfl rfl) (as_cons (e_lst (a_cons (e_tup (a_cons (e_var 3 rfl rfl) (a_cons (e_bin .sub e_int (e_var 6 rfl rfl)) (a_cons e_int a_nil)))) (a_cons (e_tup (a_cons (e_var 2 rfl rfl) (a_cons (e_bin .sub e_int (e_var 8 rfl rfl)) (a_cons (e_neg e_int) a_nil)))) a_nil))) (as_cons e_int as_nil)))) a_nil))))))))))) (d_fz [4] (d_one (d_ret (fun _ => (e_var 4 rfl rfl)))))))
def T__law_clauses : Sc := ⟨["_law_many", "_law_statement_here", "_law_word", "_law_a", "_law_b", "_law_short", "_law_eight_here", "_law_found", "_law_way", "_law_line_here", "_law_number"], [1, 2, 0, 4, 3, 5, 6, 8, 7], [2, 3, 4, 5, 6, 7, 8], ["_law_more", "_law_eight"], [], defScope (topS 31), true⟩
theorem k__law_clauses : T__law_clauses.ok = true := by decide +kernel
theorem b__law_clauses : BindF "_law_clauses" "_law_clauses" (topS 31) ["_law_many", "_law_statement_here"] := fun _ _ _ _ _ _ us hl => match us, hl with | [_, _], _ => rfl
theorem r__law_clauses (R : RdC) (k : Nat) : DSs Pg R k T__law_clauses (defBody (topS 31)) c__law_clauses := (d_cons (d_asgG (g_tup (gs_cons (g_nm 2 rfl rfl) (gs_cons (g_nm 3 rfl rfl) (gs_cons (g_nm 4 rfl rfl) gs_nil)))) (fun _ => (e_sl (e_var 1 rfl rfl) o_none (o_some e_int)))) (d_cons (d_if (fun _ => (t_cmp .eq (e_var 2 rfl rfl) e_str)) (d_one (d_ret (fun _ => (e_lst (a_cons (e_lst (a_cons (e_lst (a_cons (e_call 0 21 rfl rfl (as_cons (e_var 0 rfl rfl) (as_cons (e_var 4 rfl rfl) (as_cons (e_var 3 rfl rfl) (as_cons e_int (as_cons e_int as_nil)))))) (a_cons (e_call 0 21 rfl rfl (as_cons (e_var 0 rfl rfl) (as_cons (e_var 4 rfl rfl) (as_cons (e_var 3 rfl rfl) (as_cons e_int (as_cons e_int as_nil)))))) a_nil))) a_nil)) a_nil))))) d_nil) (d_cons (d_if (fun _ => (t_cmp .eq (e_var 2 rfl rfl) e_str)) (d_one (d_ret (fun _ => (e_lst (a_cons (e_lst (a_cons (e_lst (a_cons (e_call 0 21 rfl rfl (as_cons (e_var 0 rfl rfl) (as_cons (e_var 3 rfl rfl) (as_cons (e_var 4 rfl rfl) (as_cons e_int (as_cons e_int as_nil)))))) a_nil)) (a_cons (e_lst (a_cons (e_call 0 21 rfl rfl (as_cons (e_var 0 rfl rfl) (as_cons (e_var 3 rfl rfl) (as_cons (e_var 4 rfl rfl) (as_cons e_int (as_cons e_int as_nil)))))) a_nil)) a_nil))) a_nil))))) d_nil) (d_cons (d_if (fun _ => (t_cmp .eq (e_var 2 rfl rfl) e_str)) (d_cons (d_asg 5 rfl rfl (fun _ => (e_lst (a_cons (e_call 0 21 rfl rfl (as_cons (e_var 0 rfl rfl) (as_cons (e_var 3 rfl rfl) (as_cons (e_var 4 rfl rfl) (as_cons e_int (as_cons e_int as_nil)))))) (a_cons (e_call 0 21 rfl rfl (as_cons (e_var 0 rfl rfl) (as_cons (e_var 4 rfl rfl) (as_cons (e_var 3 rfl rfl) (as_cons e_int (as_cons e_int as_nil)))))) a_nil))))) (d_one (d_ret (fun _ => (e_lst (a_cons (e_lst (a_cons (e_bin .add (e_var 5 rfl rfl) (e_lst (a_cons (e_call 0 21 rfl rfl (as_cons (e_var 0 rfl rfl) (as_cons (e_var 3 rfl rfl) (as_cons (e_var 4 rfl rfl) (as_cons e_int (as_cons e_int as_nil)))))) (a_cons (e_call 0 21 rfl rfl (as_cons (e_var 0 rfl rfl) (as_cons (e_var 4 rfl rfl) (as_cons (e_var 3 rfl rfl) (as_cons e_int (as_cons e_int as_nil)))))) a_nil)))) a_nil)) a_nil)))))) d_nil) (d_cons (d_if (fun _ => (t_cmp .eq (e_var 2 rfl rfl) e_str)) (d_cons (d_asg 5 rfl rfl (fun _ => (e_lst (a_cons (e_lst (a_cons (e_call 0 21 rfl rfl (as_cons (e_var 0 rfl rfl) (as_cons (e_var 4 rfl rfl) (as_cons (e_var 3 rfl rfl) (as_cons e_int (as_cons e_int as_nil)))))) a_nil)) (a_cons (e_lst (a_cons (e_call 0 21 rfl rfl (as_cons (e_var 0 rfl rfl) (as_cons (e_var 3 rfl rfl) (as_cons (e_var 4 rfl rfl) (as_cons e_int (as_cons e_int as_nil)))))) a_nil)) a_nil))))) (d_one (d_ret (fun _ => (e_lst (a_cons (e_bin .add (e_var 5 rfl rfl) (e_lst (a_cons (e_lst (a_cons (e_call 0 21 rfl rfl (as_cons (e_var 0 rfl rfl) (as_cons (e_var 4 rfl rfl) (as_cons (e_var 3 rfl rfl) (as_cons e_int (as_cons e_int as_nil)))))) a_nil)) (a_cons (e_lst (a_cons (e_call 0 21 rfl rfl (as_cons (e_var 0 rfl rfl) (as_cons (e_var 3 rfl rfl) (as_cons (e_var 4 rfl rfl) (as_cons e_int (as_cons e_int as_nil)))))) a_nil)) a_nil)))) a_nil)))))) d_nil) (d_cons (d_asg 6 rfl rfl (fun _ => (e_call 1 22 rfl rfl (as_cons (e_var 0 rfl rfl) (as_cons (e_var 3 rfl rfl) (as_cons (e_var 4 rfl rfl) (as_cons (e_idx (e_var 1 rfl rfl) e_int) as_nil))))))) (d_cons (d_if (fun _ => (t_cmp .eq (e_var 2 rfl rfl) e_str)) (d_one (d_ret (fun _ => (e_lst (a_cons (e_var 6 rfl rfl) a_nil))))) d_nil) (d_cons (d_asgO 7 rfl rfl (fun _ => (e_lst a_nil))) (d_cons (d_for (fun _ => (i_seq (e_var 6 rfl rfl))) (g_nm 8 rfl rfl) (d_one (d_app 7 rfl rfl (fun _ => (e_lc [("_law_line_here", 9)] [9] [9] ["tuple"] [] (i_seq (e_var 8 rfl rfl)) (g_nm 9 rfl rfl) c_nil (e_lst (a_cons (e_tup (a_cons (e_blt .tuple 0 6 rfl rfl rfl (a_cons (e_lc [("_law_number", 10)] [10] [10] [] [] (i_seq (e_idx (e_var 9 rfl rfl) e_int)) (g_nm 10 rfl rfl) c_nil (e_neg (e_var 10 rfl rfl))) a_nil)) (a_cons e_int a_nil))) a_nil))))))) (d_fz [7] (d_one (d_ret (fun _ => (e_var 7 rfl rfl))))))))))))))
def T__law_all : Sc := ⟨["_law_many", "_law_statements", "_law_found", "_law_statement_here"], [1, 2, 0, 3], [2, 3], ["_law_clauses"], [], defScope (topS 32), true⟩
theorem k__law_all : T__law_all.ok = true := by decide +kernel
theorem b__law_all : BindF "_law_all" "_law_all" (topS 32) ["_law_many", "_law_statements"] := fun _ _ _ _ _ _ us hl => match us, hl with | [_, _], _ => rfl
theorem r__law_all (R : RdC) (k : Nat) : DSs Pg R k T__law_all (defBody (topS 32)) c__law_all := (d_cons (d_asg 2 rfl rfl (fun _ => (e_lst a_nil))) (d_cons (d_for (fun _ => (i_seq (e_var 1 rfl rfl))) (g_nm 3 rfl rfl) (d_one (d_asg 2 rfl rfl (fun _ => (e_bin .add (e_var 2 rfl rfl) (e_call 0 23 rfl rfl (as_cons (e_var 0 rfl rfl) (as_cons (e_var 3 rfl rfl) as_nil)))))))) (d_one (d_ret (fun _ => (e_var 2 rfl rfl))))))
def T__law_sum : Sc := ⟨["_law_rows", "_law_numbers", "_law_number", "_law_place", "_law_k"], [1, 0, 2], [2, 3], ["isinstance", "tuple", "len", "int", "bool", "range", "sum"], ["_law_rows", "_law_numbers", "_law_place"], defScope (topS 33), true⟩
theorem k__law_sum : T__law_sum.ok = true := by decide +kernel
theorem b__law_sum : BindF "_law_sum" "_law_sum" (topS 33) ["_law_rows", "_law_numbers"] := fun _ _ _ _ _ _ us hl => match us, hl with | [_, _], _ => rfl
theorem r__law_sum (R : RdC) (k : Nat) : DSs Pg R k T__law_sum (defBody (topS 33)) c__law_sum := (d_cons (d_if (fun _ => (t_w (w_or (t_not (t_e (e_isi .tuple 0 9 1 6 rfl rfl rfl rfl rfl (e_var 1 rfl rfl)))) (w_or1 (t_cmp .ne (e_blt .len 2 0 rfl rfl rfl (a_cons (e_var 1 rfl rfl) a_nil)) (e_blt .len 2 0 rfl rfl rfl (a_cons (e_var 0 rfl rfl) a_nil))))))) (d_one (d_ret (fun _ => e_bl))) d_nil) (d_cons (d_for (fun _ => (i_seq (e_var 1 rfl rfl))) (g_nm 2 rfl rfl) (d_one (d_if (fun _ => (t_w (w_or (t_not (t_e (e_isi .int 0 9 3 3 rfl rfl rfl rfl rfl (e_var 2 rfl rfl)))) (w_or (t_e (e_isi .bool 0 9 4 11 rfl rfl rfl rfl rfl (e_var 2 rfl rfl))) (w_or1 (t_cmp .lt (e_var 2 rfl rfl) e_int)))))) (d_one (d_ret (fun _ => e_bl))) d_nil))) (d_cons (d_for (fun _ => (i_rng1 5 10 rfl rfl (e_blt .len 2 0 rfl rfl rfl (a_cons (e_idx (e_idx (e_var 0 rfl rfl) e_int) e_int) a_nil)))) (g_nm 3 rfl rfl) (d_one (d_if (fun _ => (t_cmp .gt (e_blt .sum 6 7 rfl rfl rfl (a_cons (e_lc [("_law_k", 4)] [4, 1, 3, 0] [4] [] [] (i_rng1 5 10 rfl rfl (e_blt .len 2 0 rfl rfl rfl (a_cons (e_var 0 rfl rfl) a_nil))) (g_nm 4 rfl rfl) c_nil (e_bin .mul (e_idx (e_var 1 rfl rfl) (e_var 4 rfl rfl)) (e_idx (e_idx (e_idx (e_var 0 rfl rfl) (e_var 4 rfl rfl)) e_int) (e_var 3 rfl rfl)))) a_nil)) e_int)) (d_one (d_ret (fun _ => e_bl))) d_nil))) (d_one (d_ret (fun _ => (e_cmp .gt (e_blt .sum 6 7 rfl rfl rfl (a_cons (e_lc [("_law_k", 4)] [4, 1, 0] [4] [] [] (i_rng1 5 10 rfl rfl (e_blt .len 2 0 rfl rfl rfl (a_cons (e_var 0 rfl rfl) a_nil))) (g_nm 4 rfl rfl) c_nil (e_bin .mul (e_idx (e_var 1 rfl rfl) (e_var 4 rfl rfl)) (e_idx (e_idx (e_var 0 rfl rfl) (e_var 4 rfl rfl)) e_int))) a_nil)) e_int)))))))
def T__law_shown : Sc := ⟨["_law_some", "_law_rows", "_law_thing", "_law_k"], [2, 1, 0, 3], [3], ["isinstance", "tuple", "len", "str", "_law_sum", "int", "bool", "range", "_law_shown"], [], defScope (topS 34), true⟩
theorem k__law_shown : T__law_shown.ok = true := by decide +kernel
theorem b__law_shown : BindF "_law_shown" "_law_shown" (topS 34) ["_law_some", "_law_rows", "_law_thing"] := fun _ _ _ _ _ _ us hl => match us, hl with | [_, _, _], _ => rfl
theorem r__law_shown (R : RdC) (k : Nat) : DSs Pg R k T__law_shown (defBody (topS 34)) c__law_shown := (d_cons (d_if (fun _ => (t_w (w_or (t_not (t_e (e_isi .tuple 0 9 1 6 rfl rfl rfl rfl rfl (e_var 2 rfl rfl)))) (w_or (t_cmp .lt (e_blt .len 2 0 rfl rfl rfl (a_cons (e_var 2 rfl rfl) a_nil)) e_int) (w_or1 (t_not (t_e (e_isi .str 0 9 3 4 rfl rfl rfl rfl rfl (e_idx (e_var 2 rfl rfl) e_int))))))))) (d_one (d_ret (fun _ => e_bl))) d_nil) (d_cons (d_if (fun _ => (t_cmp .eq (e_idx (e_var 2 rfl rfl) e_int) e_str)) (d_one (d_ret (fun _ => (e_and (e_cmp .eq (e_blt .len 2 0 rfl rfl rfl (a_cons (e_var 2 rfl rfl) a_nil)) e_int) (e_one (e_call 4 25 rfl rfl (as_cons (e_var 1 rfl rfl) (as_cons (e_idx (e_var 2 rfl rfl) e_int) as_nil)))))))) d_nil) (d_cons (d_if (fun _ => (t_w (w_or (t_cmp .ne (e_idx (e_var 2 rfl rfl) e_int) e_str) (w_or (t_cmp .ne (e_blt .len 2 0 rfl rfl rfl (a_cons (e_var 2 rfl rfl) a_nil)) e_int) (w_or (t_not (t_e (e_isi .int 0 9 5 3 rfl rfl rfl rfl rfl (e_idx (e_var 2 rfl rfl) e_int)))) (w_or1 (t_e (e_isi .bool 0 9 6 11 rfl rfl rfl rfl rfl (e_idx (e_var 2 rfl rfl) e_int))))))))) (d_one (d_ret (fun _ => e_bl))) d_nil) (d_cons (d_if (fun _ => (t_w (w_or (t_not (t_chain .le .lt e_int (e_idx (e_var 2 rfl rfl) e_int) (e_blt .len 2 0 rfl rfl rfl (a_cons (e_var 0 rfl rfl) a_nil)))) (w_or1 (t_not (t_e (e_isi .tuple 0 9 1 6 rfl rfl rfl rfl rfl (e_idx (e_var 2 rfl rfl) e_int)))))))) (d_one (d_ret (fun _ => e_bl))) d_nil) (d_cons (d_if (fun _ => (t_cmp .ne (e_blt .len 2 0 rfl rfl rfl (a_cons (e_idx (e_var 2 rfl rfl) e_int) a_nil)) (e_blt .len 2 0 rfl rfl rfl (a_cons (e_idx (e_var 0 rfl rfl) (e_idx (e_var 2 rfl rfl) e_int)) a_nil)))) (d_one (d_ret (fun _ => e_bl))) d_nil) (d_cons (d_for (fun _ => (i_rng1 7 10 rfl rfl (e_blt .len 2 0 rfl rfl rfl (a_cons (e_idx (e_var 2 rfl rfl) e_int) a_nil)))) (g_nm 3 rfl rfl) (d_one (d_if (fun _ => (t_not (t_e (e_call 8 26 rfl rfl (as_cons (e_var 0 rfl rfl) (as_cons (e_bin .add (e_var 1 rfl rfl) (e_idx (e_idx (e_var 0 rfl rfl) (e_idx (e_var 2 rfl rfl) e_int)) (e_var 3 rfl rfl))) (as_cons (e_idx (e_idx (e_var 2 rfl rfl) e_int) (e_var 3 rfl rfl)) as_nil))))))) (d_one (d_ret (fun _ => e_bl))) d_nil))) (d_one (d_ret (fun _ => e_bl)))))))))
def T__law_paper : Sc := ⟨["_law_many", "_law_statements", "_law_thing"], [0, 1, 2], [], ["_law_shown", "_law_all", "_law_base"], [], defScope (topS 35), true⟩
theorem k__law_paper : T__law_paper.ok = true := by decide +kernel
theorem b__law_paper : BindF "_law_paper" "_law_paper" (topS 35) ["_law_many", "_law_statements", "_law_thing"] := fun _ _ _ _ _ _ us hl => match us, hl with | [_, _, _], _ => rfl
theorem r__law_paper (R : RdC) (k : Nat) : DSs Pg R k T__law_paper (defBody (topS 35)) c__law_paper := (d_one (d_ret (fun _ => (e_call 0 26 rfl rfl (as_cons (e_call 1 24 rfl rfl (as_cons (e_var 0 rfl rfl) (as_cons (e_var 1 rfl rfl) as_nil))) (as_cons (e_call 2 20 rfl rfl (as_cons (e_var 0 rfl rfl) as_nil)) (as_cons (e_var 2 rfl rfl) as_nil)))))))
def T__law_like : Sc := ⟨["_law_actual", "_law_due", "_law_k", "_law_key"], [1, 0, 2], [2], ["isinstance", "dict", "list", "all", "bool", "int", "str", "tuple", "len", "range", "_law_like"], ["_law_actual", "_law_due"], defScope (topS 36), true⟩
theorem k__law_like : T__law_like.ok = true := by decide +kernel
theorem b__law_like : BindF "_law_like" "_law_like" (topS 36) ["_law_actual", "_law_due"] := fun _ _ _ _ _ _ us hl => match us, hl with | [_, _], _ => rfl
theorem r__law_like (R : RdC) (k : Nat) : DSs Pg R k T__law_like (defBody (topS 36)) c__law_like := (d_cons (d_if (fun _ => (t_e (e_isi .dict 0 9 1 12 rfl rfl rfl rfl rfl (e_var 1 rfl rfl)))) (d_cons (d_if (fun _ => (t_w (w_or (t_not (t_e (e_isi .dict 0 9 1 12 rfl rfl rfl rfl rfl (e_var 0 rfl rfl)))) (w_or1 (t_cmp .ne (e_blt .list 2 5 rfl rfl rfl (a_cons (e_var 0 rfl rfl) a_nil)) (e_blt .list 2 5 rfl rfl rfl (a_cons (e_var 1 rfl rfl) a_nil))))))) (d_one (d_ret (fun _ => e_bl))) d_nil) (d_one (d_ret (fun _ => (e_blt .all 3 8 rfl rfl rfl (a_cons (e_lc [("_law_key", 3)] [3, 0, 1] [3] ["_law_like"] [] (i_seq (e_var 1 rfl rfl)) (g_nm 3 rfl rfl) c_nil (e_call 0 28 rfl rfl (as_cons (e_idx (e_var 0 rfl rfl) (e_var 3 rfl rfl)) (as_cons (e_idx (e_var 1 rfl rfl) (e_var 3 rfl rfl)) as_nil)))) a_nil)))))) d_nil) (d_cons (d_if (fun _ => (t_isN (e_var 1 rfl rfl))) (d_one (d_ret (fun _ => (e_isN (e_var 0 rfl rfl))))) d_nil) (d_cons (d_if (fun _ => (t_e (e_isi .bool 0 9 4 11 rfl rfl rfl rfl rfl (e_var 1 rfl rfl)))) (d_one (d_ret (fun _ => (e_and (e_isi .bool 0 9 4 11 rfl rfl rfl rfl rfl (e_var 0 rfl rfl)) (e_one (e_cmp .eq (e_var 0 rfl rfl) (e_var 1 rfl rfl))))))) d_nil) (d_cons (d_if (fun _ => (t_e (e_isi .int 0 9 5 3 rfl rfl rfl rfl rfl (e_var 1 rfl rfl)))) (d_one (d_ret (fun _ => (e_and (e_isi .int 0 9 5 3 rfl rfl rfl rfl rfl (e_var 0 rfl rfl)) (e_and (e_not (e_isi .bool 0 9 4 11 rfl rfl rfl rfl rfl (e_var 0 rfl rfl))) (e_one (e_cmp .eq (e_var 0 rfl rfl) (e_var 1 rfl rfl)))))))) d_nil) (d_cons (d_if (fun _ => (t_e (e_isi .str 0 9 6 4 rfl rfl rfl rfl rfl (e_var 1 rfl rfl)))) (d_one (d_ret (fun _ => (e_and (e_isi .str 0 9 6 4 rfl rfl rfl rfl rfl (e_var 0 rfl rfl)) (e_one (e_cmp .eq (e_var 0 rfl rfl) (e_var 1 rfl rfl))))))) d_nil) (d_cons (d_if (fun _ => (t_e (e_isi .tuple 0 9 7 6 rfl rfl rfl rfl rfl (e_var 1 rfl rfl)))) (d_one (d_if (fun _ => (t_w (w_or (t_not (t_e (e_isi .tuple 0 9 7 6 rfl rfl rfl rfl rfl (e_var 0 rfl rfl)))) (w_or1 (t_cmp .ne (e_blt .len 8 0 rfl rfl rfl (a_cons (e_var 0 rfl rfl) a_nil)) (e_blt .len 8 0 rfl rfl rfl (a_cons (e_var 1 rfl rfl) a_nil))))))) (d_one (d_ret (fun _ => e_bl))) d_nil)) (d_one (d_if (fun _ => (t_w (w_or (t_not (t_e (e_isi .list 0 9 2 5 rfl rfl rfl rfl rfl (e_var 0 rfl rfl)))) (w_or1 (t_cmp .ne (e_blt .len 8 0 rfl rfl rfl (a_cons (e_var 0 rfl rfl) a_nil)) (e_blt .len 8 0 rfl rfl rfl (a_cons (e_var 1 rfl rfl) a_nil))))))) (d_one (d_ret (fun _ => e_bl))) d_nil))) (d_cons (d_for (fun _ => (i_rng1 9 10 rfl rfl (e_blt .len 8 0 rfl rfl rfl (a_cons (e_var 1 rfl rfl) a_nil)))) (g_nm 2 rfl rfl) (d_one (d_if (fun _ => (t_not (t_e (e_call 10 28 rfl rfl (as_cons (e_idx (e_var 0 rfl rfl) (e_var 2 rfl rfl)) (as_cons (e_idx (e_var 1 rfl rfl) (e_var 2 rfl rfl)) as_nil)))))) (d_one (d_ret (fun _ => e_bl))) d_nil))) (d_one (d_ret (fun _ => e_bl))))))))))
def T__law_kept : Sc := ⟨["_law_line_here", "_law_sizes", "_law_sides", "_law_pair", "_law_k"], [1, 2, 3, 0], [2, 3], ["sum", "range", "len"], ["_law_line_here", "_law_sides"], defScope (topS 37), true⟩
theorem k__law_kept : T__law_kept.ok = true := by decide +kernel
theorem b__law_kept : BindF "_law_kept" "_law_kept" (topS 37) ["_law_line_here", "_law_sizes"] := fun _ _ _ _ _ _ us hl => match us, hl with | [_, _], _ => rfl
theorem r__law_kept (R : RdC) (k : Nat) : DSs Pg R k T__law_kept (defBody (topS 37)) c__law_kept := (d_cons (d_asg 2 rfl rfl (fun _ => (e_lst a_nil))) (d_cons (d_for (fun _ => (i_seq (e_var 1 rfl rfl))) (g_nm 3 rfl rfl) (d_one (d_asg 2 rfl rfl (fun _ => (e_bin .add (e_var 2 rfl rfl) (e_lst (a_cons (e_idx (e_var 3 rfl rfl) e_int) (a_cons (e_idx (e_var 3 rfl rfl) e_int) a_nil)))))))) (d_one (d_ret (fun _ => (e_cmp .ge (e_blt .sum 0 7 rfl rfl rfl (a_cons (e_lc [("_law_k", 4)] [4, 0, 2] [4] [] [] (i_rng1 1 10 rfl rfl (e_blt .len 2 0 rfl rfl rfl (a_cons (e_var 2 rfl rfl) a_nil))) (g_nm 4 rfl rfl) c_nil (e_bin .mul (e_idx (e_idx (e_var 0 rfl rfl) e_int) (e_var 4 rfl rfl)) (e_idx (e_var 2 rfl rfl) (e_var 4 rfl rfl)))) a_nil)) (e_idx (e_var 0 rfl rfl) e_int)))))))
def T__law_met : Sc := ⟨["_law_clause", "_law_sizes", "_law_way", "_law_line_here"], [0, 2], [2], ["len"], ["_law_sizes"], defScope (topS 38), true⟩
theorem k__law_met : T__law_met.ok = true := by decide +kernel
theorem b__law_met : BindF "_law_met" "_law_met" (topS 38) ["_law_clause", "_law_sizes"] := fun _ _ _ _ _ _ us hl => match us, hl with | [_, _], _ => rfl
theorem r__law_met (R : RdC) (k : Nat) : DSs Pg R k T__law_met (defBody (topS 38)) c__law_met := (d_cons (d_for (fun _ => (i_seq (e_var 0 rfl rfl))) (g_nm 2 rfl rfl) (d_one (d_if (fun _ => (t_cmp .eq (e_blt .len 0 0 rfl rfl rfl (a_cons (e_lc [("_law_line_here", 3)] [3, 1] [3] ["_law_kept"] [] (i_seq (e_var 2 rfl rfl)) (g_nm 3 rfl rfl) (c_one (t_not (t_e (e_call 0 29 rfl rfl (as_cons (e_var 3 rfl rfl) (as_cons (e_var 1 rfl rfl) as_nil)))))) (e_var 3 rfl rfl)) a_nil)) e_int)) (d_one (d_ret (fun _ => e_bl))) d_nil))) (d_one (d_ret (fun _ => e_bl))))
def T_law : Sc := ⟨["_law_script", "_law_draws", "_law_many", "_law_k", "_law_one", "_law_told", "_law_turn_here", "_law_sizes", "_law_met_here", "_law_clause", "_law_line_here"], [0, 1, 2, 4, 5, 8, 7], [1, 2, 3, 4, 5, 6, 7, 8], ["_law_begin", "_law_draw", "_law_like", "base", "_law_base", "range", "_law_statement", "clauses", "_law_clauses", "_law_drawn", "len", "_law_holds"], ["_law_sizes"], defScope (topS 39), true⟩
theorem k_law : T_law.ok = true := by decide +kernel
theorem b_law : BindF "law" "law" (topS 39) ["_law_script"] := fun _ _ _ _ _ _ us hl => match us, hl with | [_], _ => rfl
def fn : List He.DefD := (([⟨("is_number", none), "is_number", "is_number", defArgs (topS 5), defBody (topS 5), defScope (topS 5), [], []⟩, ⟨("is_statement", none), "is_statement", "is_statement", defArgs (topS 6), defBody (topS 6), defScope (topS 6), [], []⟩, ⟨("check_statement", none), "check_statement", "check_statement", defArgs (topS 7), defBody (topS 7), defScope (topS 7), [], []⟩, ⟨("line_of", none), "line_of", "line_of", defArgs (topS 9), defBody (topS 9), defScope (topS 9), [], []⟩, ⟨("base", none), "base", "base", defArgs (topS 10), defBody (topS 10), defScope (topS 10), [], []⟩, ⟨("less", none), "less", "less", defArgs (topS 11), defBody (topS 11), defScope (topS 11), [], []⟩, ⟨("both_ways", none), "both_ways", "both_ways", defArgs (topS 12), defBody (topS 12), defScope (topS 12), [], []⟩, ⟨("other_line", none), "other_line", "other_line", defArgs (topS 13), defBody (topS 13), defScope (topS 13), [], []⟩, ⟨("pair_clauses", none), "pair_clauses", "pair_clauses", defArgs (topS 14), defBody (topS 14), defScope (topS 14), [], []⟩, ⟨("clauses", none), "clauses", "clauses", defArgs (topS 15), defBody (topS 15), defScope (topS 15), [], []⟩, ⟨("_law_begin", none), "_law_begin", "_law_begin", defArgs (topS 17), defBody (topS 17), defScope (topS 17), [], []⟩, ⟨("_law_draw", none), "_law_draw", "_law_draw", defArgs (topS 18), defBody (topS 18), defScope (topS 18), [], []⟩, ⟨("_law_words", none), "_law_words", "_law_words", defArgs (topS 19), defBody (topS 19), defScope (topS 19), [], []⟩, ⟨("_law_statement", none), "_law_statement", "_law_statement", defArgs (topS 20), defBody (topS 20), defScope (topS 20), [], []⟩, ⟨("_law_facts", none), "_law_facts", "_law_facts", defArgs (topS 21), defBody (topS 21), defScope (topS 21), [], []⟩, ⟨("_law_turn", none), "_law_turn", "_law_turn", defArgs (topS 22), defBody (topS 22), defScope (topS 22), [], []⟩, ⟨("_law_holds", none), "_law_holds", "_law_holds", defArgs (topS 23), defBody (topS 23), defScope (topS 23), [], []⟩, ⟨("_law_keeps", none), "_law_keeps", "_law_keeps", defArgs (topS 24), defBody (topS 24), defScope (topS 24), [], []⟩, ⟨("_law_right", none), "_law_right", "_law_right", defArgs (topS 25), defBody (topS 25), defScope (topS 25), [], []⟩, ⟨("_law_drawn", none), "_law_drawn", "_law_drawn", defArgs (topS 26), defBody (topS 26), defScope (topS 26), [], []⟩, ⟨("_law_line", none), "_law_line", "_law_line", defArgs (topS 27), defBody (topS 27), defScope (topS 27), [], []⟩, ⟨("_law_base", none), "_law_base", "_law_base", defArgs (topS 28), defBody (topS 28), defScope (topS 28), [], []⟩, ⟨("_law_more", none), "_law_more", "_law_more", defArgs (topS 29), defBody (topS 29), defScope (topS 29), [], []⟩, ⟨("_law_eight", none), "_law_eight", "_law_eight", defArgs (topS 30), defBody (topS 30), defScope (topS 30), [], []⟩] : List He.DefD) ++ ([⟨("_law_clauses", none), "_law_clauses", "_law_clauses", defArgs (topS 31), defBody (topS 31), defScope (topS 31), [], []⟩, ⟨("_law_all", none), "_law_all", "_law_all", defArgs (topS 32), defBody (topS 32), defScope (topS 32), [], []⟩, ⟨("_law_sum", none), "_law_sum", "_law_sum", defArgs (topS 33), defBody (topS 33), defScope (topS 33), [], []⟩, ⟨("_law_shown", none), "_law_shown", "_law_shown", defArgs (topS 34), defBody (topS 34), defScope (topS 34), [], []⟩, ⟨("_law_paper", none), "_law_paper", "_law_paper", defArgs (topS 35), defBody (topS 35), defScope (topS 35), [], []⟩, ⟨("_law_like", none), "_law_like", "_law_like", defArgs (topS 36), defBody (topS 36), defScope (topS 36), [], []⟩, ⟨("_law_kept", none), "_law_kept", "_law_kept", defArgs (topS 37), defBody (topS 37), defScope (topS 37), [], []⟩, ⟨("_law_met", none), "_law_met", "_law_met", defArgs (topS 38), defBody (topS 38), defScope (topS 38), [], []⟩, ⟨("law", none), "law", "law", defArgs (topS 39), defBody (topS 39), defScope (topS 39), [], []⟩] : List He.DefD))
theorem q_0 : DefS Pg fn "is_number" D_is_number := ⟨0, (topS 5), T_is_number, ["thing", "many"], rfl, b_is_number, k_is_number, rfl, by decide +kernel, rfl, rfl, r_is_number⟩
theorem q_1 : DefS Pg fn "is_statement" D_is_statement := ⟨1, (topS 6), T_is_statement, ["many", "thing"], rfl, b_is_statement, k_is_statement, rfl, by decide +kernel, rfl, rfl, r_is_statement⟩
theorem q_2 : DefS Pg fn "check_statement" D_check_statement := ⟨2, (topS 7), T_check_statement, ["many", "thing"], rfl, b_check_statement, k_check_statement, rfl, by decide +kernel, rfl, rfl, r_check_statement⟩
theorem q_3 : DefS Pg fn "line_of" D_line_of := ⟨3, (topS 9), T_line_of, ["many", "parts", "least"], rfl, b_line_of, k_line_of, rfl, by decide +kernel, rfl, rfl, r_line_of⟩
theorem q_4 : DefS Pg fn "base" D_base := ⟨4, (topS 10), T_base, ["many"], rfl, b_base, k_base, rfl, by decide +kernel, rfl, rfl, r_base⟩
theorem q_5 : DefS Pg fn "less" D_less := ⟨5, (topS 11), T_less, ["many", "one", "other", "side", "least"], rfl, b_less, k_less, rfl, by decide +kernel, rfl, rfl, r_less⟩
theorem q_6 : DefS Pg fn "both_ways" D_both_ways := ⟨6, (topS 12), T_both_ways, ["many", "a", "b", "c"], rfl, b_both_ways, k_both_ways, rfl, by decide +kernel, rfl, rfl, r_both_ways⟩
theorem q_7 : DefS Pg fn "other_line" D_other_line := ⟨7, (topS 13), T_other_line, ["line"], rfl, b_other_line, k_other_line, rfl, by decide +kernel, rfl, rfl, r_other_line⟩
theorem q_8 : DefS Pg fn "pair_clauses" D_pair_clauses := ⟨8, (topS 14), T_pair_clauses, ["many", "word", "a", "b"], rfl, b_pair_clauses, k_pair_clauses, rfl, by decide +kernel, rfl, rfl, r_pair_clauses⟩
theorem q_9 : DefS Pg fn "clauses" D_clauses := ⟨9, (topS 15), T_clauses, ["many", "statement"], rfl, b_clauses, k_clauses, rfl, by decide +kernel, rfl, rfl, r_clauses⟩
theorem q_10 : DefS Pg fn "_law_draw" D__law_draw := ⟨11, (topS 18), T__law_draw, ["_law_draws", "_law_size"], rfl, b__law_draw, k__law_draw, rfl, by decide +kernel, rfl, rfl, r__law_draw⟩
theorem q_11 : DefS Pg fn "_law_words" D__law_words := ⟨12, (topS 19), T__law_words, [], rfl, b__law_words, k__law_words, rfl, by decide +kernel, rfl, rfl, r__law_words⟩
theorem q_12 : DefS Pg fn "_law_statement" D__law_statement := ⟨13, (topS 20), T__law_statement, ["_law_draws", "_law_many"], rfl, b__law_statement, k__law_statement, rfl, by decide +kernel, rfl, rfl, r__law_statement⟩
theorem q_13 : DefS Pg fn "_law_facts" D__law_facts := ⟨14, (topS 21), T__law_facts, ["_law_draws", "_law_many", "_law_size"], rfl, b__law_facts, k__law_facts, rfl, by decide +kernel, rfl, rfl, r__law_facts⟩
theorem q_14 : DefS Pg fn "_law_turn" D__law_turn := ⟨15, (topS 22), T__law_turn, ["_law_statement_here"], rfl, b__law_turn, k__law_turn, rfl, by decide +kernel, rfl, rfl, r__law_turn⟩
theorem q_15 : DefS Pg fn "_law_holds" D__law_holds := ⟨16, (topS 23), T__law_holds, ["_law_statement_here", "_law_sizes"], rfl, b__law_holds, k__law_holds, rfl, by decide +kernel, rfl, rfl, r__law_holds⟩
theorem q_16 : DefS Pg fn "_law_keeps" D__law_keeps := ⟨17, (topS 24), T__law_keeps, ["_law_facts_here", "_law_sizes"], rfl, b__law_keeps, k__law_keeps, rfl, by decide +kernel, rfl, rfl, r__law_keeps⟩
theorem q_17 : DefS Pg fn "_law_right" D__law_right := ⟨18, (topS 25), T__law_right, ["_law_many", "_law_sizes"], rfl, b__law_right, k__law_right, rfl, by decide +kernel, rfl, rfl, r__law_right⟩
theorem q_18 : DefS Pg fn "_law_drawn" D__law_drawn := ⟨19, (topS 26), T__law_drawn, ["_law_draws", "_law_many", "_law_top"], rfl, b__law_drawn, k__law_drawn, rfl, by decide +kernel, rfl, rfl, r__law_drawn⟩
theorem q_19 : DefS Pg fn "_law_line" D__law_line := ⟨20, (topS 27), T__law_line, ["_law_many", "_law_parts", "_law_least"], rfl, b__law_line, k__law_line, rfl, by decide +kernel, rfl, rfl, r__law_line⟩
theorem q_20 : DefS Pg fn "_law_base" D__law_base := ⟨21, (topS 28), T__law_base, ["_law_many"], rfl, b__law_base, k__law_base, rfl, by decide +kernel, rfl, rfl, r__law_base⟩
theorem q_21 : DefS Pg fn "_law_more" D__law_more := ⟨22, (topS 29), T__law_more, ["_law_many", "_law_big", "_law_small", "_law_side", "_law_least"], rfl, b__law_more, k__law_more, rfl, by decide +kernel, rfl, rfl, r__law_more⟩
theorem q_22 : DefS Pg fn "_law_eight" D__law_eight := ⟨23, (topS 30), T__law_eight, ["_law_many", "_law_a", "_law_b", "_law_c"], rfl, b__law_eight, k__law_eight, rfl, by decide +kernel, rfl, rfl, r__law_eight⟩
theorem q_23 : DefS Pg fn "_law_clauses" D__law_clauses := ⟨24, (topS 31), T__law_clauses, ["_law_many", "_law_statement_here"], rfl, b__law_clauses, k__law_clauses, rfl, by decide +kernel, rfl, rfl, r__law_clauses⟩
theorem q_24 : DefS Pg fn "_law_all" D__law_all := ⟨25, (topS 32), T__law_all, ["_law_many", "_law_statements"], rfl, b__law_all, k__law_all, rfl, by decide +kernel, rfl, rfl, r__law_all⟩
theorem q_25 : DefS Pg fn "_law_sum" D__law_sum := ⟨26, (topS 33), T__law_sum, ["_law_rows", "_law_numbers"], rfl, b__law_sum, k__law_sum, rfl, by decide +kernel, rfl, rfl, r__law_sum⟩
theorem q_26 : DefS Pg fn "_law_shown" D__law_shown := ⟨27, (topS 34), T__law_shown, ["_law_some", "_law_rows", "_law_thing"], rfl, b__law_shown, k__law_shown, rfl, by decide +kernel, rfl, rfl, r__law_shown⟩
theorem q_27 : DefS Pg fn "_law_paper" D__law_paper := ⟨28, (topS 35), T__law_paper, ["_law_many", "_law_statements", "_law_thing"], rfl, b__law_paper, k__law_paper, rfl, by decide +kernel, rfl, rfl, r__law_paper⟩
theorem q_28 : DefS Pg fn "_law_like" D__law_like := ⟨29, (topS 36), T__law_like, ["_law_actual", "_law_due"], rfl, b__law_like, k__law_like, rfl, by decide +kernel, rfl, rfl, r__law_like⟩
theorem q_29 : DefS Pg fn "_law_kept" D__law_kept := ⟨30, (topS 37), T__law_kept, ["_law_line_here", "_law_sizes"], rfl, b__law_kept, k__law_kept, rfl, by decide +kernel, rfl, rfl, r__law_kept⟩
theorem q_30 : DefS Pg fn "_law_met" D__law_met := ⟨31, (topS 38), T__law_met, ["_law_clause", "_law_sizes"], rfl, b__law_met, k__law_met, rfl, by decide +kernel, rfl, rfl, r__law_met⟩
theorem dat : Dat Pg fn := ⟨by decide +kernel, (all_cons q_0 (all_cons q_1 (all_cons q_2 (all_cons q_3 (all_cons q_4 (all_cons q_5 (all_cons q_6 (all_cons q_7 (all_cons q_8 (all_cons q_9 (all_cons q_10 (all_cons q_11 (all_cons q_12 (all_cons q_13 (all_cons q_14 (all_cons q_15 (all_cons q_16 (all_cons q_17 (all_cons q_18 (all_cons q_19 (all_cons q_20 (all_cons q_21 (all_cons q_22 (all_cons q_23 (all_cons q_24 (all_cons q_25 (all_cons q_26 (all_cons q_27 (all_cons q_28 (all_cons q_29 (all_cons q_30 all_nil))))))))))))))))))))))))))))))), all_nil⟩
theorem r_law (R : RdC) (k : Nat) : DSs Pg R k T_law (defBody (topS 39)).tail c_law := (d_cons (d_asg 2 rfl rfl (fun _ => (e_bin .add e_int (e_call 1 10 rfl rfl (as_vr 1 rfl rfl (as_cons e_int as_nil)))))) (d_cons (d_if (fun _ => (t_not (t_e (e_call 2 28 rfl rfl (as_cons (e_call 3 4 rfl rfl (as_cons (e_var 2 rfl rfl) as_nil)) (as_cons (e_call 4 20 rfl rfl (as_cons (e_var 2 rfl rfl) as_nil)) as_nil)))))) (d_one (d_ret (fun _ => e_bl))) d_nil) (d_cons (d_for (fun _ => (i_rng1 5 10 rfl rfl e_int)) (g_nm 3 rfl rfl) (d_cons (d_asg 4 rfl rfl (fun _ => (e_call 6 12 rfl rfl (as_vr 1 rfl rfl (as_cons (e_var 2 rfl rfl) as_nil))))) (d_cons (d_asg 5 rfl rfl (fun _ => (e_call 7 9 rfl rfl (as_cons (e_var 2 rfl rfl) (as_cons (e_var 4 rfl rfl) as_nil))))) (d_cons (d_if (fun _ => (t_not (t_e (e_call 2 28 rfl rfl (as_cons (e_var 5 rfl rfl) (as_cons (e_call 8 23 rfl rfl (as_cons (e_var 2 rfl rfl) (as_cons (e_var 4 rfl rfl) as_nil))) as_nil)))))) (d_one (d_ret (fun _ => e_bl))) d_nil) (d_one (d_for (fun _ => (i_rng1 5 10 rfl rfl e_int)) (g_nm 6 rfl rfl) (d_cons (d_asg 7 rfl rfl (fun _ => (e_call 9 18 rfl rfl (as_vr 1 rfl rfl (as_cons (e_var 2 rfl rfl) (as_cons e_int as_nil)))))) (d_cons (d_asg 8 rfl rfl (fun _ => (e_cmp .eq (e_blt .len 10 0 rfl rfl rfl (a_cons (e_lc [("_law_clause", 9)] [9, 7] [9] ["_law_met"] [] (i_seq (e_var 5 rfl rfl)) (g_nm 9 rfl rfl) (c_one (t_not (t_e (e_call 0 30 rfl rfl (as_cons (e_var 9 rfl rfl) (as_cons (e_var 7 rfl rfl) as_nil)))))) (e_var 9 rfl rfl)) a_nil)) e_int))) (d_cons (d_if (fun _ => (t_cmp .ne (e_var 8 rfl rfl) (e_call 11 15 rfl rfl (as_cons (e_var 4 rfl rfl) (as_cons (e_var 7 rfl rfl) as_nil))))) (d_one (d_ret (fun _ => e_bl))) d_nil) (d_one (d_if (fun _ => (t_cmp .gt (e_blt .len 10 0 rfl rfl rfl (a_cons (e_lc [("_law_line_here", 10)] [10, 7] [10] ["_law_kept"] [] (i_seq (e_call 3 4 rfl rfl (as_cons (e_var 2 rfl rfl) as_nil))) (g_nm 10 rfl rfl) (c_one (t_not (t_e (e_call 0 29 rfl rfl (as_cons (e_var 10 rfl rfl) (as_cons (e_var 7 rfl rfl) as_nil)))))) (e_var 10 rfl rfl)) a_nil)) e_int)) (d_one (d_ret (fun _ => e_bl))) d_nil))))))))))) (d_one (d_ret (fun _ => e_bl))))))
theorem lawS : LawS Pg fn c_law 11 := ⟨32, 10, (topS 39), (topS 17), T_law, T__law_begin, _, _, _, _, _, "_law_draws", (defBody (topS 39)).tail, rfl, rfl, b_law, b__law_begin, k_law, rfl, by decide +kernel, k__law_begin, rfl, by decide +kernel, rfl, rfl, rfl, rfl, rfl, rfl, rfl, rfl, r_law, r__law_begin⟩
abbrev Rw : PySem.W.OpenRow := PySem.W.OpenLaw.row PySem.Challenge.rw_sheetsfit_k02_whole_rows
abbrev hk : PySem.W.Hook := He.hookX 4 (faOf Pg) fn (tsOf Pg) [] (exOf Pg)
def ob (s : PySem.W.SharedT) : He.AlX := He.obsX 4 (faOf Pg) fn (tsOf Pg) [] (exOf Pg) (HandSHeadRun.getT s)
theorem ob_eq (s : PySem.W.SharedT) : ob s = hk.obs s.abs := He.obsX_eq (HandSHeadRun.getT_eq s)
def names : List PySem.Str := (([("SheetError" : PySem.Str), ("BadStatement" : PySem.Str), ("is_number" : PySem.Str), ("is_statement" : PySem.Str), ("check_statement" : PySem.Str), ("line_of" : PySem.Str), ("base" : PySem.Str), ("less" : PySem.Str), ("both_ways" : PySem.Str), ("other_line" : PySem.Str), ("pair_clauses" : PySem.Str), ("clauses" : PySem.Str), ("_law_begin" : PySem.Str), ("_law_draw" : PySem.Str), ("_law_words" : PySem.Str), ("_law_statement" : PySem.Str), ("_law_facts" : PySem.Str), ("_law_turn" : PySem.Str), ("_law_holds" : PySem.Str), ("_law_keeps" : PySem.Str), ("_law_right" : PySem.Str), ("_law_drawn" : PySem.Str), ("_law_line" : PySem.Str), ("_law_base" : PySem.Str)] : List PySem.Str) ++ ([("_law_more" : PySem.Str), ("_law_eight" : PySem.Str), ("_law_clauses" : PySem.Str), ("_law_all" : PySem.Str), ("_law_sum" : PySem.Str), ("_law_shown" : PySem.Str), ("_law_paper" : PySem.Str), ("_law_like" : PySem.Str), ("_law_kept" : PySem.Str), ("_law_met" : PySem.Str), ("SIZES" : PySem.Str)] : List PySem.Str))
abbrev RunP (w : World) : Prop := HandSHeadRun.RunEq Rw (PySem.W.view Rw.prog [39]) hk ob 6000 names w
theorem run (w : World) : RunP w := PySem.W.byRow2 "special-get-raises" (P := RunP) (fun w os => by kernel_rfl) (fun w os => by kernel_rfl) w
end Lw
section
open PySem PySem.W PySem.Calls PyProof.Rows
theorem Lw.holds {m wf : Nat} (hm : L2.Room (2 * (m + 1) + 2) callerA) (ev : ∀ ns : List Int, ns.length ≤ 63 → ∃ st', Pm.ex (Pm.fsOf Lw.pg wf (m + 1)) wf Lw.c_law (Pm.lawEnv 11) (Pm.lawSt ns) = .ret (.bool true) st') : PySem.Challenge.rw_sheetsfit_k02_whole_rows.Holds := by
  w_on; o_law
  refine HandSHeadRun.head_any (r := OpenLaw.row PySem.Challenge.rw_sheetsfit_k02_whole_rows) (q := view (OpenLaw.row PySem.Challenge.rw_sheetsfit_k02_whole_rows).prog [39]) (H := Lw.hk) (ob := Lw.ob) (M := 6000) (loose := Lw.names) (d := HandSHeadRun.topDef (OpenLaw.row PySem.Challenge.rw_sheetsfit_k02_whole_rows).prog 39) (kwd := []) Lw.ob_eq
    (by kernel_rfl) (fun s => by kernel_rfl) Lw.run (by kernel_rfl) (by kernel_rfl) (by kernel_rfl) (by rfl) (by first | assumption | decide +kernel) (by decide +kernel) ⟨rfl, rfl, rfl, rfl, rfl, by decide +kernel⟩ ?hw ?hc
  case hw => w_witness2
  case hc =>
    refine L2.walk_ofE (l := PySem.Challenge.rw_sheetsfit_k02_whole_rows) (n := 63) (k := 2 * (m + 1) + 2) (x := "_law_script") (CX := L2.CX0) rfl (by decide) (by kernel_rfl) hm ?F (fun _ _ _ _ z => z)
    case F =>
      intro w mg fa h Y G hmg0
      obtain ⟨K, KX, c⟩ := Y
      have hmg : mg ("law" : PySem.Str) = some (.ref fa) := by
        have e : (HandSHeadRun.topDef (OpenLaw.row PySem.Challenge.rw_sheetsfit_k02_whole_rows).prog 39).name = ("law" : PySem.Str) := by kernel_rfl
        rw [← e]
        exact hmg0
      obtain ⟨fd, hb, hF⟩ := Pm.law_facts (P := (PySem.Challenge.rw_sheetsfit_k02_whole_rows).prog) (w := w) (wf := wf) (m := m) KX G c Lw.dat Lw.lawS hmg ev
      exact ⟨K, fd, Pm.spLaw K, KX, hb, fun H a ns hl _ hS => ⟨a, ns, rfl, hS, hl, fun _ => rfl⟩, hF⟩
end

/-! Sx1: the simplex, plain: tableaux over the rationals; Bland's rule ends. -/
namespace Sx
def Sm : Nat → (Nat → Rat) → Rat
  | 0, _ => 0
  | n + 1, f => Sm n f + f n
theorem Sm_congr {n : Nat} {f g : Nat → Rat} (h : ∀ i, i < n → f i = g i) : Sm n f = Sm n g := by
  induction n with
  | zero => rfl
  | succ n ih => rw [Sm, Sm, ih (fun i hi => h i (by omega)), h n (by omega)]
theorem Sm_add (n : Nat) (f g : Nat → Rat) : Sm n (fun i => f i + g i) = Sm n f + Sm n g := by
  induction n with
  | zero => simp only [Sm]; grind
  | succ n ih => rw [Sm, Sm, Sm, ih]; grind
theorem Sm_mul (n : Nat) (c : Rat) (f : Nat → Rat) : Sm n (fun i => c * f i) = c * Sm n f := by
  induction n with
  | zero => simp [Sm]
  | succ n ih => rw [Sm, Sm, ih]; grind
theorem Sm_eq0 {n : Nat} {f : Nat → Rat} (h : ∀ i, i < n → f i = 0) : Sm n f = 0 := by
  induction n with
  | zero => rfl
  | succ n ih => rw [Sm, ih (fun i hi => h i (by omega)), h n (by omega)]; grind
theorem Sm_single {n k : Nat} {f : Nat → Rat} (hk : k < n) (h : ∀ i, i < n → i ≠ k → f i = 0) : Sm n f = f k := by
  induction n with
  | zero => omega
  | succ n ih =>
    rw [Sm]
    by_cases q : k = n
    · subst q
      rw [Sm_eq0 fun i hi => h i (by omega) (by omega)]
      grind
    · rw [ih (by omega) fun i hi hk => h i (by omega) hk, h n (by omega) (by omega)]
      grind
theorem Sm_comm (n m : Nat) (f : Nat → Nat → Rat) : Sm n (fun i => Sm m (fun j => f i j)) = Sm m (fun j => Sm n (fun i => f i j)) := by
  induction n with
  | zero => rw [Sm]; exact (Sm_eq0 fun _ _ => rfl).symm
  | succ n ih =>
    rw [Sm, ih, ← Sm_add]
    rfl
theorem Sm_nonneg {n : Nat} {f : Nat → Rat} (h : ∀ i, i < n → 0 ≤ f i) : 0 ≤ Sm n f := by
  induction n with
  | zero => exact Rat.le_refl
  | succ n ih =>
    have h1 := ih fun i hi => h i (by omega)
    have h2 := h n (by omega)
    rw [Sm]
    grind
theorem Sm_neg_ex {n : Nat} {f : Nat → Rat} (h : Sm n f < 0) : ∃ i, i < n ∧ f i < 0 := by
  refine Classical.byContradiction fun q => ?_
  have := Sm_nonneg (n := n) (f := f) fun i hi => Rat.not_lt.mp fun hf => q ⟨i, hi, hf⟩
  grind
theorem Sm_lin (n : Nat) (a b : Rat) (f h x : Nat → Rat) : Sm n (fun j => (a * f j - b * h j) * x j) = a * Sm n (fun j => f j * x j) - b * Sm n (fun j => h j * x j) := by
  rw [← Sm_mul, ← Sm_mul]
  have e : (fun j => (a * f j - b * h j) * x j) = fun j => a * (f j * x j) + -1 * (b * (h j * x j)) := by funext j; grind
  rw [e, Sm_add, Sm_mul, Sm_mul n (-1)]
  grind
/-- point masses -/
def pm (m : Nat) (β : Nat → Nat) (v : Nat → Rat) (j : Nat) : Rat := Sm m (fun i => if β i = j then v i else 0)
theorem pm_sum {m N : Nat} {β : Nat → Nat} (hβ : ∀ i, i < m → β i < N) (f v : Nat → Rat) : Sm N (fun j => f j * pm m β v j) = Sm m (fun i => f (β i) * v i) := by
  have e : (fun j => f j * pm m β v j) = fun j => Sm m (fun i => f j * if β i = j then v i else 0) := by
    funext j
    rw [pm, Sm_mul]
  rw [e, Sm_comm]
  refine Sm_congr fun i hi => ?_
  rw [Sm_single (hβ i hi) fun j hj hn => ?_]
  · simp
  · rw [if_neg (fun q => hn q.symm)]; grind
theorem pm_at {m k : Nat} {β : Nat → Nat} (hk : k < m) (hi : ∀ i, i < m → β i = β k → i = k) (v : Nat → Rat) : pm m β v (β k) = v k := by
  rw [pm, Sm_single hk fun i hi' hn => if_neg fun q => hn (hi i hi' q)]
  simp
theorem pm_out {m j : Nat} {β : Nat → Nat} (h : ∀ i, i < m → β i ≠ j) (v : Nat → Rat) : pm m β v j = 0 :=
  Sm_eq0 fun i hi => if_neg (h i hi)

structure Tab where
  ln : Nat → Nat → Rat
  rh : Nat → Rat
  be : Nat → Nat
  G : Nat → Rat
  Gr : Rat
  K : Rat
structure Inv (m N : Nat) (A : Nat → Nat → Rat) (b c : Nat → Rat) (u : Tab) : Prop where
  lt : ∀ i, i < m → u.be i < N
  pos : ∀ i, i < m → 0 < u.ln i (u.be i)
  zer : ∀ i, i < m → ∀ k, k < m → i ≠ k → u.ln i (u.be k) = 0
  rhn : ∀ i, i < m → 0 ≤ u.rh i
  eqv : ∀ (x : Nat → Rat) (t : Rat), (∀ i, i < m → Sm N (fun j => u.ln i j * x j) = t * u.rh i) ↔ (∀ k, k < m → Sm N (fun j => A k j * x j) = t * b k)
  goal : ∀ (x : Nat → Rat) (t : Rat), (∀ k, k < m → Sm N (fun j => A k j * x j) = t * b k) → Sm N (fun j => u.G j * x j) = u.K * Sm N (fun j => c j * x j) - t * u.Gr
  gz : ∀ i, i < m → u.G (u.be i) = 0
  kp : 0 < u.K
structure Step (m N : Nat) (u u' : Tab) (r s : Nat) : Prop where
  rm : r < m
  sN : s < N
  ps : 0 < u.ln r s
  mn : ∀ i, i < m → 0 < u.ln i s → u.rh r * u.ln i s ≤ u.rh i * u.ln r s
  oth : ∀ i, i < m → i ≠ r → ∃ g : Rat, 0 < g ∧ (∀ j, j < N → g * u'.ln i j = u.ln r s * u.ln i j - u.ln i s * u.ln r j) ∧ g * u'.rh i = u.ln r s * u.rh i - u.ln i s * u.rh r
  row : ∀ j, j < N → u'.ln r j = u.ln r j
  rowr : u'.rh r = u.rh r
  go : ∃ g : Rat, 0 < g ∧ (∀ j, j < N → g * u'.G j = u.ln r s * u.G j - u.G s * u.ln r j) ∧ g * u'.Gr = u.ln r s * u.Gr + u.G s * u.rh r ∧ g * u'.K = u.ln r s * u.K
  ber : u'.be r = s
  beo : ∀ i, i < m → i ≠ r → u'.be i = u.be i
theorem pos_of_mul {g a b : Rat} (hg : 0 < g) (h : g * a = b) (hb : 0 < b) : 0 < a := by
  refine Classical.byContradiction fun q => ?_
  have := Rat.mul_nonneg (Rat.le_of_lt hg) (show 0 ≤ -a by grind)
  grind
theorem nonneg_of_mul {g a b : Rat} (hg : 0 < g) (h : g * a = b) (hb : 0 ≤ b) : 0 ≤ a := by
  refine Classical.byContradiction fun q => ?_
  have := Rat.mul_pos hg (show 0 < -a by grind)
  grind
theorem zero_of_mul {g a : Rat} (hg : g ≠ 0) (h : g * a = 0) : a = 0 := by grind
theorem div_nn {a b : Rat} (h : 0 ≤ a) (hb : 0 < b) : 0 ≤ a / b :=
  nonneg_of_mul hb (show b * (a / b) = a by grind) h

section
variable {m N : Nat} {A : Nat → Nat → Rat} {b c : Nat → Rat} {u u' : Tab} {r s : Nat}
theorem Inv.inj (I : Inv m N A b c u) : ∀ i, i < m → ∀ k, k < m → u.be i = u.be k → i = k := fun i hi k hk e => by
  refine Classical.byContradiction fun q => ?_
  have h1 := I.pos i hi
  have h2 := I.zer i hi k hk q
  rw [e, h2] at h1
  exact absurd h1 (by decide)
theorem Inv.step (I : Inv m N A b c u) (S : Step m N u u' r s) : Inv m N A b c u' := by
  obtain ⟨rm, sN, ps, mn, oth, row, rowr, ⟨g, hg, hG, hGr, hK⟩, ber, beo⟩ := S
  have hd : ∀ i, i < m → i ≠ r → 0 < u.ln r s * u.ln i (u.be i) := fun i hi _ => Rat.mul_pos ps (I.pos i hi)
  refine ⟨?_, ?_, ?_, ?_, ?_, ?_, ?_, ?_⟩
  · intro i hi
    by_cases q : i = r
    · subst q; rw [ber]; exact sN
    · rw [beo i hi q]; exact I.lt i hi
  · intro i hi
    by_cases q : i = r
    · subst q; rw [ber, row s sN]; exact ps
    · obtain ⟨g, hg, e, _⟩ := oth i hi q
      rw [beo i hi q]
      have e := e _ (I.lt i hi)
      rw [I.zer r rm i hi (fun z => q z.symm)] at e
      exact pos_of_mul hg e (by have := hd i hi q; grind)
  · intro i hi k hk hn
    by_cases q : i = r
    · subst q
      rw [beo k hk (fun z => hn z.symm), row _ (I.lt k hk)]
      exact I.zer i hi k hk hn
    · obtain ⟨g, hg, e, _⟩ := oth i hi q
      by_cases q2 : k = r
      · subst q2
        rw [ber]
        have e := e _ sN
        exact zero_of_mul (g := g) (by grind) (by grind)
      · rw [beo k hk q2]
        have e := e _ (I.lt k hk)
        rw [I.zer i hi k hk hn, I.zer r rm k hk (fun z => q2 z.symm)] at e
        exact zero_of_mul (g := g) (by grind) (by grind)
  · intro i hi
    by_cases q : i = r
    · subst q; rw [rowr]; exact I.rhn i hi
    · obtain ⟨g, hg, _, e⟩ := oth i hi q
      refine nonneg_of_mul hg e ?_
      by_cases q2 : 0 < u.ln i s
      · have := mn i hi q2; grind
      · have h1 := Rat.mul_nonneg (Rat.le_of_lt ps) (I.rhn i hi)
        have h2 := Rat.mul_nonneg (show 0 ≤ -u.ln i s by grind) (I.rhn r rm)
        grind
  · intro x t
    rw [← I.eqv x t]
    have er : Sm N (fun j => u'.ln r j * x j) = Sm N (fun j => u.ln r j * x j) := Sm_congr fun j hj => by rw [row j hj]
    have eo : ∀ i, i < m → i ≠ r → ∃ g : Rat, 0 < g ∧ g * Sm N (fun j => u'.ln i j * x j) = u.ln r s * Sm N (fun j => u.ln i j * x j) - u.ln i s * Sm N (fun j => u.ln r j * x j) ∧ g * u'.rh i = u.ln r s * u.rh i - u.ln i s * u.rh r := fun i hi q => by
      obtain ⟨g, hg, e, e2⟩ := oth i hi q
      refine ⟨g, hg, ?_, e2⟩
      rw [← Sm_lin, ← Sm_mul]
      exact Sm_congr fun j hj => by rw [← e j hj]; grind
    constructor
    · intro h i hi
      have hr : Sm N (fun j => u.ln r j * x j) = t * u.rh r := by rw [← er, h r rm, rowr]
      by_cases q : i = r
      · subst q; exact hr
      · obtain ⟨g, hg, e, e2⟩ := eo i hi q
        have h3 := h i hi
        have : u.ln r s * (Sm N (fun j => u.ln i j * x j) - t * u.rh i) = 0 := by
          have : g * Sm N (fun j => u'.ln i j * x j) = t * (g * u'.rh i) := by rw [h3]; grind
          grind
        have := zero_of_mul (show u.ln r s ≠ 0 by grind) this
        grind
    · intro h i hi
      by_cases q : i = r
      · subst q; rw [er, rowr]; exact h i hi
      · obtain ⟨g, hg, e, e2⟩ := eo i hi q
        have h3 := h i hi
        have h4 := h r rm
        have : g * (Sm N (fun j => u'.ln i j * x j) - t * u'.rh i) = 0 := by
          have : g * (Sm N (fun j => u'.ln i j * x j) - t * u'.rh i) = g * Sm N (fun j => u'.ln i j * x j) - t * (g * u'.rh i) := by grind
          rw [this, e, e2, h3, h4]
          grind
        have := zero_of_mul (show g ≠ 0 by grind) this
        grind
  · intro x t h
    have h1 := I.goal x t h
    have h2 := (I.eqv x t).mpr h r rm
    have e : g * Sm N (fun j => u'.G j * x j) = u.ln r s * Sm N (fun j => u.G j * x j) - u.G s * Sm N (fun j => u.ln r j * x j) := by
      rw [← Sm_lin, ← Sm_mul]
      exact Sm_congr fun j hj => by rw [← hG j hj]; grind
    have : g * (Sm N (fun j => u'.G j * x j) - (u'.K * Sm N (fun j => c j * x j) - t * u'.Gr)) = 0 := by
      have : g * (Sm N (fun j => u'.G j * x j) - (u'.K * Sm N (fun j => c j * x j) - t * u'.Gr)) = g * Sm N (fun j => u'.G j * x j) - ((g * u'.K) * Sm N (fun j => c j * x j) - t * (g * u'.Gr)) := by grind
      rw [this, e, hK, hGr, h1, h2]
      grind
    have := zero_of_mul (show g ≠ 0 by grind) this
    grind
  · intro i hi
    by_cases q : i = r
    · subst q
      rw [ber]
      have e := hG s sN
      exact zero_of_mul (g := g) (by grind) (by grind)
    · rw [beo i hi q]
      have e := hG _ (I.lt i hi)
      rw [I.gz i hi, I.zer r rm i hi (fun z => q z.symm)] at e
      exact zero_of_mul (g := g) (by grind) (by grind)
  · exact pos_of_mul hg hK (Rat.mul_pos ps I.kp)
/-! ### the basic solution, and a way from it -/
def Tab.x (m : Nat) (u : Tab) : Nat → Rat := pm m u.be (fun i => u.rh i / u.ln i (u.be i))
def Tab.eta (m : Nat) (u : Tab) (s : Nat) : Nat → Rat := fun j => (if j = s then 1 else 0) + pm m u.be (fun i => -u.ln i s / u.ln i (u.be i)) j
theorem eta_sum (I : Inv m N A b c u) (hs : s < N) (f : Nat → Rat) : Sm N (fun j => f j * u.eta m s j) = f s + Sm m (fun i => f (u.be i) * (-u.ln i s / u.ln i (u.be i))) := by
  rw [← pm_sum I.lt]
  have e : (fun j => f j * u.eta m s j) = fun j => (f j * if j = s then 1 else 0) + f j * pm m u.be (fun i => -u.ln i s / u.ln i (u.be i)) j := by
    funext j
    rw [Tab.eta]
    grind
  rw [e, Sm_add, Sm_single hs fun i hi hn => ?_]
  · simp
  · rw [if_neg hn]; grind
theorem x_sol (I : Inv m N A b c u) : ∀ i, i < m → Sm N (fun j => u.ln i j * u.x m j) = 1 * u.rh i := fun i hi => by
  rw [Tab.x, pm_sum I.lt, Sm_single hi fun k hk hn => ?_]
  · have := I.pos i hi
    grind
  · rw [I.zer i hi k hk (fun z => hn z.symm)]; grind
theorem eta_sol (I : Inv m N A b c u) (hs : s < N) : ∀ i, i < m → Sm N (fun j => u.ln i j * u.eta m s j) = 0 * u.rh i := fun i hi => by
  rw [eta_sum I hs, Sm_single hi fun k hk hn => ?_]
  · have := I.pos i hi
    grind
  · rw [I.zer i hi k hk (fun z => hn z.symm)]; grind
theorem x_nn (I : Inv m N A b c u) (j : Nat) : 0 ≤ u.x m j := Sm_nonneg fun i hi => by
  split
  · exact div_nn (I.rhn i hi) (I.pos i hi)
  · exact Rat.le_refl
def Tab.W (m N : Nat) (c : Nat → Rat) (u : Tab) : Rat := Sm N (fun j => c j * u.x m j)
theorem gr_eq (I : Inv m N A b c u) : u.Gr = u.K * u.W m N c := by
  have h := I.goal (u.x m) 1 ((I.eqv _ _).mp (x_sol I))
  have e : Sm N (fun j => u.G j * u.x m j) = 0 := by
    rw [Tab.x, pm_sum I.lt]
    exact Sm_eq0 fun i hi => by rw [I.gz i hi]; grind
  rw [e] at h
  rw [Tab.W]
  grind
theorem eta_goal {w : Tab} (I : Inv m N A b c u) (J : Inv m N A b c w) (hs : s < N) : Sm N (fun j => w.G j * u.eta m s j) = w.K * Sm N (fun j => c j * u.eta m s j) := by
  have := J.goal (u.eta m s) 0 ((I.eqv _ _).mp (eta_sol I hs))
  grind
theorem eta_own (I : Inv m N A b c u) (hs : s < N) : u.G s = u.K * Sm N (fun j => c j * u.eta m s j) := by
  rw [← eta_goal I I hs, eta_sum I hs, Sm_eq0 fun i hi => ?_]
  · grind
  · rw [I.gz i hi]; grind
theorem leaves_ex (I : Inv m N A b c u) (hc : ∀ j, 0 ≤ c j) (hs : s < N) (hG : u.G s < 0) : ∃ i, i < m ∧ 0 < u.ln i s := by
  refine Classical.byContradiction fun q => ?_
  have h1 := eta_own I hs
  have h2 : 0 ≤ Sm N (fun j => c j * u.eta m s j) := by
    rw [eta_sum I hs]
    have h3 : 0 ≤ Sm m (fun i => c (u.be i) * (-u.ln i s / u.ln i (u.be i))) := Sm_nonneg fun i hi => by
      have h4 : ¬ 0 < u.ln i s := fun z => q ⟨i, hi, z⟩
      exact Rat.mul_nonneg (hc _) (div_nn (by grind) (I.pos i hi))
    have := hc s
    grind
  have := Rat.mul_nonneg (Rat.le_of_lt I.kp) h2
  grind
/-! ### Bland's rule -/
structure Bl (m N : Nat) (u u' : Tab) (r s : Nat) : Prop extends Step m N u u' r s where
  gs : u.G s < 0
  first : ∀ j, j < s → 0 ≤ u.G j
  tie : ∀ i, i < m → i ≠ r → 0 < u.ln i s → u.rh r * u.ln i s = u.rh i * u.ln r s → u.be r < u.be i
theorem w_step (I : Inv m N A b c u) (S : Bl m N u u' r s) : u'.W m N c * (u.ln r s * u.K) = u.W m N c * (u.ln r s * u.K) + u.G s * u.rh r := by
  obtain ⟨g, hg, _, h1, h2⟩ := S.go
  have e1 := gr_eq I
  have e2 := gr_eq (I.step S.toStep)
  rw [e1, e2] at h1
  grind
theorem w_le (I : Inv m N A b c u) (S : Bl m N u u' r s) : u'.W m N c ≤ u.W m N c := by
  have h := w_step I S
  have hp := Rat.mul_pos S.ps I.kp
  have h2 := Rat.mul_nonneg (show 0 ≤ -u.G s by have := S.gs; grind) (I.rhn r S.rm)
  refine Classical.byContradiction fun q => ?_
  have := Rat.mul_pos (show 0 < u'.W m N c - u.W m N c by grind) hp
  grind
theorem w_lt (I : Inv m N A b c u) (S : Bl m N u u' r s) (hr : u.rh r ≠ 0) : u'.W m N c < u.W m N c := by
  have h := w_step I S
  have hp := Rat.mul_pos S.ps I.kp
  have h0 := I.rhn r S.rm
  have h2 := Rat.mul_pos (show 0 < -u.G s by have := S.gs; grind) (show 0 < u.rh r by grind)
  refine Classical.byContradiction fun q => ?_
  have := Rat.mul_nonneg (show 0 ≤ u'.W m N c - u.W m N c by grind) (Rat.le_of_lt hp)
  grind
theorem x_step (I : Inv m N A b c u) (S : Step m N u u' r s) (hr : u.rh r = 0) (j : Nat) : u'.x m j = u.x m j := by
  refine Sm_congr fun i hi => ?_
  show (if u'.be i = j then u'.rh i / u'.ln i (u'.be i) else 0) = if u.be i = j then u.rh i / u.ln i (u.be i) else 0
  by_cases q : i = r
  · subst q
    rw [S.rowr, hr]
    have : (0 : Rat) / u'.ln i (u'.be i) = 0 := by grind
    have h2 : (0 : Rat) / u.ln i (u.be i) = 0 := by grind
    rw [this, h2]
    split <;> split <;> rfl
  · obtain ⟨g, hg, e1, e2⟩ := S.oth i hi q
    rw [S.beo i hi q]
    have e1 := e1 _ (I.lt i hi)
    rw [I.zer r S.rm i hi (fun z => q z.symm)] at e1
    rw [hr] at e2
    have h1 := I.pos i hi
    have h2 := S.ps
    have h3 : 0 < u'.ln i (u.be i) := pos_of_mul hg e1 (by have := Rat.mul_pos h2 h1; grind)
    have : u'.rh i / u'.ln i (u.be i) = u.rh i / u.ln i (u.be i) := by grind
    rw [this]
def Bs (m : Nat) (u : Tab) (v : Nat) : Prop := ∃ i, i < m ∧ u.be i = v
theorem Step.bs (S : Step m N u u' r s) {v : Nat} (h : Bs m u v) (hv : v ≠ u.be r) : Bs m u' v := by
  obtain ⟨i, hi, rfl⟩ := h
  have q : i ≠ r := fun z => hv (by rw [z])
  exact ⟨i, hi, S.beo i hi q⟩
theorem Step.bs' (S : Step m N u u' r s) {v : Nat} (h : Bs m u' v) (hv : v ≠ s) : Bs m u v := by
  obtain ⟨i, hi, rfl⟩ := h
  have q : i ≠ r := fun z => hv (by rw [z]; exact S.ber)
  exact ⟨i, hi, (S.beo i hi q).symm⟩
theorem Bl.ent_out (I : Inv m N A b c u) (S : Bl m N u u' r s) : ¬ Bs m u s := fun ⟨i, hi, e⟩ => by
  have h := I.gz i hi
  rw [e] at h
  have := S.gs
  grind
theorem Bl.ent_in (S : Bl m N u u' r s) : Bs m u' s := ⟨r, S.rm, S.ber⟩
theorem Bl.lea_in (S : Bl m N u u' r s) : Bs m u (u.be r) := ⟨r, S.rm, rfl⟩
theorem Bl.lea_out (I : Inv m N A b c u) (S : Bl m N u u' r s) : ¬ Bs m u' (u.be r) := fun ⟨i, hi, e⟩ => by
  by_cases q : i = r
  · subst q
    rw [S.ber] at e
    exact S.ent_out I ⟨i, hi, e.symm⟩
  · rw [S.beo i hi q] at e
    exact q (I.inj i hi r S.rm e)
theorem fickle {w w' : Tab} {r2 t : Nat} (I : Inv m N A b c u) (J : Inv m N A b c w) (S : Bl m N u u' r s) (T : Bl m N w w' r2 t)
    (ht : u.be r = t) (hd : u.rh r = 0) (hx : ∀ j, u.x m j = w.x m j) (hst : s < t) (hb : ∀ i, i < m → ¬ Bs m w (u.be i) → u.be i ≤ t) : False := by
  have h1 := eta_goal I J S.sN
  have h2 := eta_own I S.sN
  have hc : Sm N (fun j => c j * u.eta m s j) < 0 := by
    refine Classical.byContradiction fun q => ?_
    have := Rat.mul_nonneg (Rat.le_of_lt I.kp) (show 0 ≤ Sm N (fun j => c j * u.eta m s j) by grind)
    have := S.gs
    grind
  have h3 : w.K * Sm N (fun j => c j * u.eta m s j) < 0 := by
    have := Rat.mul_pos J.kp (show 0 < -Sm N (fun j => c j * u.eta m s j) by grind)
    grind
  rw [← h1, eta_sum I S.sN] at h3
  have hs := T.first s hst
  obtain ⟨i, hi, hn⟩ := Sm_neg_ex (show Sm m (fun i => w.G (u.be i) * (-u.ln i s / u.ln i (u.be i))) < 0 by grind)
  have hp := I.pos i hi
  -- the sign of the product
  have hneg : 0 < w.G (u.be i) * u.ln i s := by
    have h5 := Rat.mul_pos (show 0 < -(w.G (u.be i) * (-u.ln i s / u.ln i (u.be i))) by grind) hp
    have h6 : -(w.G (u.be i) * (-u.ln i s / u.ln i (u.be i))) * u.ln i (u.be i) = w.G (u.be i) * u.ln i s := by grind
    rw [h6] at h5
    exact h5
  have hout : ¬ Bs m w (u.be i) := fun ⟨k, hk, e⟩ => by
    have := J.gz k hk
    rw [e] at this
    rw [this] at hneg
    grind
  have hle := hb i hi hout
  by_cases q : u.be i = t
  · have : i = r := I.inj i hi r S.rm (by rw [q, ht])
    subst this
    rw [q] at hneg
    have h8 := Rat.mul_pos (show 0 < -w.G t by have := T.gs; grind) S.ps
    grind
  · have hlt : u.be i < t := by omega
    have hg := T.first _ hlt
    have hl : 0 < u.ln i s := by
      refine Classical.byContradiction fun z => ?_
      have := Rat.mul_nonneg hg (show 0 ≤ -u.ln i s by grind)
      grind
    have hz : u.rh i = 0 := by
      have h9 := hx (u.be i)
      have e1 : u.x m (u.be i) = u.rh i / u.ln i (u.be i) := pm_at hi (fun k hk e => I.inj k hk i hi e) _
      have e2 : w.x m (u.be i) = 0 := pm_out (fun k hk e => hout ⟨k, hk, e⟩) _
      rw [e1, e2] at h9
      grind
    have hir : i ≠ r := fun z => q (by rw [z, ht])
    have := S.tie i hi hir hl (by rw [hd, hz]; grind)
    omega
end
/-! ### runs -/
structure Run (m N : Nat) (A : Nat → Nat → Rat) (b c : Nat → Rat) (σ : Nat → Tab) (rr ss : Nat → Nat) (lo hi : Nat) : Prop where
  inv : ∀ i, lo ≤ i → i ≤ hi → Inv m N A b c (σ i)
  st : ∀ i, lo ≤ i → i < hi → Bl m N (σ i) (σ (i + 1)) (rr i) (ss i)
section
variable {m N : Nat} {A : Nat → Nat → Rat} {b c : Nat → Rat} {σ : Nat → Tab} {rr ss : Nat → Nat} {lo hi : Nat}
theorem Run.sub (R : Run m N A b c σ rr ss lo hi) {lo' hi' : Nat} (h1 : lo ≤ lo') (h2 : hi' ≤ hi) : Run m N A b c σ rr ss lo' hi' :=
  ⟨fun i a b => R.inv i (by omega) (by omega), fun i a b => R.st i (by omega) (by omega)⟩
theorem Run.left (R : Run m N A b c σ rr ss lo hi) {v : Nat} : ∀ d, ∀ p, lo ≤ p → p + d ≤ hi → Bs m (σ p) v → ¬ Bs m (σ (p + d)) v → ∃ k, p ≤ k ∧ k < p + d ∧ (σ k).be (rr k) = v
  | 0, p, _, _, h1, h2 => absurd h1 h2
  | d + 1, p, h0, hh, h1, h2 => by
    by_cases q : Bs m (σ (p + d)) v
    · refine ⟨p + d, by omega, by omega, ?_⟩
      refine Classical.byContradiction fun z => h2 ?_
      exact (R.st (p + d) (by omega) (by omega)).toStep.bs q (fun e => z e.symm)
    · obtain ⟨k, a, b, e⟩ := R.left d p h0 (by omega) h1 q
      exact ⟨k, a, by omega, e⟩
theorem Run.entered (R : Run m N A b c σ rr ss lo hi) {v : Nat} : ∀ d, ∀ p, lo ≤ p → p + d ≤ hi → ¬ Bs m (σ p) v → Bs m (σ (p + d)) v → ∃ k, p ≤ k ∧ k < p + d ∧ ss k = v
  | 0, p, _, _, h1, h2 => absurd h2 h1
  | d + 1, p, h0, hh, h1, h2 => by
    by_cases q : Bs m (σ (p + d)) v
    · obtain ⟨k, a, b, e⟩ := R.entered d p h0 (by omega) h1 q
      exact ⟨k, a, by omega, e⟩
    · refine ⟨p + d, by omega, by omega, ?_⟩
      refine Classical.byContradiction fun z => q ?_
      exact (R.st (p + d) (by omega) (by omega)).toStep.bs' h2 (fun e => z e.symm)
/-- degenerate -/
def Deg (σ : Nat → Tab) (rr : Nat → Nat) (lo hi : Nat) : Prop := ∀ i, lo ≤ i → i < hi → (σ i).rh (rr i) = 0
theorem Run.same (R : Run m N A b c σ rr ss lo hi) (D : Deg σ rr lo hi) : ∀ d p, lo ≤ p → p + d ≤ hi → ∀ j, (σ (p + d)).x m j = (σ p).x m j
  | 0, _, _, _, _ => rfl
  | d + 1, p, h0, h1, j => by
    have := x_step (R.inv (p + d) (by omega) (by omega)) (R.st (p + d) (by omega) (by omega)).toStep (D _ (by omega) (by omega)) j
    rw [← R.same D d p h0 (by omega) j, ← this]
    rfl
/-- all that moves is below k -/
def Below (σ : Nat → Tab) (rr ss : Nat → Nat) (k lo hi : Nat) : Prop := ∀ i, lo ≤ i → i < hi → ss i < k ∧ (σ i).be (rr i) < k
theorem Run.no_both (R : Run m N A b c σ rr ss lo hi) (D : Deg σ rr lo hi) {k : Nat} (B : Below σ rr ss (k + 1) lo hi) {p q : Nat} (p0 : lo ≤ p) (p1 : p < hi) (q0 : lo ≤ q) (q1 : q < hi) (hp : (σ p).be (rr p) = k) (hq : ss q = k) : False := by
  have I := R.inv p p0 (by omega)
  have J := R.inv q q0 (by omega)
  have S := R.st p p0 p1
  have T := R.st q q0 q1
  rw [hq] at T
  have hx : ∀ j, (σ p).x m j = (σ q).x m j := fun j => by
    by_cases h : p ≤ q
    · have := R.same D (q - p) p p0 (by omega) j
      rw [show p + (q - p) = q by omega] at this
      exact this.symm
    · have := R.same D (p - q) q q0 (by omega) j
      rw [show q + (p - q) = p by omega] at this
      exact this
  have hst : ss p < k := by
    have h1 := (B p p0 p1).1
    have h2 : ss p ≠ k := fun e => S.ent_out I (by rw [e, ← hp]; exact S.lea_in)
    omega
  refine fickle I J S T hp (D p p0 p1) hx hst fun i hi hout => ?_
  by_cases h : p ≤ q
  · obtain ⟨e, h1, h2, h3⟩ := R.left (q - p) p p0 (by omega) (v := (σ p).be i) ⟨i, hi, rfl⟩ (by rw [show p + (q - p) = q by omega]; exact hout)
    have := (B e (by omega) (by omega)).2
    omega
  · obtain ⟨e, h1, h2, h3⟩ := R.entered (p - q) q q0 (by omega) (v := (σ p).be i) hout (by rw [show q + (p - q) = p by omega]; exact ⟨i, hi, rfl⟩)
    have := (B e (by omega) (by omega)).1
    omega
theorem Run.deg_len : ∀ (k lo hi : Nat), Run m N A b c σ rr ss lo hi → Deg σ rr lo hi → Below σ rr ss k lo hi → lo ≤ hi → hi - lo < 2 ^ k
  | 0, lo, hi, R, D, B, h => by
    by_cases q : lo < hi
    · exact absurd (B lo (by omega) q).1 (by omega)
    · rw [Nat.pow_zero]; omega
  | k + 1, lo, hi, R, D, B, h => by
    rw [Nat.pow_succ]
    by_cases q : ∃ p, lo ≤ p ∧ p < hi ∧ (ss p = k ∨ (σ p).be (rr p) = k)
    · obtain ⟨p, p0, p1, hp⟩ := q
      -- no other one moves k
      have uni : ∀ p q, lo ≤ p → p < q → q < hi → (ss p = k ∨ (σ p).be (rr p) = k) → (ss q = k ∨ (σ q).be (rr q) = k) → False := by
        intro p q p0 pq q1 hp hq
        rcases hp with hp | hp <;> rcases hq with hq | hq
        · -- entered twice: it left between
          have h1 := (R.st p p0 (by omega)).ent_in
          rw [hp] at h1
          have h2 := (R.st q (by omega) q1).ent_out (R.inv q (by omega) (by omega))
          rw [hq] at h2
          obtain ⟨e, a, bb, z⟩ := R.left (q - (p + 1)) (p + 1) (by omega) (by omega) h1 (by rw [show p + 1 + (q - (p + 1)) = q by omega]; exact h2)
          exact R.no_both D B (p := e) (q := p) (by omega) (by omega) p0 (by omega) z hp
        · exact R.no_both D B (p := q) (q := p) (by omega) q1 p0 (by omega) hq hp
        · exact R.no_both D B (p := p) (q := q) p0 (by omega) (by omega) q1 hp hq
        · have h1 := (R.st p p0 (by omega)).lea_out (R.inv p p0 (by omega))
          rw [hp] at h1
          have h2 := (R.st q (by omega) q1).lea_in
          rw [hq] at h2
          obtain ⟨e, a, bb, z⟩ := R.entered (q - (p + 1)) (p + 1) (by omega) (by omega) h1 (by rw [show p + 1 + (q - (p + 1)) = q by omega]; exact h2)
          exact R.no_both D B (p := p) (q := e) p0 (by omega) (by omega) (by omega) hp z
      have a := deg_len k lo p (R.sub (Nat.le_refl _) (by omega)) (fun i h1 h2 => D i h1 (by omega)) (fun i h1 h2 => by
        have h3 := B i h1 (by omega)
        have h4 : ¬ (ss i = k ∨ (σ i).be (rr i) = k) := fun z => uni i p h1 h2 p1 z hp
        omega) p0
      have bb := deg_len k (p + 1) hi (R.sub (by omega) (Nat.le_refl _)) (fun i h1 h2 => D i (by omega) h2) (fun i h1 h2 => by
        have h3 := B i (by omega) h2
        have h4 : ¬ (ss i = k ∨ (σ i).be (rr i) = k) := fun z => uni p i p0 (by omega) h2 hp z
        omega) (by omega)
      omega
    · have a := deg_len k lo hi R D (fun i h1 h2 => by
        have h3 := B i h1 h2
        have h4 : ¬ (ss i = k ∨ (σ i).be (rr i) = k) := fun z => q ⟨i, h1, h2, z⟩
        omega) h
      omega
/-- how long a run can be, where the goal is told in parts of a whole -/
theorem Run.len (Z : Rat) (hZ : 0 < Z) (hN : ∀ i, lo ≤ i → i ≤ hi → ∃ V : Nat, (σ i).W m N c * Z = (V : Rat)) : ∀ (V lo' : Nat), lo ≤ lo' → lo' ≤ hi → Run m N A b c σ rr ss lo hi → (σ lo').W m N c * Z ≤ (V : Rat) → hi - lo' < (V + 1) * 2 ^ N
  | V, lo', h0, h1, R, hV => by
    refine Classical.byContradiction fun q => ?_
    have hpow : 0 < 2 ^ N := Nat.two_pow_pos N
    have e : (V + 1) * 2 ^ N = V * 2 ^ N + 2 ^ N := Nat.succ_mul V (2 ^ N)
    -- among the first 2 ^ N steps one is not degenerate
    have ex : ∃ i, lo' ≤ i ∧ i < lo' + 2 ^ N ∧ (σ i).rh (rr i) ≠ 0 := by
      refine Classical.byContradiction fun z => ?_
      have := Run.deg_len N lo' (lo' + 2 ^ N) (R.sub h0 (by omega)) (fun i a b => Classical.byContradiction fun y => z ⟨i, a, b, y⟩) (fun i a b => ⟨(R.st i (by omega) (by omega)).sN, (R.inv i (by omega) (by omega)).lt _ (R.st i (by omega) (by omega)).rm⟩) (by omega)
      omega
    obtain ⟨i, i0, i1, hi'⟩ := ex
    have mono : ∀ d, lo' + d ≤ hi → (σ (lo' + d)).W m N c ≤ (σ lo').W m N c := by
      intro d
      induction d with
      | zero => intro _; exact Rat.le_refl
      | succ d ih =>
        intro hd
        exact Rat.le_trans (w_le (R.inv (lo' + d) (by omega) (by omega)) (R.st (lo' + d) (by omega) (by omega))) (ih (by omega))
    have hm := mono (i - lo') (by omega)
    rw [show lo' + (i - lo') = i by omega] at hm
    have hl := w_lt (R.inv i (by omega) (by omega)) (R.st i (by omega) (by omega)) hi'
    obtain ⟨V1, e1⟩ := hN (i + 1) (by omega) (by omega)
    have hlt : (σ (i + 1)).W m N c * Z < (V : Rat) := by
      have := Rat.mul_pos (show 0 < (σ lo').W m N c - (σ (i + 1)).W m N c by grind) hZ
      grind
    rw [e1] at hlt
    have hVV : V1 < V := by exact_mod_cast hlt
    cases V with
    | zero => omega
    | succ V =>
      have := Run.len Z hZ hN V (i + 1) (by omega) (by omega) R (by rw [e1]; exact_mod_cast (show V1 ≤ V by omega))
      omega
end
end Sx

/-! Sx2: how great the numbers of a tableau's lines can be. -/
namespace Sx
def Si : Nat → (Nat → Int) → Int
  | 0, _ => 0
  | n + 1, f => Si n f + f n
theorem Si_cast (n : Nat) (f : Nat → Int) : ((Si n f : Int) : Rat) = Sm n (fun i => (f i : Rat)) := by
  induction n with
  | zero => rfl
  | succ n ih => rw [Si, Sm, ← ih]; push_cast; rfl
theorem Si_congr {n : Nat} {f g : Nat → Int} (h : ∀ i, i < n → f i = g i) : Si n f = Si n g := by
  induction n with
  | zero => rfl
  | succ n ih => rw [Si, Si, ih (fun i hi => h i (by omega)), h n (by omega)]
theorem Si_add (n : Nat) (f g : Nat → Int) : Si n (fun i => f i + g i) = Si n f + Si n g := by
  induction n with
  | zero => rfl
  | succ n ih => rw [Si, Si, Si, ih]; omega
theorem Si_mul (n : Nat) (c : Int) (f : Nat → Int) : Si n (fun i => c * f i) = c * Si n f := by
  induction n with
  | zero => simp [Si]
  | succ n ih => rw [Si, Si, ih]; grind
theorem Si_eq0 {n : Nat} {f : Nat → Int} (h : ∀ i, i < n → f i = 0) : Si n f = 0 := by
  induction n with
  | zero => rfl
  | succ n ih => rw [Si, ih (fun i hi => h i (by omega)), h n (by omega)]; rfl
theorem Si_single {n k : Nat} {f : Nat → Int} (hk : k < n) (h : ∀ i, i < n → i ≠ k → f i = 0) : Si n f = f k := by
  induction n with
  | zero => omega
  | succ n ih =>
    rw [Si]
    by_cases q : k = n
    · subst q
      rw [Si_eq0 fun i hi => h i (by omega) (by omega)]
      omega
    · rw [ih (by omega) fun i hi hk => h i (by omega) hk, h n (by omega) (by omega)]
      omega
theorem Si_abs {n B : Nat} {f : Nat → Int} (h : ∀ i, i < n → (f i).natAbs ≤ B) : (Si n f).natAbs ≤ n * B := by
  induction n with
  | zero => simp [Si]
  | succ n ih =>
    have h1 := ih fun i hi => h i (by omega)
    have h2 := h n (by omega)
    rw [Si, Nat.succ_mul]
    omega
def bnd : Nat → Nat → Nat → Nat
  | 0, _, _ => 1
  | P + 1, m, B => (m + 1) * B * bnd P m (2 * B * B)
theorem bnd_pos : ∀ (P m B : Nat), 1 ≤ B → 1 ≤ bnd P m B
  | 0, _, _, _ => Nat.le_refl _
  | P + 1, m, B, h => Nat.mul_pos (Nat.mul_pos (by omega) h) (bnd_pos P m _ (Nat.mul_pos (by omega) h))
theorem siegel (m : Nat) : ∀ (P B : Nat) (U : List Nat) (es : List (Nat → Int)), 1 ≤ B → U.Nodup → (∀ u ∈ U, u < m) → es.length ≤ P → es.length < U.length → (∀ e ∈ es, ∀ k, (e k).natAbs ≤ B) →
    ∃ z : Nat → Int, (∀ k, k ∉ U → z k = 0) ∧ (∃ k, k ∈ U ∧ z k ≠ 0) ∧ (∀ e ∈ es, Si m (fun k => z k * e k) = 0) ∧ ∀ k, (z k).natAbs ≤ bnd P m B
  | P, B, [], es, _, _, _, _, h, _ => absurd h (by simp)
  | P, B, u :: U, [], hB, hn, hm, _, _, _ => by
    refine ⟨fun k => if k = u then 1 else 0, fun k hk => ?_, ⟨u, List.mem_cons_self, by simp⟩, fun _ h => (nomatch h), fun k => ?_⟩
    · show (if k = u then (1 : Int) else 0) = 0
      rw [if_neg]
      rintro rfl
      exact hk List.mem_cons_self
    · have := bnd_pos P m B hB
      show ((if k = u then (1 : Int) else 0)).natAbs ≤ _
      split <;> simp <;> omega
  | 0, B, u :: U, e :: es, _, _, _, h, _, _ => absurd h (by simp)
  | P + 1, B, U0, a :: es, hB, hn, hm, hP, hl, he => by
    have hBB : B ≤ 2 * B * B := by
      have := Nat.mul_le_mul_left B hB
      rw [Nat.mul_one] at this
      rw [Nat.mul_assoc]
      omega
    have hlen : es.length + 1 < U0.length := hl
    have hP' : es.length ≤ P := by simpa using hP
    by_cases q : ∃ u, u ∈ U0 ∧ a u ≠ 0
    · obtain ⟨u, hu, hau⟩ := q
      have ha := he a List.mem_cons_self
      obtain ⟨z, z0, ⟨k0, hk0, zk0⟩, ze, zb⟩ := siegel m P (2 * B * B) (U0.erase u) (es.map fun e k => a u * e k - e u * a k) (by omega) (hn.erase u) (fun v hv => hm v (List.mem_of_mem_erase hv)) (by simpa using hP') (by rw [List.length_erase_of_mem hu, List.length_map]; omega) (by
        intro e' he' k
        obtain ⟨e, hee, rfl⟩ := List.mem_map.mp he'
        have h1 := he e (List.mem_cons_of_mem _ hee)
        have p1 : (a u * e k).natAbs ≤ B * B := by rw [Int.natAbs_mul]; exact Nat.mul_le_mul (ha u) (h1 k)
        have p2 : (e u * a k).natAbs ≤ B * B := by rw [Int.natAbs_mul]; exact Nat.mul_le_mul (h1 u) (ha k)
        show (a u * e k - e u * a k).natAbs ≤ _
        rw [Nat.mul_assoc]
        omega)
      have zu : z u = 0 := z0 u (fun h => by
        rw [hn.mem_erase_iff] at h
        exact h.1 rfl)
      have hbp := bnd_pos P m (2 * B * B) (by omega)
      generalize hZ : bnd P m (2 * B * B) = Z at zb hbp
      -- the sum of z with a
      generalize hS : Si m (fun k => z k * a k) = S
      have hSb : S.natAbs ≤ m * (B * Z) := by
        rw [← hS]
        exact Si_abs fun k _ => by
          rw [Int.natAbs_mul, Nat.mul_comm]
          exact Nat.mul_le_mul (ha k) (zb k)
      have sum : ∀ e : Nat → Int, Si m (fun k => (a u * z k + if k = u then -S else 0) * e k) = a u * Si m (fun k => z k * e k) - S * e u := by
        intro e
        have e1 : (fun k => (a u * z k + if k = u then -S else 0) * e k) = fun k => a u * (z k * e k) + (if k = u then -S else 0) * e k := by funext k; grind
        rw [e1, Si_add, Si_mul, Si_single (f := fun k => (if k = u then -S else 0) * e k) (hm u hu) fun i _ hi => by
          show (if i = u then -S else 0) * e i = 0
          rw [if_neg hi]; omega]
        simp
        grind
      refine ⟨fun k => a u * z k + if k = u then -S else 0, fun k hk => ?_, ⟨k0, List.mem_of_mem_erase hk0, ?_⟩, fun e hee => ?_, fun k => ?_⟩
      · have h1 : k ≠ u := fun h => hk (h ▸ hu)
        show a u * z k + (if k = u then -S else 0) = 0
        rw [if_neg h1, z0 k (fun h => hk (List.mem_of_mem_erase h))]
        simp
      · have h1 : k0 ≠ u := fun h => zk0 (by rw [h]; exact zu)
        show a u * z k0 + (if k0 = u then -S else 0) ≠ 0
        rw [if_neg h1, Int.add_zero]
        exact Int.mul_ne_zero hau zk0
      · rw [sum]
        rcases List.mem_cons.mp hee with rfl | hee
        · rw [hS]; grind
        · have h1 := ze _ (List.mem_map.mpr ⟨e, hee, rfl⟩)
          have h2 : (fun k => z k * (a u * e k - e u * a k)) = fun k => a u * (z k * e k) + -e u * (z k * a k) := by funext k; grind
          rw [h2, Si_add, Si_mul, Si_mul, hS] at h1
          grind
      · show (a u * z k + if k = u then -S else 0).natAbs ≤ bnd (P + 1) m B
        rw [bnd, hZ, Nat.mul_assoc]
        have hbz : B * Z ≤ (m + 1) * (B * Z) := Nat.le_mul_of_pos_left _ (by omega)
        have hmz : m * (B * Z) ≤ (m + 1) * (B * Z) := Nat.mul_le_mul_right _ (by omega)
        by_cases h1 : k = u
        · rw [if_pos h1, h1, zu]
          simp
          omega
        · rw [if_neg h1, Int.add_zero, Int.natAbs_mul]
          exact Nat.le_trans (Nat.mul_le_mul (ha u) (zb k)) hbz
    · obtain ⟨z, z0, z1, ze, zb⟩ := siegel m P (2 * B * B) U0 es (by omega) hn hm hP' (by omega) (fun e hee k => Nat.le_trans (he e (List.mem_cons_of_mem _ hee) k) hBB)
      refine ⟨z, z0, z1, fun e hee => ?_, fun k => Nat.le_trans (zb k) ?_⟩
      · rcases List.mem_cons.mp hee with rfl | hee
        · refine Si_eq0 fun k _ => ?_
          by_cases h : k ∈ U0
          · have : e k = 0 := Classical.byContradiction fun h2 => q ⟨k, h, h2⟩
            rw [this]; simp
          · rw [z0 k h]; simp
        · exact ze e hee
      · rw [bnd]
        exact Nat.le_mul_of_pos_left _ (Nat.mul_pos (by omega) hB)
/-- a primitive vector is the least of its kind -/
theorem prim_le {J : Nat} {l W : Nat → Int} {ρ : Rat} (hp : ∀ q : Nat, (∀ j, j < J → (q : Int) ∣ l j) → q = 1) (h : ∀ j, j < J → (W j : Rat) = ρ * (l j : Rat)) (hρ : ρ ≠ 0) : ∀ j, j < J → (l j).natAbs ≤ (W j).natAbs := by
  have hd : (ρ.den : Rat) ≠ 0 := by
    have := ρ.den_nz
    exact_mod_cast this
  have e : ∀ j, j < J → (ρ.den : Int) * W j = ρ.num * l j := fun j hj => by
    have h1 := h j hj
    have h2 : ρ * (ρ.den : Rat) = (ρ.num : Rat) := by
      have := Rat.num_divInt_den ρ
      rw [Rat.divInt_eq_div] at this
      have e : (ρ.num : Rat) / (ρ.den : Rat) = ρ := by exact_mod_cast this
      grind
    have h3 : (ρ.den : Rat) * (W j : Rat) = (ρ.num : Rat) * (l j : Rat) := by rw [h1, ← h2]; grind
    exact_mod_cast h3
  have h1 : ρ.den = 1 := hp ρ.den fun j hj => by
    have h2 : (ρ.den : Int) ∣ ρ.num * l j := ⟨W j, (e j hj).symm⟩
    have h3 : ρ.den.Coprime ρ.num.natAbs := ρ.reduced.symm
    rw [← Int.natAbs_dvd_natAbs, Int.natAbs_mul] at h2
    have h4 : ρ.den ∣ (l j).natAbs := h3.dvd_of_dvd_mul_left h2
    rw [← Int.natAbs_dvd_natAbs]
    exact h4
  intro j hj
  have h2 := e j hj
  rw [h1] at h2
  have h3 : W j = ρ.num * l j := by simpa using h2
  rw [h3, Int.natAbs_mul]
  have h4 : ρ.num ≠ 0 := fun z => hρ (Rat.num_eq_zero.mp z)
  exact Nat.le_mul_of_pos_left _ (by omega)
end Sx

/-! Sx3: a line is a multiple of a small vector of the row space. -/
namespace Sx
section
variable {m N : Nat} {A : Nat → Nat → Rat} {b c : Nat → Rat} {u : Tab}
/-- what vanishes on a basis vanishes -/
theorem van (I : Inv m N A b c u) {V : Nat → Rat} {Vr : Rat} (hv : ∀ (x : Nat → Rat) (t : Rat), (∀ k, k < m → Sm N (fun j => A k j * x j) = t * b k) → Sm N (fun j => V j * x j) = t * Vr) (h0 : ∀ i, i < m → V (u.be i) = 0) : (∀ j, j < N → V j = 0) ∧ Vr = 0 := by
  refine ⟨fun j hj => ?_, ?_⟩
  · have h := hv (u.eta m j) 0 ((I.eqv _ _).mp (eta_sol I hj))
    rw [eta_sum I hj, Sm_eq0 fun i hi => by rw [h0 i hi]; grind] at h
    grind
  · have h := hv (u.x m) 1 ((I.eqv _ _).mp (x_sol I))
    rw [Tab.x, pm_sum I.lt, Sm_eq0 fun i hi => by rw [h0 i hi]; grind] at h
    grind
/-- a vector of the row space -/
theorem rowsp {z : Nat → Rat} {x : Nat → Rat} {t : Rat} (h : ∀ k, k < m → Sm N (fun j => A k j * x j) = t * b k) : Sm N (fun j => Sm m (fun k => z k * A k j) * x j) = t * Sm m (fun k => z k * b k) := by
  have e : (fun j => Sm m (fun k => z k * A k j) * x j) = fun j => Sm m (fun k => z k * (A k j * x j)) := by
    funext j
    have : Sm m (fun k => z k * A k j) * x j = x j * Sm m (fun k => z k * A k j) := by grind
    rw [this, ← Sm_mul]
    exact Sm_congr fun k _ => by grind
  rw [e, Sm_comm, ← Sm_mul]
  refine Sm_congr fun k hk => ?_
  rw [Sm_mul, h k hk]
  grind
theorem row_prop (I : Inv m N A b c u) {i : Nat} (hi : i < m) {z : Nat → Rat} (hz : ∀ k, k < m → k ≠ i → Sm m (fun q => z q * A q (u.be k)) = 0) :
    (∀ j, j < N → Sm m (fun q => z q * A q j) = Sm m (fun q => z q * A q (u.be i)) / u.ln i (u.be i) * u.ln i j) ∧ Sm m (fun q => z q * b q) = Sm m (fun q => z q * A q (u.be i)) / u.ln i (u.be i) * u.rh i := by
  have hp := I.pos i hi
  generalize hρ : Sm m (fun q => z q * A q (u.be i)) / u.ln i (u.be i) = ρ
  have key := van I (V := fun j => 1 * Sm m (fun q => z q * A q j) - ρ * u.ln i j) (Vr := Sm m (fun q => z q * b q) - ρ * u.rh i) (fun x t h => by
    rw [Sm_lin, rowsp h, (I.eqv x t).mpr h i hi]
    grind) (fun k hk => by
    show 1 * Sm m (fun q => z q * A q (u.be k)) - ρ * u.ln i (u.be k) = 0
    by_cases q : k = i
    · subst q
      grind
    · rw [hz k hk q, I.zer i hi k hk (fun z => q z.symm)]
      grind)
  refine ⟨fun j hj => ?_, ?_⟩
  · have := key.1 j hj
    grind
  · have := key.2
    grind
/-- the goal's line: y and κ -/
theorem goal_prop (I : Inv m N A b c u) {y : Nat → Rat} {κ : Rat} (hz : ∀ k, k < m → κ * c (u.be k) - Sm m (fun q => y q * A q (u.be k)) = 0) :
    (∀ j, j < N → κ * c j - Sm m (fun q => y q * A q j) = κ / u.K * u.G j) ∧ Sm m (fun q => y q * b q) = κ / u.K * u.Gr := by
  have hp := I.kp
  generalize hρ : κ / u.K = ρ
  have hρ2 : κ = ρ * u.K := by grind
  have key := van I (V := fun j => 1 * (κ * c j - Sm m (fun q => y q * A q j)) - ρ * u.G j) (Vr := -(Sm m (fun q => y q * b q) - ρ * u.Gr)) (fun x t h => by
    rw [Sm_lin, I.goal x t h]
    have e : (fun j => (κ * c j - Sm m (fun q => y q * A q j)) * x j) = fun j => (κ * c j - 1 * Sm m (fun q => y q * A q j)) * x j := by funext j; grind
    rw [e, Sm_lin, rowsp h]
    grind) (fun k hk => by
    show 1 * (κ * c (u.be k) - Sm m (fun q => y q * A q (u.be k))) - ρ * u.G (u.be k) = 0
    rw [hz k hk, I.gz k hk]
    grind)
  refine ⟨fun j hj => ?_, ?_⟩
  · have := key.1 j hj
    grind
  · have := key.2
    grind
end
/-! ### the matrix: structural columns, slacks, artificial ones -/
def Ax (n m : Nat) (a : Nat → Nat → Int) (k j : Nat) : Int := if j < n then a k j else if j < n + m then (if j = n + k then -1 else 0) else (if j = n + m + k then 1 else 0)
section
variable {n m : Nat} {a : Nat → Nat → Int} {b c : Nat → Rat} {u : Tab}
theorem Ax_st {k j : Nat} (h : j < n) : Ax n m a k j = a k j := if_pos h
theorem Ax_sl {k q : Nat} (h : q < m) : Ax n m a k (n + q) = if k = q then -1 else 0 := by
  unfold Ax
  rw [if_neg (by omega), if_pos (by omega)]
  by_cases e : k = q
  · rw [if_pos (by omega), if_pos e]
  · rw [if_neg (by omega), if_neg e]
theorem Ax_ar {k q : Nat} : Ax n m a k (n + m + q) = if k = q then 1 else 0 := by
  unfold Ax
  rw [if_neg (by omega), if_neg (by omega)]
  by_cases e : k = q
  · rw [if_pos (by omega), if_pos e]
  · rw [if_neg (by omega), if_neg e]
theorem sum_sl {z : Nat → Int} {q : Nat} (h : q < m) : Si m (fun k => z k * Ax n m a k (n + q)) = -z q := by
  rw [Si_single (f := fun k => z k * Ax n m a k (n + q)) h fun k hk hn => ?_]
  · rw [Ax_sl h, if_pos rfl]; omega
  · show z k * Ax n m a k (n + q) = 0
    rw [Ax_sl h, if_neg hn]; omega
theorem sum_ar {z : Nat → Int} {q : Nat} (h : q < m) : Si m (fun k => z k * Ax n m a k (n + m + q)) = z q := by
  rw [Si_single (f := fun k => z k * Ax n m a k (n + m + q)) h fun k hk hn => ?_]
  · rw [Ax_ar, if_pos rfl]; omega
  · show z k * Ax n m a k (n + m + q) = 0
    rw [Ax_ar, if_neg hn]; omega
/-- the row of a slack or of an artificial column -/
def ro (n m v : Nat) : Nat := if v < n + m then v - n else v - n - m
theorem part_len {α : Type} (p : α → Bool) (l : List α) : (l.filter p).length + (l.filter fun x => !p x).length = l.length := by
  induction l with
  | nil => rfl
  | cons x l ih =>
    rw [List.filter_cons, List.filter_cons, List.length_cons]
    cases p x with
    | true => simp; omega
    | false => simp; omega
/-- those of the rows I that are basic in a structural column -/
def stR (n : Nat) (u : Tab) (I : List Nat) : List Nat := I.filter fun i => decide (u.be i < n)
def slR (n : Nat) (u : Tab) (I : List Nat) : List Nat := I.filter fun i => !decide (u.be i < n)
def free (n m : Nat) (u : Tab) (I : List Nat) : List Nat := (List.range m).filter fun k => !((slR n u I).map fun i => ro n m (u.be i)).contains k
theorem free_len (n m : Nat) (u : Tab) (I : List Nat) : (stR n u I).length + m ≤ (free n m u I).length + I.length := by
  have h1 := part_len (fun i => decide (u.be i < n)) I
  have h2 : (List.range m).length ≤ (free n m u I ++ (slR n u I).map fun i => ro n m (u.be i)).length := by
    refine List.Nodup.length_le_of_subset List.nodup_range fun k hk => ?_
    rw [List.mem_append]
    by_cases q : k ∈ (slR n u I).map fun i => ro n m (u.be i)
    · exact .inr q
    · refine .inl (List.mem_filter.mpr ⟨hk, ?_⟩)
      simp only [List.contains_eq_mem, decide_eq_false q, Bool.not_false]
  rw [List.length_range, List.length_append, List.length_map] at h2
  unfold stR
  unfold slR at h2
  omega
theorem free_out {I : List Nat} {i : Nat} (hi : i ∈ I) (h : ¬ u.be i < n) : ro n m (u.be i) ∉ free n m u I := fun z => by
  have := (List.mem_filter.mp z).2
  rw [Bool.not_eq_true', ← Bool.not_eq_true] at this
  refine this ?_
  rw [List.contains_eq_mem, decide_eq_true_eq, List.mem_map]
  exact ⟨i, List.mem_filter.mpr ⟨hi, by simp [h]⟩, rfl⟩
theorem st_len (hin : ∀ i, i < m → ∀ k, k < m → u.be i = u.be k → i = k) {I : List Nat} (hn : I.Nodup) (hI : ∀ i ∈ I, i < m) : (stR n u I).length ≤ n := by
  have h1 : ((stR n u I).map u.be).Nodup := by
    rw [List.nodup_iff_pairwise_ne, List.pairwise_map]
    refine List.Pairwise.imp_of_mem (fun {x y} hx hy h e => h ?_) (List.nodup_iff_pairwise_ne.mp (hn.filter (p := fun i => decide (u.be i < n))))
    exact hin x (hI x (List.mem_filter.mp hx).1) y (hI y (List.mem_filter.mp hy).1) e
  have h2 : ((stR n u I).map u.be) ⊆ List.range n := fun v hv => by
    obtain ⟨i, hi, rfl⟩ := List.mem_map.mp hv
    have := (List.mem_filter.mp hi).2
    exact List.mem_range.mpr (by simpa using this)
  have := List.Nodup.length_le_of_subset h1 h2
  rw [List.length_map, List.length_range] at this
  exact this
theorem small_line (hin : ∀ i, i < m → ∀ k, k < m → u.be i = u.be k → i = k) (hlt : ∀ i, i < m → u.be i < n + m + m) (ha : ∀ k j, (a k j).natAbs ≤ 1) {i : Nat} (hi : i < m) :
    ∃ z : Nat → Int, (∃ k, k < m ∧ z k ≠ 0) ∧ (∀ k, (z k).natAbs ≤ bnd n m 1) ∧ ∀ k, k < m → k ≠ i → Si m (fun q => z q * Ax n m a q (u.be k)) = 0 := by
  have hnd : ((List.range m).erase i).Nodup := List.nodup_range.erase i
  have hmem : ∀ k, k ∈ (List.range m).erase i ↔ k ≠ i ∧ k < m := fun k => by rw [List.nodup_range.mem_erase_iff, List.mem_range]
  have hl : ((List.range m).erase i).length = m - 1 := by rw [List.length_erase_of_mem (List.mem_range.mpr hi), List.length_range]
  have h1 := free_len n m u ((List.range m).erase i)
  have h2 := st_len (n := n) hin hnd (fun k hk => ((hmem k).mp hk).2)
  obtain ⟨z, z0, ⟨k0, hk0, zk⟩, ze, zb⟩ := siegel m n 1 (free n m u ((List.range m).erase i)) ((stR n u ((List.range m).erase i)).map fun i' k => a k (u.be i')) (Nat.le_refl _) (List.nodup_range.filter (p := _)) (fun k hk => List.mem_range.mp (List.mem_filter.mp hk).1) (by rw [List.length_map]; exact h2) (by rw [List.length_map]; omega) (by
    intro e he k
    obtain ⟨i', _, rfl⟩ := List.mem_map.mp he
    exact ha _ _)
  refine ⟨z, ⟨k0, List.mem_range.mp (List.mem_filter.mp hk0).1, zk⟩, zb, fun k hk hn => ?_⟩
  have hk' := (hmem k).mpr ⟨hn, hk⟩
  by_cases q : u.be k < n
  · have := ze _ (List.mem_map.mpr ⟨k, List.mem_filter.mpr ⟨hk', by simp [q]⟩, rfl⟩)
    rw [← this]
    exact Si_congr fun p _ => by rw [Ax_st q]
  · have h5 := z0 _ (free_out hk' q)
    have h6 := hlt k hk
    unfold ro at h5
    by_cases q2 : u.be k < n + m
    · rw [if_pos q2] at h5
      have := sum_sl (n := n) (a := a) (z := z) (show u.be k - n < m by omega)
      rw [show n + (u.be k - n) = u.be k by omega, h5] at this
      exact this
    · rw [if_neg q2] at h5
      have := sum_ar (n := n) (a := a) (z := z) (show u.be k - n - m < m by omega)
      rw [show n + m + (u.be k - n - m) = u.be k by omega, h5] at this
      exact this
/-- .. for the goal: κ stands at place m -/
theorem small_goal (hin : ∀ i, i < m → ∀ k, k < m → u.be i = u.be k → i = k) (hlt : ∀ i, i < m → u.be i < n + m + m) (hno : ∀ i, i < m → ∀ k, k < m → ∀ q, q < m → u.be i = n + q → u.be k = n + m + q → False) (ha : ∀ k j, (a k j).natAbs ≤ 1) :
    ∃ (y : Nat → Int) (κ : Int), (κ ≠ 0 ∨ ∃ k, k < m ∧ y k ≠ 0) ∧ κ.natAbs ≤ bnd n (m + 1) (m + 1) ∧ (∀ k, (y k).natAbs ≤ bnd n (m + 1) (m + 1)) ∧
      ∀ k, k < m → (κ * if n + m ≤ u.be k then 1 else 0) - Si m (fun q => y q * Ax n m a q (u.be k)) = 0 := by
  have h1 := free_len n m u (List.range m)
  have h2 := st_len (n := n) hin List.nodup_range (fun k hk => List.mem_range.mp hk)
  rw [List.length_range] at h1
  -- which rows have their artificial column in the basis
  let ar : Nat → Bool := fun k => (List.range m).any fun i => decide (u.be i = n + m + k)
  have har : ∀ k, ar k = true ↔ ∃ i, i < m ∧ u.be i = n + m + k := fun k => by
    show ((List.range m).any fun i => decide (u.be i = n + m + k)) = true ↔ _
    rw [List.any_eq_true]
    constructor
    · rintro ⟨i, hi, h⟩
      exact ⟨i, List.mem_range.mp hi, by simpa using h⟩
    · rintro ⟨i, hi, h⟩
      exact ⟨i, List.mem_range.mpr hi, by simpa using h⟩
  let fr : Nat → Bool := fun k => (free n m u (List.range m)).contains k
  have hfr : ∀ k, fr k = true ↔ k ∈ free n m u (List.range m) := fun k => by
    show (free n m u (List.range m)).contains k = true ↔ _
    rw [List.contains_eq_mem, decide_eq_true_eq]
  have arfr : ∀ k, k < m → ar k = true → fr k = false := fun k hk h => by
    obtain ⟨i, hi, e⟩ := (har k).mp h
    rw [← Bool.not_eq_true, hfr]
    have := free_out (n := n) (m := m) (u := u) (List.mem_range.mpr hi) (by omega)
    rw [e] at this
    unfold ro at this
    rw [if_neg (by omega), show n + m + k - n - m = k by omega] at this
    exact this
  -- the coefficient at κ
  let cK : Nat → Int := fun j => Si m (fun k => if ar k = true then a k j else 0)
  have hcK : ∀ j, (cK j).natAbs ≤ m + 1 := fun j => by
    have : (cK j).natAbs ≤ m * 1 := Si_abs fun k _ => by
      show (if ar k = true then a k j else 0).natAbs ≤ 1
      split
      · exact ha _ _
      · simp
    omega
  have hnF : (free n m u (List.range m)).Nodup := List.nodup_range.filter (p := _)
  have hmF : m ∉ free n m u (List.range m) := fun h => by
    have := List.mem_range.mp (List.mem_filter.mp h).1
    omega
  obtain ⟨z, z0, ⟨k0, hk0, zk⟩, ze, zb⟩ := siegel (m + 1) n (m + 1) (m :: free n m u (List.range m)) ((stR n u (List.range m)).map fun i' k => if k = m then cK (u.be i') else a k (u.be i')) (by omega)
    (List.nodup_cons.mpr ⟨hmF, hnF⟩)
    (fun k hk => by
      rcases List.mem_cons.mp hk with rfl | hk
      · omega
      · have := List.mem_range.mp (List.mem_filter.mp hk).1
        omega) (by rw [List.length_map]; exact h2) (by rw [List.length_map, List.length_cons]; omega) (by
    intro e he k
    obtain ⟨i', _, rfl⟩ := List.mem_map.mp he
    show (if k = m then cK (u.be i') else a k (u.be i')).natAbs ≤ m + 1
    split
    · exact hcK _
    · have := ha k (u.be i')
      omega)
  refine ⟨fun k => z k + if ar k = true then z m else 0, z m, ?_, zb m, fun k => ?_, fun k hk => ?_⟩
  · by_cases q : z m = 0
    · refine .inr ⟨k0, ?_, ?_⟩
      · rcases List.mem_cons.mp hk0 with rfl | h
        · exact absurd q zk
        · exact List.mem_range.mp (List.mem_filter.mp h).1
      · rw [q]
        simp
        exact zk
    · exact .inl q
  · by_cases q : ar k = true
    · by_cases hkm : k < m
      · have h5 : z k = 0 := z0 k fun h => by
          rcases List.mem_cons.mp h with h | h
          · omega
          · have := arfr k hkm q
            rw [(hfr k).mpr h] at this
            exact absurd this (by decide)
        show (z k + if ar k = true then z m else 0).natAbs ≤ _
        rw [if_pos q, h5, Int.zero_add]
        exact zb m
      · obtain ⟨i, hi, e⟩ := (har k).mp q
        have := hlt i hi
        omega
    · show (z k + if ar k = true then z m else 0).natAbs ≤ _
      rw [if_neg q, Int.add_zero]
      exact zb k
  · have hk' := List.mem_range.mpr hk
    by_cases q : u.be k < n
    · have := ze _ (List.mem_map.mpr ⟨k, List.mem_filter.mpr ⟨hk', by simp [q]⟩, rfl⟩)
      rw [Si, if_pos rfl, Si_congr (g := fun p => z p * a p (u.be k)) fun p hp => by rw [if_neg (by omega)]] at this
      rw [if_neg (by omega)]
      have e : Si m (fun p => (z p + if ar p = true then z m else 0) * Ax n m a p (u.be k)) = Si m (fun p => z p * a p (u.be k)) + z m * cK (u.be k) := by
        have e1 : (fun p => (z p + if ar p = true then z m else 0) * Ax n m a p (u.be k)) = fun p => z p * a p (u.be k) + z m * (if ar p = true then a p (u.be k) else 0) := by
          funext p
          rw [Ax_st q]
          split <;> grind
        rw [e1, Si_add, Si_mul]
      rw [e]
      omega
    · have h5 := z0 (ro n m (u.be k)) (fun h => by
        rcases List.mem_cons.mp h with h | h
        · have h6 := hlt k hk
          unfold ro at h
          split at h <;> omega
        · exact free_out hk' q h)
      have h6 := hlt k hk
      unfold ro at h5
      by_cases q2 : u.be k < n + m
      · rw [if_pos q2] at h5
        have := sum_sl (n := n) (a := a) (z := fun p => z p + if ar p = true then z m else 0) (show u.be k - n < m by omega)
        rw [show n + (u.be k - n) = u.be k by omega] at this
        have hna : ar (u.be k - n) ≠ true := fun h => by
          obtain ⟨i, hi, e⟩ := (har _).mp h
          exact hno k hk i hi (u.be k - n) (by omega) (by omega) e
        rw [this, if_neg (by omega), h5, if_neg hna]
        omega
      · rw [if_neg q2] at h5
        have := sum_ar (n := n) (a := a) (z := fun p => z p + if ar p = true then z m else 0) (show u.be k - n - m < m by omega)
        rw [show n + m + (u.be k - n - m) = u.be k by omega] at this
        have hna : ar (u.be k - n - m) = true := (har _).mpr ⟨k, hk, by omega⟩
        rw [this, if_pos (by omega), h5, if_pos hna]
        omega
end
end Sx

/-! Sx4: the program's table: whole numbers in lists; one pivot. -/
namespace Sx
def ga (l : List Int) (j : Nat) : Int := l[j]?.getD 0
theorem ga_zip {f : Int → Int → Int} (hf : f 0 0 = 0) {a b : List Int} (h : a.length = b.length) (j : Nat) : ga (List.zipWith f a b) j = f (ga a j) (ga b j) := by
  unfold ga
  rw [List.getElem?_zipWith]
  by_cases q : j < a.length
  · rw [List.getElem?_eq_getElem q, List.getElem?_eq_getElem (h ▸ q)]
    rfl
  · rw [List.getElem?_eq_none (by omega), List.getElem?_eq_none (by omega)]
    exact hf.symm
theorem ga_map {f : Int → Int} (hf : f 0 = 0) (a : List Int) (j : Nat) : ga (a.map f) j = f (ga a j) := by
  unfold ga
  rw [List.getElem?_map]
  cases a[j]? with
  | none => exact hf.symm
  | some x => rfl
theorem ga_mem {l : List Int} {j : Nat} (h : j < l.length) : ga l j ∈ l := by
  unfold ga
  rw [List.getElem?_eq_getElem h]
  exact List.getElem_mem h
theorem mem_ga {l : List Int} {x : Int} (h : x ∈ l) : ∃ j, j < l.length ∧ ga l j = x := by
  obtain ⟨j, hj, rfl⟩ := List.mem_iff_getElem.mp h
  exact ⟨j, hj, by unfold ga; rw [List.getElem?_eq_getElem hj]; rfl⟩
theorem ga_out {l : List Int} {j : Nat} (h : l.length ≤ j) : ga l j = 0 := by
  unfold ga
  rw [List.getElem?_eq_none h]
  rfl
theorem ga_drop {l : List Int} {j : Nat} (h : j + 1 < l.length) : ga l.dropLast j = ga l j := by
  unfold ga
  rw [List.getElem?_dropLast, if_pos (by omega)]
theorem ga_app1 {l r : List Int} {j : Nat} (h : j < l.length) : ga (l ++ r) j = ga l j := by
  unfold ga
  rw [List.getElem?_append_left h]
theorem ga_app2 {l : List Int} {x : Int} : ga (l ++ [x]) l.length = x := by
  unfold ga
  rw [List.getElem?_append_right (Nat.le_refl _)]
  simp
theorem ga_set {l : List Int} {j k : Nat} {v : Int} (h : j < l.length) : ga (l.set j v) k = if k = j then v else ga l k := by
  unfold ga
  rw [List.getElem?_set]
  by_cases q : j = k
  · subst q
    rw [if_pos rfl, if_pos h, if_pos rfl]
    rfl
  · rw [if_neg q, if_neg (fun e => q e.symm)]

/-! ### the greatest common divisor of a list -/
def gcdL (l : List Int) : Int := l.foldl (fun a b => (Int.gcd a b : Int)) 0
theorem gcdf_dvd (l : List Int) : ∀ a : Int, (l.foldl (fun a b => (Int.gcd a b : Int)) a) ∣ a ∧ ∀ x ∈ l, (l.foldl (fun a b => (Int.gcd a b : Int)) a) ∣ x := by
  induction l with
  | nil => exact fun a => ⟨Int.dvd_refl a, fun _ h => (nomatch h)⟩
  | cons y l ih =>
    intro a
    obtain ⟨h1, h2⟩ := ih (Int.gcd a y : Int)
    refine ⟨Int.dvd_trans h1 (Int.gcd_dvd_left ..), fun x hx => ?_⟩
    rcases List.mem_cons.mp hx with rfl | hx
    · exact Int.dvd_trans h1 (Int.gcd_dvd_right ..)
    · exact h2 x hx
theorem gcdf_max (l : List Int) : ∀ (a q : Int), q ∣ a → (∀ x ∈ l, q ∣ x) → q ∣ (l.foldl (fun a b => (Int.gcd a b : Int)) a) := by
  induction l with
  | nil => exact fun a q h _ => h
  | cons y l ih =>
    intro a q h h2
    exact ih _ q (Int.dvd_coe_gcd h (h2 y List.mem_cons_self)) fun x hx => h2 x (List.mem_cons_of_mem _ hx)
theorem gcdf_nn (l : List Int) : ∀ a : Int, 0 ≤ a → 0 ≤ (l.foldl (fun a b => (Int.gcd a b : Int)) a) := by
  induction l with
  | nil => exact fun a h => h
  | cons y l ih => exact fun a h => ih _ (Int.natCast_nonneg _)
theorem gcdL_nn (l : List Int) : 0 ≤ gcdL l := gcdf_nn l 0 (Int.le_refl _)
theorem gcdL_dvd {l : List Int} {x : Int} (h : x ∈ l) : gcdL l ∣ x := (gcdf_dvd l 0).2 x h
theorem gcdL_max {l : List Int} {q : Int} (h : ∀ x ∈ l, q ∣ x) : q ∣ gcdL l := gcdf_max l 0 q (Int.dvd_zero q) h
def low (l : List Int) : List Int := if gcdL l ≤ 1 then l else l.map (· / gcdL l)
def lowG (l : List Int) : Int := if gcdL l ≤ 1 then 1 else gcdL l
def Prim (l : List Int) : Prop := ∀ q : Nat, (∀ x ∈ l, (q : Int) ∣ x) → q = 1
theorem lowG_pos (l : List Int) : 0 < lowG l := by
  unfold lowG
  split <;> omega
theorem low_len (l : List Int) : (low l).length = l.length := by
  unfold low
  split <;> simp
theorem low_mul (l : List Int) (j : Nat) : lowG l * ga (low l) j = ga l j := by
  unfold lowG low
  split
  · omega
  · rw [ga_map (f := (· / gcdL l)) (by simp)]
    by_cases q : j < l.length
    · exact Int.mul_ediv_cancel' (gcdL_dvd (ga_mem q))
    · rw [ga_out (by omega)]; simp
theorem low_prim {l : List Int} (h : ∃ x, x ∈ l ∧ x ≠ 0) : Prim (low l) := by
  obtain ⟨x, hx, hx0⟩ := h
  have hg0 : gcdL l ≠ 0 := fun e => by
    have := gcdL_dvd hx
    rw [e] at this
    exact hx0 (Int.zero_dvd.mp this)
  have hg := gcdL_nn l
  intro q hq
  unfold low at hq
  by_cases h1 : gcdL l ≤ 1
  · rw [if_pos h1] at hq
    have h2 : (q : Int) ∣ gcdL l := gcdL_max hq
    rw [show gcdL l = 1 by omega] at h2
    have := Int.le_of_dvd (by decide) h2
    have h3 : q ≠ 0 := fun e => by
      subst e
      have := Int.zero_dvd.mp h2
      omega
    omega
  · rw [if_neg h1] at hq
    have h2 : gcdL l * (q : Int) ∣ gcdL l := gcdL_max fun y hy => by
      have h3 := hq (y / gcdL l) (List.mem_map.mpr ⟨y, hy, rfl⟩)
      have h4 := Int.mul_ediv_cancel' (gcdL_dvd hy)
      rw [← h4]
      exact Int.mul_dvd_mul_left _ h3
    have h5 : gcdL l * (q : Int) ∣ gcdL l * 1 := by rw [Int.mul_one]; exact h2
    have h6 : (q : Int) ∣ 1 := Int.dvd_of_mul_dvd_mul_left hg0 h5
    have := Int.le_of_dvd (by decide) h6
    have h3 : q ≠ 0 := fun e => by
      subst e
      have := Int.zero_dvd.mp h6
      omega
    omega
theorem low_zero {l : List Int} (h : ∀ x ∈ l, x = 0) : low l = l := by
  unfold low
  have : gcdL l = 0 := by
    have h1 : (0 : Int) ∣ gcdL l := gcdL_max fun x hx => by rw [h x hx]; exact Int.dvd_refl 0
    exact Int.zero_dvd.mp h1
  rw [this, if_pos (by decide)]

/-! ### tables -/
structure TB where
  lines : List (List Int)
  basis : List Nat
  goal : List Int
def TB.li (t : TB) (i : Nat) : List Int := t.lines[i]?.getD []
def TB.ba (t : TB) (i : Nat) : Nat := t.basis[i]?.getD 0
structure Sh (n m : Nat) (t : TB) : Prop where
  lines : t.lines.length = m
  line : ∀ i, i < m → (t.li i).length = n + m + 1
  basis : t.basis.length = m
  goal : t.goal.length = n + m + 1
def tab (n m : Nat) (t : TB) (K : Rat) : Tab where
  ln i j := if j < n + m then (ga (t.li i) j : Rat) else -(ga (t.li i) (j - m) : Rat)
  rh i := (ga (t.li i) (n + m) : Rat)
  be i := t.ba i
  G j := if j < n + m then (ga t.goal j : Rat) else K - (ga t.goal (j - m) : Rat)
  Gr := (ga t.goal (n + m) : Rat)
  K := K
def combL (p c : Int) (a b : List Int) : List Int := List.zipWith (fun one two => one * p - two * c) a b
def combG (p c : Int) (g l : List Int) : List Int := combL p c g.dropLast l.dropLast ++ [g.getLast?.getD 0 * p + c * l.getLast?.getD 0]
def newLine (t : TB) (r s i : Nat) (other : List Int) : List Int := if i = r ∨ ga other s = 0 then other else low (combL (ga (t.li r) s) (ga other s) other (t.li r))
def pivot (t : TB) (r s : Nat) : TB where
  lines := t.lines.mapIdx fun i other => newLine t r s i other
  basis := t.basis.set r s
  goal := low (combG (ga (t.li r) s) (ga t.goal s) t.goal (t.li r))
section
variable {n m : Nat} {t : TB} {r s : Nat}
theorem last_ga {l : List Int} {k : Nat} (h : l.length = k + 1) : l.getLast?.getD 0 = ga l k := by
  rw [List.getLast?_eq_getElem?, h]
  rfl
theorem combL_ga {p c : Int} {a b : List Int} (h : a.length = b.length) (j : Nat) : ga (combL p c a b) j = ga a j * p - ga b j * c := ga_zip (f := fun one two => one * p - two * c) (by simp) h j
theorem combL_len {p c : Int} {a b : List Int} (h : a.length = b.length) : (combL p c a b).length = a.length := by
  unfold combL
  rw [List.length_zipWith, h, Nat.min_self]
theorem combG_len {p c : Int} {g l : List Int} {k : Nat} (hg : g.length = k + 1) (hl : l.length = k + 1) : (combG p c g l).length = k + 1 := by
  unfold combG
  rw [List.length_append, combL_len (by simp [hg, hl]), List.length_dropLast, hg]
  rfl
theorem combG_ga {p c : Int} {g l : List Int} {k : Nat} (hg : g.length = k + 1) (hl : l.length = k + 1) {j : Nat} (hj : j < k) : ga (combG p c g l) j = ga g j * p - ga l j * c := by
  unfold combG
  have e : g.dropLast.length = l.dropLast.length := by simp [hg, hl]
  rw [ga_app1 (by rw [combL_len e, List.length_dropLast]; omega), combL_ga e, ga_drop (by omega), ga_drop (by omega)]
theorem combG_last {p c : Int} {g l : List Int} {k : Nat} (hg : g.length = k + 1) (hl : l.length = k + 1) : ga (combG p c g l) k = ga g k * p + c * ga l k := by
  unfold combG
  have e : g.dropLast.length = l.dropLast.length := by simp [hg, hl]
  have e2 : (combL p c g.dropLast l.dropLast).length = k := by rw [combL_len e, List.length_dropLast]; omega
  have := ga_app2 (l := combL p c g.dropLast l.dropLast) (x := g.getLast?.getD 0 * p + c * l.getLast?.getD 0)
  rw [e2] at this
  rw [this, last_ga hg, last_ga hl]
theorem pivot_li (h : Sh n m t) {i : Nat} (hi : i < m) : (pivot t r s).li i = newLine t r s i (t.li i) := by
  unfold TB.li pivot
  rw [List.getElem?_mapIdx]
  have : i < t.lines.length := by rw [h.lines]; exact hi
  rw [List.getElem?_eq_getElem this]
  rfl
theorem newLine_len (h : Sh n m t) {i : Nat} (hr : r < m) (hi : i < m) : (newLine t r s i (t.li i)).length = n + m + 1 := by
  unfold newLine
  split
  · exact h.line i hi
  · rw [low_len, combL_len (by rw [h.line i hi, h.line r hr]), h.line i hi]
theorem pivot_sh (h : Sh n m t) (hr : r < m) : Sh n m (pivot t r s) := by
  refine ⟨?_, fun i hi => ?_, ?_, ?_⟩
  · show (t.lines.mapIdx _).length = m
    rw [List.length_mapIdx, h.lines]
  · rw [pivot_li h hi]
    exact newLine_len h hr hi
  · show (t.basis.set r s).length = m
    rw [List.length_set, h.basis]
  · show (low _).length = _
    rw [low_len, combG_len h.goal (h.line r hr)]
theorem pivot_ba (h : Sh n m t) (hr : r < m) (i : Nat) : (pivot t r s).ba i = if i = r then s else t.ba i := by
  unfold TB.ba pivot
  rw [List.getElem?_set]
  by_cases q : r = i
  · subst q
    rw [if_pos rfl, if_pos (by rw [h.basis]; exact hr), if_pos rfl]
    rfl
  · rw [if_neg q, if_neg (fun e => q e.symm)]
/-- a new line is a part of what it is made of -/
theorem newLine_eq (h : Sh n m t) {i : Nat} (hr : r < m) (hi : i < m) (hn : i ≠ r) (hp : 0 < ga (t.li r) s) : ∃ g : Int, 0 < g ∧ ∀ j, g * ga (newLine t r s i (t.li i)) j = ga (t.li r) s * ga (t.li i) j - ga (t.li i) s * ga (t.li r) j := by
  unfold newLine
  by_cases q : ga (t.li i) s = 0
  · refine ⟨ga (t.li r) s, hp, fun j => ?_⟩
    rw [if_pos (.inr q), q]
    omega
  · refine ⟨lowG (combL (ga (t.li r) s) (ga (t.li i) s) (t.li i) (t.li r)), lowG_pos _, fun j => ?_⟩
    rw [if_neg (by simp [hn, q]), low_mul, combL_ga (by rw [h.line i hi, h.line r hr])]
    grind
theorem newLine_self {l : List Int} : newLine t r s r l = l := by
  unfold newLine
  rw [if_pos (Or.inl rfl)]
def newK (t : TB) (r s : Nat) (K : Rat) : Rat := (ga (t.li r) s : Rat) * K / (lowG (combG (ga (t.li r) s) (ga t.goal s) t.goal (t.li r)) : Rat)
theorem cast_pos {g : Int} (h : 0 < g) : (0 : Rat) < (g : Rat) := by exact_mod_cast h
theorem pivot_step {K : Rat} (h : Sh n m t) (hr : r < m) (hs : s < n + m) (hp : 0 < ga (t.li r) s)
    (hmn : ∀ i, i < m → 0 < ga (t.li i) s → ga (t.li r) (n + m) * ga (t.li i) s ≤ ga (t.li i) (n + m) * ga (t.li r) s) :
    Step m (n + m + m) (tab n m t K) (tab n m (pivot t r s) (newK t r s K)) r s := by
  have hls : ∀ i, (tab n m t K).ln i s = (ga (t.li i) s : Rat) := fun i => if_pos hs
  refine ⟨hr, by omega, ?_, fun i hi h0 => ?_, fun i hi hn => ?_, fun j hj => ?_, ?_, ?_, ?_, fun i hi hn => ?_⟩
  · rw [hls]; exact cast_pos hp
  · rw [hls] at h0 ⊢
    rw [hls]
    have h0' : 0 < ga (t.li i) s := by exact_mod_cast h0
    have := hmn i hi h0'
    show (ga (t.li r) (n + m) : Rat) * _ ≤ (ga (t.li i) (n + m) : Rat) * _
    exact_mod_cast this
  · obtain ⟨g, hg, e⟩ := newLine_eq h hr hi hn hp
    refine ⟨(g : Rat), cast_pos hg, fun j hj => ?_, ?_⟩
    · rw [hls, hls]
      show (g : Rat) * (if j < n + m then (ga ((pivot t r s).li i) j : Rat) else -(ga ((pivot t r s).li i) (j - m) : Rat)) = _ * (if j < n + m then (ga (t.li i) j : Rat) else -(ga (t.li i) (j - m) : Rat)) - _ * (if j < n + m then (ga (t.li r) j : Rat) else -(ga (t.li r) (j - m) : Rat))
      rw [pivot_li h hi]
      by_cases q : j < n + m
      · rw [if_pos q, if_pos q, if_pos q]
        have := e j
        exact_mod_cast this
      · rw [if_neg q, if_neg q, if_neg q]
        have := e (j - m)
        have : (g : Rat) * (ga (newLine t r s i (t.li i)) (j - m) : Rat) = (ga (t.li r) s : Rat) * (ga (t.li i) (j - m) : Rat) - (ga (t.li i) s : Rat) * (ga (t.li r) (j - m) : Rat) := by exact_mod_cast this
        grind
    · rw [hls, hls]
      show (g : Rat) * (ga ((pivot t r s).li i) (n + m) : Rat) = _ * (ga (t.li i) (n + m) : Rat) - _ * (ga (t.li r) (n + m) : Rat)
      rw [pivot_li h hi]
      have := e (n + m)
      exact_mod_cast this
  · show (if j < n + m then (ga ((pivot t r s).li r) j : Rat) else -(ga ((pivot t r s).li r) (j - m) : Rat)) = (if j < n + m then (ga (t.li r) j : Rat) else -(ga (t.li r) (j - m) : Rat))
    rw [pivot_li h hr, newLine_self]
  · show (ga ((pivot t r s).li r) (n + m) : Rat) = (ga (t.li r) (n + m) : Rat)
    rw [pivot_li h hr, newLine_self]
  · have hg := lowG_pos (combG (ga (t.li r) s) (ga t.goal s) t.goal (t.li r))
    have hgq := cast_pos hg
    have hm := low_mul (combG (ga (t.li r) s) (ga t.goal s) t.goal (t.li r))
    have hgs : (tab n m t K).G s = (ga t.goal s : Rat) := if_pos hs
    have key : ∀ j, j < n + m → (lowG (combG (ga (t.li r) s) (ga t.goal s) t.goal (t.li r)) : Rat) * (ga (pivot t r s).goal j : Rat) = (ga (t.li r) s : Rat) * (ga t.goal j : Rat) - (ga t.goal s : Rat) * (ga (t.li r) j : Rat) := fun j hj => by
      have h1 := hm j
      rw [combG_ga h.goal (h.line r hr) hj] at h1
      have : (lowG (combG (ga (t.li r) s) (ga t.goal s) t.goal (t.li r)) : Rat) * (ga (pivot t r s).goal j : Rat) = (ga t.goal j : Rat) * (ga (t.li r) s : Rat) - (ga (t.li r) j : Rat) * (ga t.goal s : Rat) := by exact_mod_cast h1
      grind
    have hK : (lowG (combG (ga (t.li r) s) (ga t.goal s) t.goal (t.li r)) : Rat) * newK t r s K = (ga (t.li r) s : Rat) * K := by
      unfold newK
      grind
    refine ⟨(lowG (combG (ga (t.li r) s) (ga t.goal s) t.goal (t.li r)) : Rat), hgq, fun j hj => ?_, ?_, ?_⟩
    · rw [hls, hgs]
      show _ * (if j < n + m then (ga (pivot t r s).goal j : Rat) else newK t r s K - (ga (pivot t r s).goal (j - m) : Rat)) = _ * (if j < n + m then (ga t.goal j : Rat) else K - (ga t.goal (j - m) : Rat)) - _ * (if j < n + m then (ga (t.li r) j : Rat) else -(ga (t.li r) (j - m) : Rat))
      by_cases q : j < n + m
      · rw [if_pos q, if_pos q, if_pos q]
        exact key j q
      · rw [if_neg q, if_neg q, if_neg q]
        have := key (j - m) (by omega)
        grind
    · rw [hls, hgs]
      show _ * (ga (pivot t r s).goal (n + m) : Rat) = _ * (ga t.goal (n + m) : Rat) + _ * (ga (t.li r) (n + m) : Rat)
      have h1 := hm (n + m)
      rw [combG_last h.goal (h.line r hr)] at h1
      have : (lowG (combG (ga (t.li r) s) (ga t.goal s) t.goal (t.li r)) : Rat) * (ga (pivot t r s).goal (n + m) : Rat) = (ga t.goal (n + m) : Rat) * (ga (t.li r) s : Rat) + (ga t.goal s : Rat) * (ga (t.li r) (n + m) : Rat) := by exact_mod_cast h1
      grind
    · rw [hls]
      exact hK
  · show (pivot t r s).ba r = s
    rw [pivot_ba h hr, if_pos rfl]
  · show (pivot t r s).ba i = t.ba i
    rw [pivot_ba h hr, if_neg hn]
end
end Sx

/-! Sx5: the start; what enters, what leaves; the numbers stay small; the end comes. -/
namespace Sx
abbrev Rw := List Int × Int
def lastI (l : List Int) : Int := l.getLast?.getD 0
def sgn (b : Int) : Int := if b ≠ 0 then 1 else -1
def initLine (m at_ : Nat) (r : Rw) : List Int := (r.1.map fun x => sgn r.2 * x) ++ ((List.range m).map fun p => if p = at_ then -sgn r.2 else 0) ++ [r.2]
def gUp (g line : List Int) : List Int := List.zipWith (fun one two => one - two) g.dropLast line.dropLast ++ [lastI g + 1]
def initGo (m : Nat) : Nat → List Rw → List Int → List Int
  | _, [], g => g
  | at_, r :: rs, g => initGo m (at_ + 1) rs (if r.2 ≠ 0 then gUp g (initLine m at_ r) else g)
def init (n : Nat) (rows : List Rw) : TB where
  lines := rows.mapIdx fun i r => initLine rows.length i r
  basis := rows.mapIdx fun i r => if r.2 ≠ 0 then n + rows.length + i else n + i
  goal := initGo rows.length 0 rows (List.replicate (n + rows.length + 1) 0)
def RowOk (n : Nat) (r : Rw) : Prop := r.1.length = n ∧ (∀ x ∈ r.1, x.natAbs ≤ 1) ∧ (r.2 = 0 ∨ r.2 = 1)
def aOf (rows : List Rw) (k j : Nat) : Int := ga ((rows[k]?.getD ([], 0)).1) j
def bOf (rows : List Rw) (k : Nat) : Int := (rows[k]?.getD ([], 0)).2
section
variable {n m : Nat} {rows : List Rw}
theorem initLine_len {at_ : Nat} {r : Rw} (h : r.1.length = n) : (initLine m at_ r).length = n + m + 1 := by
  simp [initLine, h]
  omega
theorem initLine_st {at_ j : Nat} {r : Rw} (h : r.1.length = n) (hj : j < n) : ga (initLine m at_ r) j = sgn r.2 * ga r.1 j := by
  unfold initLine
  rw [ga_app1 (by simp; omega), ga_app1 (by simp; omega), ga_map (f := fun x => sgn r.2 * x) (by simp)]
theorem initLine_sl {at_ q : Nat} {r : Rw} (h : r.1.length = n) (hq : q < m) : ga (initLine m at_ r) (n + q) = if q = at_ then -sgn r.2 else 0 := by
  unfold initLine
  rw [ga_app1 (by simp; omega)]
  unfold ga
  rw [List.getElem?_append_right (by simp; omega), List.length_map, h, show n + q - n = q by omega, List.getElem?_map, List.getElem?_range hq]
  rfl
theorem initLine_last {at_ : Nat} {r : Rw} (h : r.1.length = n) : ga (initLine m at_ r) (n + m) = r.2 := by
  unfold initLine
  have := ga_app2 (l := (r.1.map fun x => sgn r.2 * x) ++ ((List.range m).map fun p => if p = at_ then -sgn r.2 else 0)) (x := r.2)
  simp only [List.length_append, List.length_map, List.length_range, h] at this
  exact this
theorem Si_front (k : Nat) (f : Nat → Int) : Si (k + 1) f = f 0 + Si k (fun i => f (i + 1)) := by
  induction k with
  | zero => simp [Si]
  | succ k ih => rw [Si, ih, Si]; omega
theorem gUp_len {g l : List Int} {k : Nat} (hg : g.length = k + 1) (hl : l.length = k + 1) : (gUp g l).length = k + 1 := by
  simp [gUp, hg, hl]
theorem gUp_ga {g l : List Int} {k : Nat} (hg : g.length = k + 1) (hl : l.length = k + 1) {j : Nat} (hj : j < k) : ga (gUp g l) j = ga g j - ga l j := by
  unfold gUp
  have e : g.dropLast.length = l.dropLast.length := by simp [hg, hl]
  rw [ga_app1 (by simp [hg, hl]; omega), ga_zip (f := fun one two => one - two) (by simp) e, ga_drop (by omega), ga_drop (by omega)]
theorem gUp_last {g l : List Int} {k : Nat} (hg : g.length = k + 1) (hl : l.length = k + 1) : ga (gUp g l) k = ga g k + 1 := by
  unfold gUp
  have := ga_app2 (l := List.zipWith (fun one two => one - two) g.dropLast l.dropLast) (x := lastI g + 1)
  simp only [List.length_zipWith, List.length_dropLast, hg, hl, Nat.add_sub_cancel, Nat.min_self] at this
  rw [this]
  unfold lastI
  rw [last_ga hg]
theorem initGo_len : ∀ (rs : List Rw) (at_ : Nat) (g : List Int), (∀ r ∈ rs, r.1.length = n) → g.length = n + m + 1 → (initGo m at_ rs g).length = n + m + 1
  | [], _, _, _, h => h
  | r :: rs, at_, g, hr, h => by
    refine initGo_len rs (at_ + 1) _ (fun x hx => hr x (List.mem_cons_of_mem _ hx)) ?_
    split
    · exact gUp_len h (initLine_len (hr r List.mem_cons_self))
    · exact h
theorem initGo_ga {j : Nat} (hj : j < n + m) : ∀ (rs : List Rw) (at_ : Nat) (g : List Int), (∀ r ∈ rs, r.1.length = n) → g.length = n + m + 1 →
    ga (initGo m at_ rs g) j = ga g j - Si rs.length (fun i => if bOf rs i ≠ 0 then ga (initLine m (at_ + i) (rs[i]?.getD ([], 0))) j else 0)
  | [], _, g, _, h => by simp [initGo, Si]
  | r :: rs, at_, g, hr, h => by
    have hl := initLine_len (m := m) (at_ := at_) (hr r List.mem_cons_self)
    have h2 : (if r.2 ≠ 0 then gUp g (initLine m at_ r) else g).length = n + m + 1 := by
      split
      · exact gUp_len h hl
      · exact h
    rw [initGo, initGo_ga hj rs (at_ + 1) _ (fun x hx => hr x (List.mem_cons_of_mem _ hx)) h2, List.length_cons, Si_front]
    have e1 : (fun i => if bOf (r :: rs) (i + 1) ≠ 0 then ga (initLine m (at_ + (i + 1)) ((r :: rs)[i + 1]?.getD ([], 0))) j else 0) = fun i => if bOf rs i ≠ 0 then ga (initLine m (at_ + 1 + i) (rs[i]?.getD ([], 0))) j else 0 := by
      funext i
      rw [show at_ + (i + 1) = at_ + 1 + i by omega]
      unfold bOf
      simp only [List.getElem?_cons_succ]
    rw [e1]
    have e2 : (if bOf (r :: rs) 0 ≠ 0 then ga (initLine m (at_ + 0) ((r :: rs)[0]?.getD ([], 0))) j else 0) = if r.2 ≠ 0 then ga (initLine m at_ r) j else 0 := by simp [bOf]
    rw [e2]
    by_cases q : r.2 ≠ 0
    · rw [if_pos q, if_pos q, gUp_ga h hl hj]
      omega
    · rw [if_neg q, if_neg q]
      omega
theorem initGo_last : ∀ (rs : List Rw) (at_ : Nat) (g : List Int), (∀ r ∈ rs, r.1.length = n) → g.length = n + m + 1 →
    ga (initGo m at_ rs g) (n + m) = ga g (n + m) + Si rs.length (fun i => if bOf rs i ≠ 0 then 1 else 0)
  | [], _, g, _, h => by simp [initGo, Si]
  | r :: rs, at_, g, hr, h => by
    have hl := initLine_len (m := m) (at_ := at_) (hr r List.mem_cons_self)
    have h2 : (if r.2 ≠ 0 then gUp g (initLine m at_ r) else g).length = n + m + 1 := by
      split
      · exact gUp_len h hl
      · exact h
    rw [initGo, initGo_last rs (at_ + 1) _ (fun x hx => hr x (List.mem_cons_of_mem _ hx)) h2, List.length_cons, Si_front]
    have e1 : (fun i => if bOf (r :: rs) (i + 1) ≠ 0 then (1 : Int) else 0) = fun i => if bOf rs i ≠ 0 then 1 else 0 := by
      funext i
      unfold bOf
      simp only [List.getElem?_cons_succ]
    rw [e1]
    have e2 : (if bOf (r :: rs) 0 ≠ 0 then (1 : Int) else 0) = if r.2 ≠ 0 then 1 else 0 := by simp [bOf]
    rw [e2]
    by_cases q : r.2 ≠ 0
    · rw [if_pos q, if_pos q, gUp_last h hl]
      omega
    · rw [if_neg q, if_neg q]
      omega
/-! ### the start keeps what is kept -/
def AQ (n : Nat) (rows : List Rw) (k j : Nat) : Rat := (Ax n rows.length (aOf rows) k j : Rat)
def bQ (rows : List Rw) (k : Nat) : Rat := (bOf rows k : Rat)
def cQ (n m : Nat) (j : Nat) : Rat := if n + m ≤ j then 1 else 0
structure TOk (n : Nat) (rows : List Rw) (t : TB) (K : Rat) : Prop where
  sh : Sh n rows.length t
  inv : Inv rows.length (n + rows.length + rows.length) (AQ n rows) (bQ rows) (cQ n rows.length) (tab n rows.length t K)
  pl : ∀ i, i < rows.length → Prim (t.li i)
  pg : Prim t.goal ∨ ∀ x ∈ t.goal, x = 0
theorem row_at (H : ∀ r ∈ rows, RowOk n r) {k : Nat} (h : k < rows.length) : RowOk n (rows[k]?.getD ([], 0)) := by
  rw [List.getElem?_eq_getElem h]
  exact H _ (List.getElem_mem h)
theorem init_li {k : Nat} (h : k < rows.length) : (init n rows).li k = initLine rows.length k (rows[k]?.getD ([], 0)) := by
  unfold TB.li init
  rw [List.getElem?_mapIdx, List.getElem?_eq_getElem h]
  rfl
theorem init_ba {k : Nat} (h : k < rows.length) : (init n rows).ba k = if bOf rows k ≠ 0 then n + rows.length + k else n + k := by
  unfold TB.ba init bOf
  rw [List.getElem?_mapIdx, List.getElem?_eq_getElem h]
  rfl
theorem sgn_pm (b : Int) : sgn b = 1 ∨ sgn b = -1 := by
  unfold sgn
  split
  · exact .inl rfl
  · exact .inr rfl
theorem prim_unit {l : List Int} {x : Int} (h : x ∈ l) (hx : x = 1 ∨ x = -1) : Prim l := fun q hq => by
  have h1 := hq x h
  rw [← Int.natAbs_dvd_natAbs] at h1
  have h2 : x.natAbs = 1 := by omega
  rw [h2] at h1
  exact Nat.dvd_one.mp h1
theorem aOf_small (H : ∀ r ∈ rows, RowOk n r) (k j : Nat) : (aOf rows k j).natAbs ≤ 1 := by
  unfold aOf
  by_cases h : k < rows.length
  · by_cases q : j < (rows[k]?.getD ([], 0)).1.length
    · exact (row_at H h).2.1 _ (ga_mem q)
    · rw [ga_out (by omega)]; decide
  · rw [List.getElem?_eq_none (by omega)]
    simp [ga]
theorem init_ok (H : ∀ r ∈ rows, RowOk n r) : TOk n rows (init n rows) 1 := by
  have HL : ∀ r ∈ rows, r.1.length = n := fun r hr => (H r hr).1
  have hg0 : (List.replicate (n + rows.length + 1) (0 : Int)).length = n + rows.length + 1 := List.length_replicate ..
  have hga0 : ∀ j, ga (List.replicate (n + rows.length + 1) (0 : Int)) j = 0 := fun j => by
    unfold ga
    rw [List.getElem?_replicate]
    split <;> rfl
  have sh : Sh n rows.length (init n rows) := ⟨List.length_mapIdx, fun i hi => by rw [init_li hi]; exact initLine_len (row_at H hi).1, List.length_mapIdx, initGo_len rows 0 _ HL hg0⟩
  -- lines
  have hln : ∀ i, i < rows.length → ∀ j, j < n + rows.length + rows.length → (tab n rows.length (init n rows) 1).ln i j = (sgn (bOf rows i) : Rat) * AQ n rows i j := by
    intro i hi j hj
    have hr := (row_at H hi).1
    show (if j < n + rows.length then (ga ((init n rows).li i) j : Rat) else -(ga ((init n rows).li i) (j - rows.length) : Rat)) = _
    rw [init_li hi]
    unfold AQ
    by_cases q : j < n
    · rw [if_pos (by omega), initLine_st hr q, Ax_st q]
      exact_mod_cast rfl
    · by_cases q2 : j < n + rows.length
      · rw [if_pos q2]
        have e := initLine_sl (m := rows.length) (at_ := i) hr (show j - n < rows.length by omega)
        rw [show n + (j - n) = j by omega] at e
        have e2 := Ax_sl (n := n) (a := aOf rows) (k := i) (show j - n < rows.length by omega)
        rw [show n + (j - n) = j by omega] at e2
        rw [e, e2]
        by_cases q3 : j - n = i
        · rw [if_pos q3, if_pos q3.symm]
          show ((-sgn (bOf rows i) : Int) : Rat) = (sgn (bOf rows i) : Rat) * ((-1 : Int) : Rat)
          push_cast
          grind
        · rw [if_neg q3, if_neg (fun z => q3 z.symm)]
          push_cast
          grind
      · rw [if_neg q2]
        have e := initLine_sl (m := rows.length) (at_ := i) hr (show j - n - rows.length < rows.length by omega)
        rw [show n + (j - n - rows.length) = j - rows.length by omega] at e
        have e2 := Ax_ar (n := n) (m := rows.length) (a := aOf rows) (k := i) (q := j - n - rows.length)
        rw [show n + rows.length + (j - n - rows.length) = j by omega] at e2
        rw [e, e2]
        by_cases q3 : j - n - rows.length = i
        · rw [if_pos q3, if_pos q3.symm]
          show -((-sgn (bOf rows i) : Int) : Rat) = (sgn (bOf rows i) : Rat) * ((1 : Int) : Rat)
          push_cast
          grind
        · rw [if_neg q3, if_neg (fun z => q3 z.symm)]
          push_cast
          grind
  have hrh : ∀ i, i < rows.length → (tab n rows.length (init n rows) 1).rh i = (sgn (bOf rows i) : Rat) * bQ rows i := by
    intro i hi
    show (ga ((init n rows).li i) (n + rows.length) : Rat) = _
    rw [init_li hi, initLine_last (row_at H hi).1]
    show (bOf rows i : Rat) = _ * (bOf rows i : Rat)
    rcases (row_at H hi).2.2 with e | e
    · rw [show bOf rows i = 0 from e]
      push_cast
      grind
    · rw [show bOf rows i = 1 from e]
      have : sgn 1 = 1 := rfl
      rw [this]
      push_cast
      grind
  have hbe : ∀ i, i < rows.length → (tab n rows.length (init n rows) 1).be i = if bOf rows i ≠ 0 then n + rows.length + i else n + i := fun i hi => init_ba hi
  have hs0 : ∀ i, (sgn (bOf rows i) : Rat) ≠ 0 := fun i => by
    rcases sgn_pm (bOf rows i) with e | e <;> rw [e] <;> decide +kernel
  -- the matrix at the basis
  have hAb : ∀ i, i < rows.length → ∀ k, k < rows.length → AQ n rows i ((tab n rows.length (init n rows) 1).be k) = if i = k then (sgn (bOf rows k) : Rat) else 0 := by
    intro i hi k hk
    rw [hbe k hk]
    unfold AQ
    by_cases q : bOf rows k ≠ 0
    · rw [if_pos q, Ax_ar]
      by_cases q2 : i = k
      · subst q2
        rw [if_pos rfl, if_pos rfl]
        unfold sgn
        rw [if_pos q]
      · rw [if_neg q2, if_neg q2]
        rfl
    · rw [if_neg q, Ax_sl hk]
      by_cases q2 : i = k
      · subst q2
        rw [if_pos rfl, if_pos rfl]
        unfold sgn
        rw [if_neg q]
      · rw [if_neg q2, if_neg q2]
        rfl
  have hbl : ∀ i, i < rows.length → (tab n rows.length (init n rows) 1).be i < n + rows.length + rows.length := fun i hi => by
    rw [hbe i hi]
    split <;> omega
  let y : Nat → Int := fun k => if bOf rows k ≠ 0 then 1 else 0
  have hyb : ∀ i, i < rows.length → ∀ j, j < n + rows.length → (if bOf rows i ≠ 0 then ga (initLine rows.length (0 + i) (rows[i]?.getD ([], 0))) j else 0) = y i * Ax n rows.length (aOf rows) i j := by
    intro i hi j hj
    have hr := (row_at H hi).1
    show _ = (if bOf rows i ≠ 0 then (1 : Int) else 0) * _
    by_cases q : bOf rows i ≠ 0
    · rw [if_pos q, if_pos q, Int.one_mul, Nat.zero_add]
      have hsg : sgn (rows[i]?.getD ([], 0)).2 = 1 := by
        unfold sgn
        exact if_pos q
      by_cases q2 : j < n
      · rw [initLine_st hr q2, Ax_st q2, hsg, Int.one_mul]
        rfl
      · have e := initLine_sl (m := rows.length) (at_ := i) hr (show j - n < rows.length by omega)
        rw [show n + (j - n) = j by omega] at e
        have e2 := Ax_sl (n := n) (a := aOf rows) (k := i) (show j - n < rows.length by omega)
        rw [show n + (j - n) = j by omega] at e2
        rw [e, e2, hsg]
        by_cases q3 : j - n = i
        · rw [if_pos q3, if_pos q3.symm]
        · rw [if_neg q3, if_neg (fun z => q3 z.symm)]
    · rw [if_neg q, if_neg q, Int.zero_mul]
  have hgj : ∀ j, j < n + rows.length → ga (init n rows).goal j = -Si rows.length (fun k => y k * Ax n rows.length (aOf rows) k j) := by
    intro j hj
    show ga (initGo rows.length 0 rows _) j = _
    rw [initGo_ga hj rows 0 _ HL hg0, hga0, Si_congr fun i hi => hyb i hi j hj]
    omega
  have hgr : ga (init n rows).goal (n + rows.length) = Si rows.length y := by
    show ga (initGo rows.length 0 rows _) _ = _
    rw [initGo_last rows 0 _ HL hg0, hga0, Int.zero_add]
  have hG : ∀ j, j < n + rows.length + rows.length → (tab n rows.length (init n rows) 1).G j = 1 * cQ n rows.length j - 1 * Sm rows.length (fun k => (y k : Rat) * AQ n rows k j) := by
    intro j hj
    show (if j < n + rows.length then (ga (init n rows).goal j : Rat) else 1 - (ga (init n rows).goal (j - rows.length) : Rat)) = _
    unfold cQ
    by_cases q : j < n + rows.length
    · rw [if_pos q, hgj j q, if_neg (by omega)]
      have : ((-Si rows.length (fun k => y k * Ax n rows.length (aOf rows) k j) : Int) : Rat) = -Sm rows.length (fun k => (y k : Rat) * AQ n rows k j) := by
        rw [Rat.intCast_neg, Si_cast]
        congr 1
        exact Sm_congr fun k _ => by unfold AQ; exact_mod_cast rfl
      rw [this]
      grind
    · rw [if_neg q, hgj _ (by omega), if_pos (by omega)]
      have e := sum_sl (n := n) (a := aOf rows) (z := y) (show j - rows.length - n < rows.length by omega)
      rw [show n + (j - rows.length - n) = j - rows.length by omega] at e
      have e2 := sum_ar (n := n) (a := aOf rows) (z := y) (show j - rows.length - n < rows.length by omega)
      rw [show n + rows.length + (j - rows.length - n) = j by omega] at e2
      rw [e]
      have : Sm rows.length (fun k => (y k : Rat) * AQ n rows k j) = ((Si rows.length (fun k => y k * Ax n rows.length (aOf rows) k j) : Int) : Rat) := by
        rw [Si_cast]
        exact Sm_congr fun k _ => by unfold AQ; exact_mod_cast rfl
      rw [this, e2]
      push_cast
      grind
  refine ⟨sh, ⟨hbl, fun i hi => ?_, fun i hi k hk hn => ?_, fun i hi => ?_, fun x t => ?_, fun x t h => ?_, fun i hi => ?_, show (0 : Rat) < 1 by decide +kernel⟩, fun i hi => ?_, ?_⟩
  · rw [hln i hi _ (hbl i hi), hAb i hi i hi, if_pos rfl]
    rcases sgn_pm (bOf rows i) with e | e <;> rw [e] <;> decide +kernel
  · rw [hln i hi _ (hbl k hk), hAb i hi k hk, if_neg hn]
    grind
  · rw [hrh i hi]
    unfold bQ
    rcases (row_at H hi).2.2 with e | e
    · rw [show bOf rows i = 0 from e]; decide +kernel
    · rw [show bOf rows i = 1 from e]; decide +kernel
  · have e : ∀ i, i < rows.length → Sm (n + rows.length + rows.length) (fun j => (tab n rows.length (init n rows) 1).ln i j * x j) = (sgn (bOf rows i) : Rat) * Sm (n + rows.length + rows.length) (fun j => AQ n rows i j * x j) := fun i hi => by
      rw [← Sm_mul]
      exact Sm_congr fun j hj => by rw [hln i hi j hj]; grind
    constructor
    · intro h k hk
      have h1 := h k hk
      rw [e k hk, hrh k hk] at h1
      have := hs0 k
      grind
    · intro h k hk
      rw [e k hk, hrh k hk, h k hk]
      grind
  · have e : Sm (n + rows.length + rows.length) (fun j => (tab n rows.length (init n rows) 1).G j * x j) = Sm (n + rows.length + rows.length) (fun j => (1 * cQ n rows.length j - 1 * Sm rows.length (fun k => (y k : Rat) * AQ n rows k j)) * x j) := Sm_congr fun j hj => by rw [hG j hj]
    rw [e, Sm_lin, rowsp h]
    have e2 : (tab n rows.length (init n rows) 1).Gr = Sm rows.length (fun k => (y k : Rat) * bQ rows k) := by
      show (ga (init n rows).goal (n + rows.length) : Rat) = _
      rw [hgr, Si_cast]
      refine Sm_congr fun k hk => ?_
      unfold bQ
      show ((if bOf rows k ≠ 0 then (1 : Int) else 0 : Int) : Rat) = ((if bOf rows k ≠ 0 then (1 : Int) else 0 : Int) : Rat) * _
      rcases (row_at H hk).2.2 with e | e
      · rw [show bOf rows k = 0 from e]; decide +kernel
      · rw [show bOf rows k = 1 from e]; decide +kernel
    rw [e2]
    show _ = 1 * _ - _
    grind
  · rw [hG _ (hbl i hi)]
    have e : Sm rows.length (fun k => (y k : Rat) * AQ n rows k ((tab n rows.length (init n rows) 1).be i)) = (y i : Rat) * sgn (bOf rows i) := by
      rw [Sm_single hi fun k hk hn => by rw [hAb k hk i hi, if_neg hn]; grind]
      rw [hAb i hi i hi, if_pos rfl]
    rw [e, hbe i hi]
    unfold cQ
    show 1 * _ - 1 * (((if bOf rows i ≠ 0 then (1 : Int) else 0 : Int) : Rat) * _) = 0
    by_cases q : bOf rows i ≠ 0
    · rw [if_pos q, if_pos q, if_pos (by omega)]
      unfold sgn
      rw [if_pos q]
      decide +kernel
    · rw [if_neg q, if_neg q, if_neg (by omega)]
      push_cast
      grind
  · rw [init_li hi]
    have e := initLine_sl (m := rows.length) (at_ := i) (row_at H hi).1 hi
    rw [if_pos rfl] at e
    refine prim_unit (x := ga (initLine rows.length i (rows[i]?.getD ([], 0))) (n + i)) (ga_mem (by rw [initLine_len (row_at H hi).1]; omega)) ?_
    rw [e]
    rcases sgn_pm (rows[i]?.getD ([], 0)).2 with e | e <;> rw [e]
    · exact .inr rfl
    · exact .inl rfl
  · by_cases q : ∃ k, k < rows.length ∧ bOf rows k ≠ 0
    · obtain ⟨k, hk, hb⟩ := q
      refine .inl (prim_unit (x := ga (init n rows).goal (n + k)) (ga_mem (by rw [sh.goal]; omega)) (.inl ?_))
      rw [hgj _ (by omega), sum_sl hk, Int.neg_neg]
      show (if bOf rows k ≠ 0 then (1 : Int) else 0) = 1
      rw [if_pos hb]
    · refine .inr fun x hx => ?_
      have hy : ∀ k, k < rows.length → y k = 0 := fun k hk => if_neg fun z => q ⟨k, hk, z⟩
      obtain ⟨j, hj, rfl⟩ := mem_ga hx
      rw [sh.goal] at hj
      by_cases q2 : j < n + rows.length
      · rw [hgj j q2, Si_eq0 fun k hk => by rw [hy k hk]; omega]
        rfl
      · rw [show j = n + rows.length by omega, hgr]
        exact Si_eq0 hy
end
end Sx

/-! Sx6: bounds; what enters and leaves; the end. -/
namespace Sx
section
variable {n : Nat} {rows : List Rw} {t : TB} {K : Rat} {r s : Nat}
/-! ### bounds -/
def bd1 (n m : Nat) : Nat := m * bnd n m 1
def bd2 (n m : Nat) : Nat := m * bnd n (m + 1) (m + 1)
theorem Ax_small {m : Nat} {a : Nat → Nat → Int} (h : ∀ k j, (a k j).natAbs ≤ 1) (k j : Nat) : (Ax n m a k j).natAbs ≤ 1 := by
  unfold Ax
  repeat' split
  · exact h k j
  all_goals decide
theorem TOk.line_small (H : ∀ r ∈ rows, RowOk n r) (T : TOk n rows t K) {i : Nat} (hi : i < rows.length) (j : Nat) : (ga (t.li i) j).natAbs ≤ bd1 n rows.length := by
  have I := T.inv
  obtain ⟨z, ⟨k0, hk0, zk⟩, zb, hz⟩ := small_line (n := n) (a := aOf rows) I.inj I.lt (aOf_small H) hi
  have cast : ∀ v, Sm rows.length (fun q => (z q : Rat) * AQ n rows q v) = ((Si rows.length (fun q => z q * Ax n rows.length (aOf rows) q v) : Int) : Rat) := fun v => by
    rw [Si_cast]
    exact Sm_congr fun k _ => by unfold AQ; exact_mod_cast rfl
  have castb : Sm rows.length (fun q => (z q : Rat) * bQ rows q) = ((Si rows.length (fun q => z q * bOf rows q) : Int) : Rat) := by
    rw [Si_cast]
    exact Sm_congr fun k _ => by unfold bQ; exact_mod_cast rfl
  obtain ⟨e1, e2⟩ := row_prop I hi (z := fun q => (z q : Rat)) (fun k hk hn => by rw [cast, hz k hk hn]; rfl)
  generalize hρ : Sm rows.length (fun q => (z q : Rat) * AQ n rows q ((tab n rows.length t K).be i)) / (tab n rows.length t K).ln i ((tab n rows.length t K).be i) = ρ at e1 e2
  -- the vector, over the places of the line
  let W : Nat → Int := fun j => if j < n + rows.length then Si rows.length (fun q => z q * Ax n rows.length (aOf rows) q j) else Si rows.length (fun q => z q * bOf rows q)
  have hW : ∀ j, j < n + rows.length + 1 → (W j : Rat) = ρ * (ga (t.li i) j : Rat) := fun j hj => by
    show ((if j < n + rows.length then Si rows.length (fun q => z q * Ax n rows.length (aOf rows) q j) else Si rows.length (fun q => z q * bOf rows q) : Int) : Rat) = _
    by_cases q : j < n + rows.length
    · rw [if_pos q, ← cast, e1 j (by omega)]
      congr 1
      exact if_pos q
    · rw [if_neg q, ← castb, e2, show j = n + rows.length by omega]
      rfl
  have hρ0 : ρ ≠ 0 := fun e => by
    have h1 := hW (n + k0) (by omega)
    rw [e] at h1
    have h2 : (W (n + k0) : Rat) = 0 := by grind
    have h3 : W (n + k0) = 0 := by exact_mod_cast h2
    have h4 : W (n + k0) = -z k0 := by
      show (if n + k0 < n + rows.length then _ else _) = _
      rw [if_pos (by omega), sum_sl hk0]
    omega
  by_cases hj : j < n + rows.length + 1
  · refine Nat.le_trans (prim_le (J := n + rows.length + 1) (l := ga (t.li i)) (W := W) (ρ := ρ) (fun q hq => T.pl i hi q fun x hx => ?_) hW hρ0 j hj) ?_
    · obtain ⟨j, hj, rfl⟩ := mem_ga hx
      rw [T.sh.line i hi] at hj
      exact hq j hj
    · show (if j < n + rows.length then _ else _ : Int).natAbs ≤ _
      unfold bd1
      split
      · refine Si_abs fun q hq => ?_
        rw [Int.natAbs_mul]
        have h1 : (Ax n rows.length (aOf rows) q j).natAbs ≤ 1 := Ax_small (aOf_small H) q j
        exact Nat.le_trans (Nat.mul_le_mul (zb q) h1) (by omega)
      · refine Si_abs fun q hq => ?_
        rw [Int.natAbs_mul]
        have h1 : (bOf rows q).natAbs ≤ 1 := by
          rcases (row_at H hq).2.2 with e | e
          · rw [show bOf rows q = 0 from e]; decide
          · rw [show bOf rows q = 1 from e]; decide
        exact Nat.le_trans (Nat.mul_le_mul (zb q) h1) (by omega)
  · rw [ga_out (by rw [T.sh.line i hi]; omega)]
    simp
theorem TOk.goal_small (H : ∀ r ∈ rows, RowOk n r) (T : TOk n rows t K) (j : Nat) : (ga t.goal j).natAbs ≤ bd2 n rows.length := by
  rcases T.pg with hp | h0
  · have I := T.inv
    obtain ⟨y, κ, hnz, κb, yb, hy⟩ := small_goal (n := n) (a := aOf rows) I.inj I.lt (fun i hi k hk q hq e1 e2 => by
      -- a slack and the artificial column of one row are not both in the basis
      have h1 := I.pos i hi
      have h2 := I.zer i hi k hk (fun e => by rw [e, e2] at e1; omega)
      rw [e1] at h1
      rw [e2] at h2
      have h3 : (tab n rows.length t K).ln i (n + rows.length + q) = -(tab n rows.length t K).ln i (n + q) := by
        show (if n + rows.length + q < n + rows.length then _ else -(ga (t.li i) (n + rows.length + q - rows.length) : Rat)) = -(if n + q < n + rows.length then (ga (t.li i) (n + q) : Rat) else _)
        rw [if_neg (by omega), if_pos (by omega), show n + rows.length + q - rows.length = n + q by omega]
      grind) (aOf_small H)
    have cast : ∀ v, Sm rows.length (fun q => (y q : Rat) * AQ n rows q v) = ((Si rows.length (fun q => y q * Ax n rows.length (aOf rows) q v) : Int) : Rat) := fun v => by
      rw [Si_cast]
      exact Sm_congr fun k _ => by unfold AQ; exact_mod_cast rfl
    have castb : Sm rows.length (fun q => (y q : Rat) * bQ rows q) = ((Si rows.length (fun q => y q * bOf rows q) : Int) : Rat) := by
      rw [Si_cast]
      exact Sm_congr fun k _ => by unfold bQ; exact_mod_cast rfl
    obtain ⟨e1, e2⟩ := goal_prop I (y := fun q => (y q : Rat)) (κ := (κ : Rat)) (fun k hk => by
      have h := hy k hk
      rw [cast]
      unfold cQ
      have : ((κ * (if n + rows.length ≤ (tab n rows.length t K).be k then 1 else 0) - Si rows.length (fun q => y q * Ax n rows.length (aOf rows) q ((tab n rows.length t K).be k)) : Int) : Rat) = 0 := by rw [h]; rfl
      split at this
      · rename_i q
        rw [if_pos q]
        push_cast at this
        exact this
      · rename_i q
        rw [if_neg q]
        push_cast at this
        exact this)
    have hK := I.kp
    generalize hρ : (κ : Rat) / (tab n rows.length t K).K = ρ at e1 e2
    let W : Nat → Int := fun j => if j < n + rows.length then -Si rows.length (fun q => y q * Ax n rows.length (aOf rows) q j) else Si rows.length (fun q => y q * bOf rows q)
    have hW : ∀ j, j < n + rows.length + 1 → (W j : Rat) = ρ * (ga t.goal j : Rat) := fun j hj => by
      show ((if j < n + rows.length then -Si rows.length (fun q => y q * Ax n rows.length (aOf rows) q j) else Si rows.length (fun q => y q * bOf rows q) : Int) : Rat) = _
      by_cases q : j < n + rows.length
      · have h := e1 j (by omega)
        rw [cast] at h
        have h2 : cQ n rows.length j = 0 := if_neg (by omega)
        have h3 : (tab n rows.length t K).G j = (ga t.goal j : Rat) := if_pos q
        rw [if_pos q]
        rw [h2, h3] at h
        push_cast
        grind
      · rw [if_neg q, ← castb, e2, show j = n + rows.length by omega]
        rfl
    have hρ0 : ρ ≠ 0 := fun e => by
      have hκ : κ = 0 := by
        have : (κ : Rat) = 0 := by grind
        exact_mod_cast this
      rcases hnz with h | ⟨k0, hk0, yk⟩
      · exact h hκ
      · have h1 := hW (n + k0) (by omega)
        rw [e] at h1
        have h2 : (W (n + k0) : Rat) = 0 := by grind
        have h3 : W (n + k0) = 0 := by exact_mod_cast h2
        have h4 : W (n + k0) = y k0 := by
          show (if n + k0 < n + rows.length then _ else _) = _
          rw [if_pos (by omega), sum_sl hk0]
          omega
        omega
    by_cases hj : j < n + rows.length + 1
    · refine Nat.le_trans (prim_le (J := n + rows.length + 1) (l := ga t.goal) (W := W) (ρ := ρ) (fun q hq => hp q fun x hx => ?_) hW hρ0 j hj) ?_
      · obtain ⟨j, hj, rfl⟩ := mem_ga hx
        rw [T.sh.goal] at hj
        exact hq j hj
      · show (if j < n + rows.length then _ else _ : Int).natAbs ≤ _
        unfold bd2
        split
        · rw [Int.natAbs_neg]
          refine Si_abs fun q hq => ?_
          rw [Int.natAbs_mul]
          have h1 : (Ax n rows.length (aOf rows) q j).natAbs ≤ 1 := Ax_small (aOf_small H) q j
          exact Nat.le_trans (Nat.mul_le_mul (yb q) h1) (by omega)
        · refine Si_abs fun q hq => ?_
          rw [Int.natAbs_mul]
          have h1 : (bOf rows q).natAbs ≤ 1 := by
            rcases (row_at H hq).2.2 with e | e
            · rw [show bOf rows q = 0 from e]; decide
            · rw [show bOf rows q = 1 from e]; decide
          exact Nat.le_trans (Nat.mul_le_mul (yb q) h1) (by omega)
    · rw [ga_out (by rw [T.sh.goal]; omega)]
      simp
  · by_cases hj : j < t.goal.length
    · rw [h0 _ (ga_mem hj)]; simp
    · rw [ga_out (by omega)]; simp
/-! ### what enters -/
def ent (t : TB) : Option Nat := t.goal.dropLast.findIdx? fun x => decide (x < 0)
theorem ent_some (h : Sh n rows.length t) {s : Nat} (e : ent t = some s) : s < n + rows.length ∧ ga t.goal s < 0 ∧ ∀ j, j < s → 0 ≤ ga t.goal j := by
  unfold ent at e
  rw [List.findIdx?_eq_some_iff_getElem] at e
  obtain ⟨hs, h1, h2⟩ := e
  have hl : t.goal.dropLast.length = n + rows.length := by rw [List.length_dropLast, h.goal]; rfl
  have key : ∀ j (hj : j < t.goal.dropLast.length), t.goal.dropLast[j] = ga t.goal j := fun j hj => by
    rw [← ga_drop (l := t.goal) (j := j) (by rw [h.goal]; omega)]
    unfold ga
    rw [List.getElem?_eq_getElem hj]
    rfl
  refine ⟨by omega, ?_, fun j hj => ?_⟩
  · rw [key] at h1
    simpa using h1
  · have := h2 j hj
    rw [key] at this
    simpa using this
theorem ent_none (h : Sh n rows.length t) (e : ent t = none) : ∀ j, j < n + rows.length → 0 ≤ ga t.goal j := by
  unfold ent at e
  rw [List.findIdx?_eq_none_iff] at e
  intro j hj
  have hl : t.goal.dropLast.length = n + rows.length := by rw [List.length_dropLast, h.goal]; rfl
  have := e (ga t.goal j) (by
    rw [← ga_drop (l := t.goal) (j := j) (by rw [h.goal]; omega)]
    exact ga_mem (by omega))
  simpa using this
/-! ### what leaves -/
def bef (t : TB) (i r s : Nat) : Bool := decide (lastI (t.li i) * ga (t.li r) s < lastI (t.li r) * ga (t.li i) s) || (decide (lastI (t.li i) * ga (t.li r) s = lastI (t.li r) * ga (t.li i) s) && decide (t.ba i < t.ba r))
def leavF (t : TB) (s : Nat) : Nat → Option Nat
  | 0 => none
  | k + 1 => match leavF t s k with
    | none => if 0 < ga (t.li k) s then some k else none
    | some r => if 0 < ga (t.li k) s ∧ bef t k r s = true then some k else some r
def leav (t : TB) (s : Nat) : Option Nat := leavF t s t.lines.length
theorem bef_iff {i r : Nat} : bef t i r s = true ↔ lastI (t.li i) * ga (t.li r) s < lastI (t.li r) * ga (t.li i) s ∨ (lastI (t.li i) * ga (t.li r) s = lastI (t.li r) * ga (t.li i) s ∧ t.ba i < t.ba r) := by
  unfold bef
  simp
theorem cross_lt {a b c x y z : Int} (ha : 0 < a) (hb : 0 < b) (hc : 0 < c) (h1 : x * b ≤ y * a) (h2 : y * c ≤ z * b) : x * c ≤ z * a := by
  have e1 := Int.mul_le_mul_of_nonneg_right h1 (Int.le_of_lt hc)
  have e2 := Int.mul_le_mul_of_nonneg_right h2 (Int.le_of_lt ha)
  have e3 : (x * c) * b ≤ (z * a) * b := by
    have : x * b * c = x * c * b := by grind
    have : y * a * c = y * c * a := by grind
    have : z * b * a = z * a * b := by grind
    omega
  exact Int.le_of_mul_le_mul_right e3 hb
theorem cross_ne {a b c x y z : Int} (ha : 0 < a) (hb : 0 < b) (hc : 0 < c) (h1 : x * b < y * a) (h2 : y * c ≤ z * b) : x * c < z * a := by
  have e1 := Int.mul_lt_mul_of_pos_right h1 hc
  have e2 := Int.mul_le_mul_of_nonneg_right h2 (Int.le_of_lt ha)
  have e3 : (x * c) * b < (z * a) * b := by
    have : x * b * c = x * c * b := by grind
    have : y * a * c = y * c * a := by grind
    have : z * b * a = z * a * b := by grind
    omega
  exact Int.lt_of_mul_lt_mul_right e3 (Int.le_of_lt hb)
theorem cross_ne' {a b c x y z : Int} (ha : 0 < a) (hb : 0 < b) (hc : 0 < c) (h1 : x * b ≤ y * a) (h2 : y * c < z * b) : x * c < z * a := by
  have e1 := Int.mul_le_mul_of_nonneg_right h1 (Int.le_of_lt hc)
  have e2 := Int.mul_lt_mul_of_pos_right h2 ha
  have e3 : (x * c) * b < (z * a) * b := by
    have : x * b * c = x * c * b := by grind
    have : y * a * c = y * c * a := by grind
    have : z * b * a = z * a * b := by grind
    omega
  exact Int.lt_of_mul_lt_mul_right e3 (Int.le_of_lt hb)
theorem bef_trans {i r k : Nat} (pi : 0 < ga (t.li i) s) (pr : 0 < ga (t.li r) s) (pk : 0 < ga (t.li k) s) (h1 : bef t i r s = true) (h2 : bef t r k s = true) : bef t i k s = true := by
  rw [bef_iff] at h1 h2 ⊢
  rcases h1 with h1 | ⟨h1, b1⟩ <;> rcases h2 with h2 | ⟨h2, b2⟩
  · exact .inl (cross_ne pi pr pk h1 (Int.le_of_lt h2))
  · exact .inl (cross_ne pi pr pk h1 (Int.le_of_eq h2))
  · exact .inl (cross_ne' pi pr pk (Int.le_of_eq h1) h2)
  · refine .inr ⟨Int.le_antisymm (cross_lt pi pr pk (Int.le_of_eq h1) (Int.le_of_eq h2)) ?_, by omega⟩
    exact cross_lt pk pr pi (Int.le_of_eq h2.symm) (Int.le_of_eq h1.symm)
theorem bef_total {i r : Nat} (hb : t.ba i ≠ t.ba r) (h : ¬ bef t i r s = true) : bef t r i s = true := by
  rw [bef_iff] at h ⊢
  by_cases q : lastI (t.li r) * ga (t.li i) s < lastI (t.li i) * ga (t.li r) s
  · exact .inl q
  · refine .inr ?_
    have h1 : ¬ lastI (t.li i) * ga (t.li r) s < lastI (t.li r) * ga (t.li i) s := fun z => h (.inl z)
    have h2 : lastI (t.li i) * ga (t.li r) s = lastI (t.li r) * ga (t.li i) s := by omega
    refine ⟨h2.symm, ?_⟩
    have h3 : ¬ t.ba i < t.ba r := fun z => h (.inr ⟨h2, z⟩)
    omega
theorem leavF_ok (hinj : ∀ i, i < rows.length → ∀ k, k < rows.length → t.ba i = t.ba k → i = k) : ∀ k, k ≤ rows.length →
    (leavF t s k = none → ∀ i, i < k → ¬ 0 < ga (t.li i) s) ∧ (∀ r, leavF t s k = some r → r < k ∧ 0 < ga (t.li r) s ∧ ∀ i, i < k → i ≠ r → 0 < ga (t.li i) s → bef t r i s = true)
  | 0, _ => ⟨fun _ i hi => absurd hi (by omega), fun r h => (nomatch h)⟩
  | k + 1, hk => by
    obtain ⟨h1, h2⟩ := leavF_ok hinj k (by omega)
    rw [leavF]
    cases e : leavF t s k with
    | none =>
      have h1 := h1 e
      by_cases q : 0 < ga (t.li k) s
      · dsimp only
        rw [if_pos q]
        refine ⟨fun h => (nomatch h), fun r h => ?_⟩
        cases h
        exact ⟨by omega, q, fun i hi hn hp => absurd hp (h1 i (by omega))⟩
      · dsimp only
        rw [if_neg q]
        refine ⟨fun _ i hi => ?_, fun r h => (nomatch h)⟩
        by_cases z : i = k
        · rw [z]; exact q
        · exact h1 i (by omega)
    | some r0 =>
      obtain ⟨a1, a2, a3⟩ := h2 r0 e
      by_cases q : 0 < ga (t.li k) s ∧ bef t k r0 s = true
      · dsimp only
        rw [if_pos q]
        refine ⟨fun h => (nomatch h), fun r h => ?_⟩
        cases h
        refine ⟨by omega, q.1, fun i hi hn hp => ?_⟩
        by_cases z : i = r0
        · rw [z]; exact q.2
        · exact bef_trans q.1 a2 hp q.2 (a3 i (by omega) z hp)
      · dsimp only
        rw [if_neg q]
        refine ⟨fun h => (nomatch h), fun r h => ?_⟩
        cases h
        refine ⟨by omega, a2, fun i hi hn hp => ?_⟩
        by_cases z : i = k
        · subst z
          refine bef_total (fun e => ?_) fun y => q ⟨hp, y⟩
          have := hinj i (by omega) r0 (by omega) e
          omega
        · exact a3 i (by omega) hn hp
/-! ### a step -/
theorem TOk.leaves (T : TOk n rows t K) {s : Nat} (e : ent t = some s) : ∃ r, leav t s = some r ∧ r < rows.length ∧ 0 < ga (t.li r) s ∧ ∀ i, i < rows.length → i ≠ r → 0 < ga (t.li i) s → bef t r i s = true := by
  obtain ⟨hs, hg, _⟩ := ent_some T.sh e
  obtain ⟨h1, h2⟩ := leavF_ok (t := t) (s := s) (rows := rows) T.inv.inj rows.length (Nat.le_refl _)
  unfold leav
  rw [T.sh.lines]
  cases q : leavF t s rows.length with
  | some r =>
    obtain ⟨a, b, c⟩ := h2 r q
    exact ⟨r, rfl, a, b, c⟩
  | none =>
    exfalso
    have hG : (tab n rows.length t K).G s < 0 := by
      show (if s < n + rows.length then (ga t.goal s : Rat) else _) < 0
      rw [if_pos hs]
      exact_mod_cast hg
    obtain ⟨i, hi, hl⟩ := leaves_ex T.inv (fun j => by unfold cQ; split <;> decide +kernel) (show s < n + rows.length + rows.length by omega) hG
    refine h1 q i hi ?_
    have : (tab n rows.length t K).ln i s = (ga (t.li i) s : Rat) := if_pos hs
    rw [this] at hl
    exact_mod_cast hl
theorem TOk.step (T : TOk n rows t K) {s : Nat} (e : ent t = some s) (hr : r < rows.length) (hp : 0 < ga (t.li r) s) (hb : ∀ i, i < rows.length → i ≠ r → 0 < ga (t.li i) s → bef t r i s = true) :
    TOk n rows (pivot t r s) (newK t r s K) ∧ Bl rows.length (n + rows.length + rows.length) (tab n rows.length t K) (tab n rows.length (pivot t r s) (newK t r s K)) r s := by
  obtain ⟨hs, hg, hf⟩ := ent_some T.sh e
  have hl : ∀ i, i < rows.length → lastI (t.li i) = ga (t.li i) (n + rows.length) := fun i hi => last_ga (T.sh.line i hi)
  have S := pivot_step (K := K) T.sh hr hs hp (fun i hi h0 => by
    by_cases q : i = r
    · subst q; exact Int.le_refl _
    · have := bef_iff.mp (hb i hi q h0)
      rw [hl i hi, hl r hr] at this
      omega)
  have hls : ∀ i, (tab n rows.length t K).ln i s = (ga (t.li i) s : Rat) := fun i => if_pos hs
  have I' := T.inv.step S
  refine ⟨⟨pivot_sh T.sh hr, I', fun i hi => ?_, ?_⟩, ⟨S, ?_, fun j hj => ?_, fun i hi hn h0 he => ?_⟩⟩
  · rw [pivot_li T.sh hi]
    unfold newLine
    split
    · exact T.pl i hi
    · rename_i q
      refine low_prim ?_
      -- not all are zero: at the basis there stands more
      refine Classical.byContradiction fun z => ?_
      have h1 := I'.pos i hi
      have hz : ∀ j, ga ((pivot t r s).li i) j = 0 := fun j => by
        rw [pivot_li T.sh hi]
        unfold newLine
        rw [if_neg q]
        have hall : ∀ x ∈ combL (ga (t.li r) s) (ga (t.li i) s) (t.li i) (t.li r), x = 0 := fun x hx => Classical.byContradiction fun y => z ⟨x, hx, y⟩
        rw [low_zero hall]
        by_cases w : j < (combL (ga (t.li r) s) (ga (t.li i) s) (t.li i) (t.li r)).length
        · exact hall _ (ga_mem w)
        · exact ga_out (by omega)
      have h2 : (tab n rows.length (pivot t r s) (newK t r s K)).ln i ((tab n rows.length (pivot t r s) (newK t r s K)).be i) = 0 := by
        show (if _ < n + rows.length then (ga ((pivot t r s).li i) _ : Rat) else -(ga ((pivot t r s).li i) _ : Rat)) = 0
        rw [hz, hz]
        split <;> decide +kernel
      rw [h2] at h1
      exact absurd h1 (by decide +kernel)
  · show Prim (low (combG (ga (t.li r) s) (ga t.goal s) t.goal (t.li r))) ∨ ∀ x ∈ low (combG (ga (t.li r) s) (ga t.goal s) t.goal (t.li r)), x = 0
    by_cases q : ∃ x, x ∈ combG (ga (t.li r) s) (ga t.goal s) t.goal (t.li r) ∧ x ≠ 0
    · exact .inl (low_prim q)
    · have hall : ∀ x ∈ combG (ga (t.li r) s) (ga t.goal s) t.goal (t.li r), x = 0 := fun x hx => Classical.byContradiction fun y => q ⟨x, hx, y⟩
      rw [low_zero hall]
      exact .inr hall
  · show (if s < n + rows.length then (ga t.goal s : Rat) else _) < 0
    rw [if_pos hs]
    exact_mod_cast hg
  · show 0 ≤ (if j < n + rows.length then (ga t.goal j : Rat) else _)
    rw [if_pos (by omega)]
    exact_mod_cast hf j hj
  · rw [hls] at h0
    have h0' : 0 < ga (t.li i) s := by exact_mod_cast h0
    have h1 := bef_iff.mp (hb i hi hn h0')
    rw [hls, hls] at he
    have he' : ga (t.li r) (n + rows.length) * ga (t.li i) s = ga (t.li i) (n + rows.length) * ga (t.li r) s := by
      have : (ga (t.li r) (n + rows.length) : Rat) * (ga (t.li i) s : Rat) = (ga (t.li i) (n + rows.length) : Rat) * (ga (t.li r) s : Rat) := he
      exact_mod_cast this
    rw [hl i hi, hl r hr] at h1
    show t.ba r < t.ba i
    omega
/-! ### the whole run -/
def live (t : TB) : Bool := decide (0 < lastI t.goal) && (ent t).isSome
def nextT (t : TB) : TB := match ent t with
  | some s => (match leav t s with
    | some r => pivot t r s
    | none => t)
  | none => t
def nextK (t : TB) (K : Rat) : Rat := match ent t with
  | some s => (match leav t s with
    | some r => newK t r s K
    | none => K)
  | none => K
def runT (t : TB) : Nat → TB
  | 0 => t
  | k + 1 => nextT (runT t k)
def runK (t : TB) (K : Rat) : Nat → Rat
  | 0 => K
  | k + 1 => nextK (runT t k) (runK t K k)
def fct : Nat → Nat
  | 0 => 1
  | n + 1 => (n + 1) * fct n
theorem fct_pos : ∀ n, 0 < fct n
  | 0 => by decide
  | n + 1 => Nat.mul_pos (by omega) (fct_pos n)
theorem dvd_fct : ∀ (n d : Nat), 0 < d → d ≤ n → d ∣ fct n
  | 0, d, h, h2 => by omega
  | n + 1, d, h, h2 => by
    rw [fct]
    by_cases q : d = n + 1
    · subst q
      exact Nat.dvd_mul_right ..
    · exact Nat.dvd_trans (dvd_fct n d h (by omega)) (Nat.dvd_mul_left ..)
theorem Sm_nat {m : Nat} {f : Nat → Rat} (h : ∀ i, i < m → ∃ v : Nat, f i = (v : Rat)) : ∃ V : Nat, Sm m f = (V : Rat) := by
  induction m with
  | zero => exact ⟨0, rfl⟩
  | succ m ih =>
    obtain ⟨V, e⟩ := ih fun i hi => h i (by omega)
    obtain ⟨v, e2⟩ := h m (by omega)
    refine ⟨V + v, ?_⟩
    rw [Sm, e, e2]
    push_cast
    rfl
theorem TOk.w_nat (H : ∀ r ∈ rows, RowOk n r) (T : TOk n rows t K) {M : Nat} (hM : bd1 n rows.length ≤ M) : ∃ V : Nat, (tab n rows.length t K).W rows.length (n + rows.length + rows.length) (cQ n rows.length) * ((fct M : Nat) : Rat) = (V : Rat) := by
  have I := T.inv
  unfold Tab.W Tab.x
  rw [pm_sum I.lt]
  have e : Sm rows.length (fun i => cQ n rows.length ((tab n rows.length t K).be i) * ((tab n rows.length t K).rh i / (tab n rows.length t K).ln i ((tab n rows.length t K).be i))) * ((fct M : Nat) : Rat)
      = Sm rows.length (fun i => ((fct M : Nat) : Rat) * (cQ n rows.length ((tab n rows.length t K).be i) * ((tab n rows.length t K).rh i / (tab n rows.length t K).ln i ((tab n rows.length t K).be i)))) := by
    rw [Sm_mul]
    grind
  rw [e]
  refine Sm_nat fun i hi => ?_
  -- the divisor is a whole number
  obtain ⟨d, hd, hdb⟩ : ∃ d : Int, (tab n rows.length t K).ln i ((tab n rows.length t K).be i) = (d : Rat) ∧ d.natAbs ≤ bd1 n rows.length := by
    by_cases q : (tab n rows.length t K).be i < n + rows.length
    · exact ⟨ga (t.li i) ((tab n rows.length t K).be i), if_pos q, T.line_small H hi _⟩
    · refine ⟨-ga (t.li i) ((tab n rows.length t K).be i - rows.length), ?_, ?_⟩
      · rw [Rat.intCast_neg]
        exact if_neg q
      · rw [Int.natAbs_neg]
        exact T.line_small H hi _
  have hp := I.pos i hi
  rw [hd] at hp ⊢
  have hp' : 0 < d := by exact_mod_cast hp
  have hrn : 0 ≤ (tab n rows.length t K).rh i := I.rhn i hi
  have hr : (tab n rows.length t K).rh i = (ga (t.li i) (n + rows.length) : Rat) := rfl
  rw [hr] at hrn ⊢
  have hrn' : 0 ≤ ga (t.li i) (n + rows.length) := by exact_mod_cast hrn
  obtain ⟨rv, hrv⟩ := Int.eq_ofNat_of_zero_le hrn'
  obtain ⟨dv, hdv⟩ := Int.eq_ofNat_of_zero_le (Int.le_of_lt hp')
  obtain ⟨w, hw⟩ := dvd_fct M dv (by omega) (by omega)
  have hdq : ((dv : Nat) : Rat) ≠ 0 := by
    have : dv ≠ 0 := by omega
    exact_mod_cast this
  rw [hrv, hdv, hw]
  unfold cQ
  split
  · refine ⟨w * rv, ?_⟩
    push_cast
    grind
  · refine ⟨0, ?_⟩
    push_cast
    grind
theorem TOk.next (T : TOk n rows t K) (hl : live t = true) : TOk n rows (nextT t) (nextK t K) ∧ ∃ r s, Bl rows.length (n + rows.length + rows.length) (tab n rows.length t K) (tab n rows.length (nextT t) (nextK t K)) r s := by
  unfold live at hl
  cases e : ent t with
  | none => rw [e] at hl; simp at hl
  | some s =>
    obtain ⟨r, e2, hr, hp, hb⟩ := T.leaves e
    have h := T.step e hr hp hb
    have e3 : nextT t = pivot t r s := by unfold nextT; simp only [e, e2]
    have e4 : nextK t K = newK t r s K := by unfold nextK; simp only [e, e2]
    rw [e3, e4]
    exact ⟨h.1, r, s, h.2⟩
theorem run_ok (T : TOk n rows t K) : ∀ k, (∀ i, i < k → live (runT t i) = true) → TOk n rows (runT t k) (runK t K k)
  | 0, _ => T
  | k + 1, h => ((run_ok T k fun i hi => h i (by omega)).next (h k (by omega))).1
/-- at the start: the goal is at most the number of rows -/
theorem init_w (H : ∀ r ∈ rows, RowOk n r) : (tab n rows.length (init n rows) 1).W rows.length (n + rows.length + rows.length) (cQ n rows.length) ≤ ((rows.length : Nat) : Rat) := by
  have T := init_ok H
  have e := gr_eq T.inv
  have e2 : (tab n rows.length (init n rows) 1).Gr = (ga (init n rows).goal (n + rows.length) : Rat) := rfl
  have e3 : ga (init n rows).goal (n + rows.length) = Si rows.length (fun i => if bOf rows i ≠ 0 then 1 else 0) := by
    show ga (initGo rows.length 0 rows (List.replicate (n + rows.length + 1) 0)) (n + rows.length) = _
    rw [initGo_last rows 0 _ (fun r hr => (H r hr).1) (List.length_replicate ..)]
    unfold ga
    rw [List.getElem?_replicate, if_pos (by omega)]
    simp
  have e4 : (Si rows.length (fun i => if bOf rows i ≠ 0 then (1 : Int) else 0)).natAbs ≤ rows.length * 1 := Si_abs fun i _ => by split <;> decide
  have e5 : (tab n rows.length (init n rows) 1).K = 1 := rfl
  rw [e5, e2, e3] at e
  have e6 : (Si rows.length (fun i => if bOf rows i ≠ 0 then (1 : Int) else 0)) ≤ (rows.length : Int) := by omega
  have e7 : ((Si rows.length (fun i => if bOf rows i ≠ 0 then (1 : Int) else 0) : Int) : Rat) ≤ ((rows.length : Int) : Rat) := by exact_mod_cast e6
  have e8 : (((rows.length : Nat) : Int) : Rat) = ((rows.length : Nat) : Rat) := by push_cast; rfl
  grind
theorem run_len (H : ∀ r ∈ rows, RowOk n r) {M : Nat} (hM : bd1 n rows.length ≤ M) {L : Nat} (h : ∀ i, i < L → live (runT (init n rows) i) = true) : L < (rows.length * fct M + 1) * 2 ^ (n + rows.length + rows.length) := by
  have T := init_ok H
  -- what enters and leaves
  have ex : ∀ i, ∃ p : Nat × Nat, i < L → Bl rows.length (n + rows.length + rows.length) (tab n rows.length (runT (init n rows) i) (runK (init n rows) 1 i)) (tab n rows.length (runT (init n rows) (i + 1)) (runK (init n rows) 1 (i + 1))) p.1 p.2 := fun i => by
    by_cases q : i < L
    · obtain ⟨r, s, b⟩ := ((run_ok T i fun j hj => h j (by omega)).next (h i q)).2
      exact ⟨(r, s), fun _ => b⟩
    · exact ⟨(0, 0), fun z => absurd z q⟩
  have R : Run rows.length (n + rows.length + rows.length) (AQ n rows) (bQ rows) (cQ n rows.length) (fun i => tab n rows.length (runT (init n rows) i) (runK (init n rows) 1 i)) (fun i => (Classical.choose (ex i)).1) (fun i => (Classical.choose (ex i)).2) 0 L :=
    ⟨fun i _ hi => (run_ok T i fun j hj => h j (by omega)).inv, fun i _ hi => Classical.choose_spec (ex i) hi⟩
  have hZ : (0 : Rat) < ((fct M : Nat) : Rat) := by exact_mod_cast fct_pos M
  have := Run.len (lo := 0) (hi := L) ((fct M : Nat) : Rat) hZ (fun i _ hi => (run_ok T i fun j hj => h j (by omega)).w_nat H hM) (rows.length * fct M) 0 (Nat.le_refl _) (Nat.zero_le _) R (by
    have h1 := init_w H
    have h2 := Rat.mul_nonneg (show (0 : Rat) ≤ ((rows.length : Nat) : Rat) - (tab n rows.length (init n rows) 1).W rows.length (n + rows.length + rows.length) (cQ n rows.length) by grind) (Rat.le_of_lt hZ)
    show (tab n rows.length (init n rows) 1).W _ _ _ * _ ≤ _
    push_cast
    grind)
  simpa using this
end
end Sx

/-! Sx7: what is told at the end. -/
namespace Sx
theorem Sm_append (p q : Nat) (f : Nat → Rat) : Sm (p + q) f = Sm p f + Sm q (fun i => f (p + i)) := by
  induction q with
  | zero => simp only [Sm, Nat.add_zero]; grind
  | succ q ih => rw [← Nat.add_assoc, Sm, ih, Sm]; grind
theorem sum_zip : ∀ (a b : List Int), a.length = b.length → (List.zipWith (fun x y => x * y) a b).sum = Si a.length (fun j => ga a j * ga b j)
  | [], [], _ => rfl
  | x :: a, y :: b, h => by
    have h' : a.length = b.length := by simpa using h
    rw [List.zipWith_cons_cons, List.sum_cons, sum_zip a b h', List.length_cons, Si_front]
    rfl
/-! ### the sides -/
def topsGo (n : Nat) : List (List Int × Nat) → List Int → List Int
  | [], a => a
  | (l, p) :: r, a => topsGo n r (if p < n then a.set p (lastI l) else a)
def botsGo (n : Nat) : List (List Int × Nat) → List Int → List Int
  | [], a => a
  | (l, p) :: r, a => botsGo n r (if p < n then a.set p (ga l p) else a)
def tops (n : Nat) (t : TB) : List Int := topsGo n (t.lines.zip t.basis) (List.replicate n 0)
def bots (n : Nat) (t : TB) : List Int := botsGo n (t.lines.zip t.basis) (List.replicate n 1)
def wholeF (l : List Int) (w : Int) : Int := l.foldl (fun w b => w * b / (Int.gcd w b : Int)) w
def whole (n : Nat) (t : TB) : Int := wholeF (bots n t) 1
def values (n : Nat) (t : TB) : List Int := List.zipWith (fun top bottom => top * whole n t / bottom) (tops n t) (bots n t)
def nums (n m : Nat) (t : TB) : List Int := (t.goal.drop n).take m
section
variable {n : Nat} {rows : List Rw} {t : TB} {K : Rat}
theorem topsGo_len : ∀ (l : List (List Int × Nat)) (a : List Int), (topsGo n l a).length = a.length
  | [], _ => rfl
  | (x, p) :: r, a => by
    rw [topsGo, topsGo_len r]
    split
    · rw [List.length_set]
    · rfl
theorem botsGo_len : ∀ (l : List (List Int × Nat)) (a : List Int), (botsGo n l a).length = a.length
  | [], _ => rfl
  | (x, p) :: r, a => by
    rw [botsGo, botsGo_len r]
    split
    · rw [List.length_set]
    · rfl
theorem topsGo_out {j : Nat} : ∀ (l : List (List Int × Nat)) (a : List Int), a.length = n → (∀ q ∈ l, q.2 ≠ j) → ga (topsGo n l a) j = ga a j
  | [], _, _, _ => rfl
  | (x, p) :: r, a, ha, h => by
    have hp : p ≠ j := h _ List.mem_cons_self
    rw [topsGo, topsGo_out r _ (by split <;> simp [ha]) (fun q hq => h q (List.mem_cons_of_mem _ hq))]
    split
    · rw [ga_set (by omega), if_neg (fun e => hp e.symm)]
    · rfl
theorem botsGo_out {j : Nat} : ∀ (l : List (List Int × Nat)) (a : List Int), a.length = n → (∀ q ∈ l, q.2 ≠ j) → ga (botsGo n l a) j = ga a j
  | [], _, _, _ => rfl
  | (x, p) :: r, a, ha, h => by
    have hp : p ≠ j := h _ List.mem_cons_self
    rw [botsGo, botsGo_out r _ (by split <;> simp [ha]) (fun q hq => h q (List.mem_cons_of_mem _ hq))]
    split
    · rw [ga_set (by omega), if_neg (fun e => hp e.symm)]
    · rfl
theorem topsGo_in {x : List Int} {j : Nat} (hj : j < n) : ∀ (l : List (List Int × Nat)) (a : List Int), a.length = n → (l.map (·.2)).Nodup → (x, j) ∈ l → ga (topsGo n l a) j = lastI x
  | [], _, _, _, h => nomatch h
  | (y, p) :: r, a, ha, hn, h => by
    rw [topsGo]
    rw [List.map_cons, List.nodup_cons] at hn
    have hl : (if p < n then a.set p (lastI y) else a).length = n := by split <;> simp [ha]
    rcases List.mem_cons.mp h with e | h
    · cases e
      rw [topsGo_out r _ hl fun q hq e => hn.1 (List.mem_map.mpr ⟨q, hq, e⟩), if_pos hj, ga_set (by omega), if_pos rfl]
    · exact topsGo_in hj r _ hl hn.2 h
theorem botsGo_in {x : List Int} {j : Nat} (hj : j < n) : ∀ (l : List (List Int × Nat)) (a : List Int), a.length = n → (l.map (·.2)).Nodup → (x, j) ∈ l → ga (botsGo n l a) j = ga x j
  | [], _, _, _, h => nomatch h
  | (y, p) :: r, a, ha, hn, h => by
    rw [botsGo]
    rw [List.map_cons, List.nodup_cons] at hn
    have hl : (if p < n then a.set p (ga y p) else a).length = n := by split <;> simp [ha]
    rcases List.mem_cons.mp h with e | h
    · cases e
      rw [botsGo_out r _ hl fun q hq e => hn.1 (List.mem_map.mpr ⟨q, hq, e⟩), if_pos hj, ga_set (by omega), if_pos rfl]
    · exact botsGo_in hj r _ hl hn.2 h
theorem tops_len : (tops n t).length = n := by unfold tops; rw [topsGo_len, List.length_replicate]
theorem bots_len : (bots n t).length = n := by unfold bots; rw [botsGo_len, List.length_replicate]
theorem values_len : (values n t).length = n := by unfold values; rw [List.length_zipWith, tops_len, bots_len, Nat.min_self]
theorem zip_mem {i : Nat} {m : Nat} (h : Sh n m t) (hi : i < m) : (t.li i, t.ba i) ∈ t.lines.zip t.basis := by
  rw [List.mem_iff_getElem]
  refine ⟨i, by rw [List.length_zip, h.lines, h.basis]; omega, ?_⟩
  rw [List.getElem_zip]
  unfold TB.li TB.ba
  rw [List.getElem?_eq_getElem (by rw [h.lines]; exact hi), List.getElem?_eq_getElem (by rw [h.basis]; exact hi)]
  rfl
theorem zip_snd {m : Nat} (h : Sh n m t) : (t.lines.zip t.basis).map (·.2) = t.basis := by
  rw [List.map_snd_zip]
  rw [h.lines, h.basis]
  exact Nat.le_refl _
theorem basis_mem {m : Nat} (h : Sh n m t) {v : Nat} (hv : v ∈ t.basis) : ∃ i, i < m ∧ t.ba i = v := by
  obtain ⟨i, hi, rfl⟩ := List.mem_iff_getElem.mp hv
  refine ⟨i, by rw [← h.basis]; exact hi, ?_⟩
  unfold TB.ba
  rw [List.getElem?_eq_getElem hi]
  rfl
theorem basis_nodup {m : Nat} (h : Sh n m t) (hinj : ∀ i, i < m → ∀ k, k < m → t.ba i = t.ba k → i = k) : t.basis.Nodup := by
  rw [List.nodup_iff_pairwise_ne, List.pairwise_iff_getElem]
  intro i j hi hj hij e
  have e1 : t.ba i = t.basis[i] := by unfold TB.ba; rw [List.getElem?_eq_getElem hi]; rfl
  have e2 : t.ba j = t.basis[j] := by unfold TB.ba; rw [List.getElem?_eq_getElem hj]; rfl
  have := hinj i (by rw [← h.basis]; exact hi) j (by rw [← h.basis]; exact hj) (by rw [e1, e2, e])
  omega
/-- a side's parts -/
theorem TOk.side (T : TOk n rows t K) {j : Nat} (hj : j < n) : 0 < ga (bots n t) j ∧ (ga (tops n t) j : Rat) / (ga (bots n t) j : Rat) = (tab n rows.length t K).x rows.length j := by
  have I := T.inv
  have hn : ((t.lines.zip t.basis).map (·.2)).Nodup := by rw [zip_snd T.sh]; exact basis_nodup T.sh I.inj
  by_cases q : ∃ i, i < rows.length ∧ t.ba i = j
  · obtain ⟨i, hi, e⟩ := q
    have hm := zip_mem T.sh hi
    rw [e] at hm
    have e1 : ga (tops n t) j = lastI (t.li i) := topsGo_in hj _ _ (List.length_replicate ..) hn hm
    have e2 : ga (bots n t) j = ga (t.li i) j := botsGo_in hj _ _ (List.length_replicate ..) hn hm
    have e3 : (tab n rows.length t K).x rows.length ((tab n rows.length t K).be i) = (tab n rows.length t K).rh i / (tab n rows.length t K).ln i ((tab n rows.length t K).be i) := pm_at hi (fun k hk e => I.inj k hk i hi e) _
    have e4 : (tab n rows.length t K).be i = j := e
    have e5 : (tab n rows.length t K).ln i j = (ga (t.li i) j : Rat) := if_pos (by omega)
    have hp := I.pos i hi
    rw [e4, e5] at hp
    rw [e4, e5] at e3
    have hp' : 0 < ga (t.li i) j := by exact_mod_cast hp
    rw [e1, e2, e3]
    refine ⟨hp', ?_⟩
    unfold lastI
    rw [last_ga (T.sh.line i hi)]
    rfl
  · have hne : ∀ p ∈ t.lines.zip t.basis, p.2 ≠ j := fun p hp e => by
      have : p.2 ∈ t.basis := by rw [← zip_snd T.sh]; exact List.mem_map.mpr ⟨p, hp, rfl⟩
      obtain ⟨i, hi, e2⟩ := basis_mem T.sh this
      exact q ⟨i, hi, by rw [e2, e]⟩
    have e1 : ga (tops n t) j = 0 := by
      unfold tops
      rw [topsGo_out _ _ (List.length_replicate ..) hne]
      unfold ga
      rw [List.getElem?_replicate, if_pos hj]
      rfl
    have e2 : ga (bots n t) j = 1 := by
      unfold bots
      rw [botsGo_out _ _ (List.length_replicate ..) hne]
      unfold ga
      rw [List.getElem?_replicate, if_pos hj]
      rfl
    rw [e1, e2]
    refine ⟨by decide, ?_⟩
    have : (tab n rows.length t K).x rows.length j = 0 := pm_out (fun i hi e => q ⟨i, hi, e⟩) _
    rw [this]
    decide +kernel
theorem lcm_step {w b : Int} (hw : 0 < w) (hb : 0 < b) : 0 < w * b / (Int.gcd w b : Int) ∧ w ∣ w * b / (Int.gcd w b : Int) ∧ b ∣ w * b / (Int.gcd w b : Int) ∧ w * b / (Int.gcd w b : Int) ≤ w * b := by
  have hg : 0 < (Int.gcd w b : Int) := by
    have := Int.gcd_pos_of_ne_zero_left (b := b) (show w ≠ 0 by omega)
    omega
  obtain ⟨x, hx⟩ := Int.gcd_dvd_left (a := w) (b := b)
  obtain ⟨y, hy⟩ := Int.gcd_dvd_right (a := w) (b := b)
  generalize (Int.gcd w b : Int) = g at hg hx hy
  have e1 : w * b / g = w * y := by
    rw [hy, show w * (g * y) = g * (w * y) by grind, Int.mul_ediv_cancel_left _ (by omega)]
  have e2 : w * b / g = x * b := by
    rw [hx, show g * x * b = g * (x * b) by grind, Int.mul_ediv_cancel_left _ (by omega)]
  have hy0 : 0 < y := by
    refine Classical.byContradiction fun q => ?_
    have := Int.mul_nonneg (Int.le_of_lt hg) (show 0 ≤ -y by omega)
    rw [Int.mul_neg] at this
    omega
  have hp : 0 < w * y := Int.mul_pos hw hy0
  refine ⟨by rw [e1]; exact hp, ⟨y, e1⟩, ⟨x, by rw [e2, Int.mul_comm]⟩, ?_⟩
  rw [e1]
  refine Int.mul_le_mul_of_nonneg_left ?_ (Int.le_of_lt hw)
  rw [hy]
  have := Int.mul_le_mul_of_nonneg_right (show 1 ≤ g by omega) (Int.le_of_lt hy0)
  omega
theorem wholeF_ok : ∀ (l : List Int) (w : Int), 0 < w → (∀ b ∈ l, 0 < b) → 0 < wholeF l w ∧ w ∣ wholeF l w ∧ ∀ b ∈ l, b ∣ wholeF l w
  | [], w, h, _ => ⟨h, Int.dvd_refl _, fun _ z => (nomatch z)⟩
  | b :: l, w, h, hb => by
    obtain ⟨a1, a2, a3, _⟩ := lcm_step h (hb b List.mem_cons_self)
    obtain ⟨b1, b2, b3⟩ := wholeF_ok l _ a1 fun x hx => hb x (List.mem_cons_of_mem _ hx)
    refine ⟨b1, Int.dvd_trans a2 b2, fun x hx => ?_⟩
    rcases List.mem_cons.mp hx with rfl | hx
    · exact Int.dvd_trans a3 b2
    · exact b3 x hx
theorem TOk.bots_pos (T : TOk n rows t K) : ∀ b ∈ bots n t, 0 < b := fun b hb => by
  obtain ⟨j, hj, rfl⟩ := mem_ga hb
  rw [bots_len] at hj
  exact (T.side hj).1
theorem TOk.value (T : TOk n rows t K) {j : Nat} (hj : j < n) : 0 < whole n t ∧ (ga (values n t) j : Rat) = (whole n t : Rat) * (tab n rows.length t K).x rows.length j := by
  obtain ⟨h1, _, h3⟩ := wholeF_ok (bots n t) 1 (by decide) T.bots_pos
  refine ⟨h1, ?_⟩
  obtain ⟨hb, hx⟩ := T.side hj
  rw [← hx]
  have e : ga (values n t) j = ga (tops n t) j * whole n t / ga (bots n t) j := ga_zip (f := fun top bottom => top * whole n t / bottom) (by simp) (by rw [tops_len, bots_len]) j
  obtain ⟨q, hq⟩ := h3 _ (ga_mem (show j < (bots n t).length by rw [bots_len]; exact hj))
  have hq : whole n t = ga (bots n t) j * q := hq
  have e2 : ga (values n t) j = ga (tops n t) j * q := by
    rw [e, hq, show ga (tops n t) j * (ga (bots n t) j * q) = ga (bots n t) j * (ga (tops n t) j * q) by grind, Int.mul_ediv_cancel_left _ (by omega)]
  rw [e2, hq]
  have hbq : ((ga (bots n t) j : Int) : Rat) ≠ 0 := by
    have : ga (bots n t) j ≠ 0 := by omega
    exact_mod_cast this
  push_cast
  grind
def kept (r : Rw) (x : List Int) : Prop := r.2 ≤ (List.zipWith (fun a b => a * b) r.1 x).sum
theorem sum3 (n m : Nat) (f : Nat → Rat) : Sm (n + m + m) f = Sm n f + Sm m (fun i => f (n + i)) + Sm m (fun i => f (n + m + i)) := by
  rw [Sm_append, Sm_append]
theorem AQ_sl {k q : Nat} (h : q < rows.length) : AQ n rows k (n + q) = if k = q then -1 else 0 := by
  unfold AQ
  rw [Ax_sl h]
  split <;> rfl
theorem AQ_ar {k q : Nat} : AQ n rows k (n + rows.length + q) = if k = q then 1 else 0 := by
  unfold AQ
  rw [Ax_ar]
  split <;> rfl
/-- a row's sum over all columns -/
theorem row_sum {k : Nat} (hk : k < rows.length) (x : Nat → Rat) : Sm (n + rows.length + rows.length) (fun j => AQ n rows k j * x j) = Sm n (fun j => (aOf rows k j : Rat) * x j) - x (n + k) + x (n + rows.length + k) := by
  rw [sum3]
  have e1 : Sm n (fun j => AQ n rows k j * x j) = Sm n (fun j => (aOf rows k j : Rat) * x j) := Sm_congr fun j hj => by
    unfold AQ
    rw [Ax_st hj]
  have e2 : Sm rows.length (fun i => AQ n rows k (n + i) * x (n + i)) = -x (n + k) := by
    rw [Sm_single hk fun i hi hn => by rw [AQ_sl hi, if_neg (fun e => hn e.symm)]; grind]
    rw [AQ_sl hk, if_pos rfl]
    grind
  have e3 : Sm rows.length (fun i => AQ n rows k (n + rows.length + i) * x (n + rows.length + i)) = x (n + rows.length + k) := by
    rw [Sm_single hk fun i hi hn => by rw [AQ_ar, if_neg (fun e => hn e.symm)]; grind]
    rw [AQ_ar, if_pos rfl]
    grind
  rw [e1, e2, e3]
  grind
theorem TOk.yes (H : ∀ r ∈ rows, RowOk n r) (T : TOk n rows t K) (h : ¬ 0 < lastI t.goal) : ∀ r ∈ rows, kept r (values n t) := by
  have I := T.inv
  have hgr : (tab n rows.length t K).Gr = (ga t.goal (n + rows.length) : Rat) := rfl
  have hl : lastI t.goal = ga t.goal (n + rows.length) := last_ga T.sh.goal
  have hle : (ga t.goal (n + rows.length) : Rat) ≤ 0 := by
    have : ga t.goal (n + rows.length) ≤ 0 := by omega
    exact_mod_cast this
  have hW : Sm (n + rows.length + rows.length) (fun j => cQ n rows.length j * (tab n rows.length t K).x rows.length j) ≤ 0 := by
    have e := gr_eq I
    rw [hgr] at e
    refine Classical.byContradiction fun q => ?_
    have := Rat.mul_pos I.kp (show 0 < (tab n rows.length t K).W rows.length (n + rows.length + rows.length) (cQ n rows.length) by
      unfold Tab.W
      grind)
    grind
  -- the artificial parts are nothing
  have har : ∀ k, k < rows.length → (tab n rows.length t K).x rows.length (n + rows.length + k) = 0 := by
    intro k hk
    have h1 : 0 ≤ (tab n rows.length t K).x rows.length (n + rows.length + k) := x_nn I _
    refine Classical.byContradiction fun q => ?_
    have h2 : 0 ≤ Sm (n + rows.length + rows.length) (fun j => cQ n rows.length j * (tab n rows.length t K).x rows.length j + -1 * if j = n + rows.length + k then (tab n rows.length t K).x rows.length (n + rows.length + k) else 0) := Sm_nonneg fun j hj => by
      have h3 := x_nn I j
      unfold cQ
      by_cases z : j = n + rows.length + k
      · subst z
        rw [if_pos (by omega), if_pos rfl]
        grind
      · rw [if_neg z]
        split <;> grind
    rw [Sm_add, Sm_mul, Sm_single (f := fun j => if j = n + rows.length + k then (tab n rows.length t K).x rows.length (n + rows.length + k) else 0) (show n + rows.length + k < n + rows.length + rows.length by omega) (fun i _ hn => if_neg hn)] at h2
    simp only [if_true] at h2
    grind
  intro r hr
  obtain ⟨k, hk, rfl⟩ := List.mem_iff_getElem.mp hr
  have hrow := row_at H hk
  have e0 : rows[k]?.getD ([], 0) = rows[k] := by rw [List.getElem?_eq_getElem hk]; rfl
  have hsol := (I.eqv _ _).mp (x_sol I) k hk
  rw [row_sum hk, har k hk] at hsol
  have hs := x_nn I (n + k)
  unfold kept
  rw [sum_zip _ _ (by rw [values_len, ← e0]; exact hrow.1)]
  rw [e0] at hrow
  rw [hrow.1]
  have eb : bQ rows k = ((rows[k].2 : Int) : Rat) := by unfold bQ bOf; rw [e0]
  have ea : ∀ j, aOf rows k j = ga rows[k].1 j := fun j => by unfold aOf; rw [e0]
  by_cases hn : n = 0
  · -- no sides at all
    subst hn
    rw [Sm] at hsol
    rw [Si]
    rcases hrow.2.2 with e | e
    · rw [e]
      exact Int.le_refl _
    · rw [eb, e] at hsol
      have : ((1 : Int) : Rat) = 1 := rfl
      rw [this] at hsol
      exfalso
      grind
  · have hw := (T.value (show 0 < n by omega)).1
    have e1 : ((Si n (fun j => ga rows[k].1 j * ga (values n t) j) : Int) : Rat) = (whole n t : Rat) * Sm n (fun j => (aOf rows k j : Rat) * (tab n rows.length t K).x rows.length j) := by
      rw [Si_cast, ← Sm_mul]
      refine Sm_congr fun j hj => ?_
      rw [Rat.intCast_mul, (T.value hj).2, ea]
      grind
    have e2 : ((rows[k].2 : Int) : Rat) ≤ ((Si n (fun j => ga rows[k].1 j * ga (values n t) j) : Int) : Rat) := by
      rw [e1]
      have h3 : (1 : Rat) ≤ (whole n t : Rat) := by
        have : 1 ≤ whole n t := by omega
        exact_mod_cast this
      have h4 : Sm n (fun j => (aOf rows k j : Rat) * (tab n rows.length t K).x rows.length j) = ((rows[k].2 : Int) : Rat) + (tab n rows.length t K).x rows.length (n + k) := by
        rw [← eb]
        grind
      rw [h4]
      have h5 : (0 : Rat) ≤ ((rows[k].2 : Int) : Rat) := by
        rcases hrow.2.2 with e | e <;> rw [e] <;> decide +kernel
      have h6 := Rat.mul_nonneg (show (0 : Rat) ≤ (whole n t : Rat) - 1 by grind) (show 0 ≤ ((rows[k].2 : Int) : Rat) + (tab n rows.length t K).x rows.length (n + k) by grind)
      grind
    exact_mod_cast e2
/-! ### the paper -/
theorem nums_len (h : Sh n rows.length t) : (nums n rows.length t).length = rows.length := by
  unfold nums
  rw [List.length_take, List.length_drop, h.goal]
  omega
theorem nums_ga (h : Sh n rows.length t) {k : Nat} (hk : k < rows.length) : ga (nums n rows.length t) k = ga t.goal (n + k) := by
  unfold nums ga
  rw [List.getElem?_take_of_lt hk, List.getElem?_drop]
/-- numbers that show that rows can't be kept -/
structure Shows (n : Nat) (rows : List Rw) (ns : List Int) : Prop where
  len : ns.length = rows.length
  nn : ∀ k, k < rows.length → 0 ≤ ga ns k
  col : ∀ j, j < n → Si rows.length (fun k => ga ns k * aOf rows k j) ≤ 0
  most : 0 < Si rows.length (fun k => ga ns k * bOf rows k)
theorem TOk.no (T : TOk n rows t K) (h : 0 < lastI t.goal) (he : ent t = none) : Shows n rows (nums n rows.length t) := by
  have I := T.inv
  have hl : lastI t.goal = ga t.goal (n + rows.length) := last_ga T.sh.goal
  have hG : ∀ j, j < n + rows.length → (tab n rows.length t K).G j = (ga t.goal j : Rat) := fun j hj => if_pos hj
  have hn := ent_none T.sh he
  have hc : ∀ x : Nat → Rat, (∀ k, k < rows.length → x (n + rows.length + k) = 0) → Sm (n + rows.length + rows.length) (fun j => cQ n rows.length j * x j) = 0 := fun x hx => Sm_eq0 fun j hj => by
    unfold cQ
    by_cases q : n + rows.length ≤ j
    · rw [if_pos q]
      have := hx (j - n - rows.length) (by omega)
      rw [show n + rows.length + (j - n - rows.length) = j by omega] at this
      rw [this]
      grind
    · rw [if_neg q]
      grind
  refine ⟨nums_len T.sh, fun k hk => ?_, fun j hj => ?_, ?_⟩
  · rw [nums_ga T.sh hk]
    exact hn _ (by omega)
  · -- a way in which only side j and the slacks change
    let x : Nat → Rat := fun v => if v < n then (if v = j then 1 else 0) else if v < n + rows.length then (aOf rows (v - n) j : Rat) else 0
    have x1 : ∀ v, v < n → x v = if v = j then 1 else 0 := fun v hv => if_pos hv
    have x2 : ∀ q, q < rows.length → x (n + q) = (aOf rows q j : Rat) := fun q hq => by
      show (if n + q < n then _ else if n + q < n + rows.length then (aOf rows (n + q - n) j : Rat) else 0) = _
      rw [if_neg (by omega), if_pos (by omega), show n + q - n = q by omega]
    have x3 : ∀ q, q < rows.length → x (n + rows.length + q) = 0 := fun q hq => by
      show (if n + rows.length + q < n then _ else if n + rows.length + q < n + rows.length then _ else 0) = (0 : Rat)
      rw [if_neg (by omega), if_neg (by omega)]
    have hx : ∀ k, k < rows.length → Sm (n + rows.length + rows.length) (fun j => AQ n rows k j * x j) = 0 * bQ rows k := fun k hk => by
      rw [row_sum hk, x2 k hk, x3 k hk, Sm_single hj fun i hi hn => by rw [x1 i hi, if_neg hn]; grind]
      rw [x1 j hj, if_pos rfl]
      grind
    have h1 := I.goal x 0 hx
    rw [hc x x3, sum3, Sm_single hj fun i hi hn => by rw [x1 i hi, if_neg hn]; grind] at h1
    rw [x1 j hj, if_pos rfl, hG j (by omega), Sm_eq0 (n := rows.length) (f := fun i => (tab n rows.length t K).G (n + rows.length + i) * x (n + rows.length + i)) fun i hi => by rw [x3 i hi]; grind] at h1
    have e : Sm rows.length (fun i => (tab n rows.length t K).G (n + i) * x (n + i)) = ((Si rows.length (fun k => ga (nums n rows.length t) k * aOf rows k j) : Int) : Rat) := by
      rw [Si_cast]
      refine Sm_congr fun k hk => ?_
      rw [hG _ (by omega), x2 k hk, nums_ga T.sh hk]
      push_cast
      rfl
    rw [e] at h1
    have h2 := hn j (by omega)
    have h3 : (0 : Rat) ≤ (ga t.goal j : Rat) := by exact_mod_cast h2
    have h4 : ((Si rows.length (fun k => ga (nums n rows.length t) k * aOf rows k j) : Int) : Rat) ≤ 0 := by grind
    exact_mod_cast h4
  · let x : Nat → Rat := fun v => if v < n then 0 else if v < n + rows.length then -bQ rows (v - n) else 0
    have x1 : ∀ v, v < n → x v = 0 := fun v hv => if_pos hv
    have x2 : ∀ q, q < rows.length → x (n + q) = -bQ rows q := fun q hq => by
      show (if n + q < n then _ else if n + q < n + rows.length then -bQ rows (n + q - n) else 0) = _
      rw [if_neg (by omega), if_pos (by omega), show n + q - n = q by omega]
    have x3 : ∀ q, q < rows.length → x (n + rows.length + q) = 0 := fun q hq => by
      show (if n + rows.length + q < n then _ else if n + rows.length + q < n + rows.length then _ else 0) = (0 : Rat)
      rw [if_neg (by omega), if_neg (by omega)]
    have hx : ∀ k, k < rows.length → Sm (n + rows.length + rows.length) (fun j => AQ n rows k j * x j) = 1 * bQ rows k := fun k hk => by
      rw [row_sum hk, x2 k hk, x3 k hk, Sm_eq0 fun i hi => by rw [x1 i hi]; grind]
      grind
    have h1 := I.goal x 1 hx
    rw [hc x x3, sum3, Sm_eq0 (n := n) (f := fun i => (tab n rows.length t K).G i * x i) fun i hi => by rw [x1 i hi]; grind] at h1
    rw [Sm_eq0 (n := rows.length) (f := fun i => (tab n rows.length t K).G (n + rows.length + i) * x (n + rows.length + i)) fun i hi => by rw [x3 i hi]; grind] at h1
    have e : Sm rows.length (fun i => (tab n rows.length t K).G (n + i) * x (n + i)) = -((Si rows.length (fun k => ga (nums n rows.length t) k * bOf rows k) : Int) : Rat) := by
      rw [Si_cast]
      have : -Sm rows.length (fun i => ((ga (nums n rows.length t) i * bOf rows i : Int) : Rat)) = Sm rows.length (fun i => -1 * ((ga (nums n rows.length t) i * bOf rows i : Int) : Rat)) := by
        rw [Sm_mul]
        grind
      rw [this]
      refine Sm_congr fun k hk => ?_
      rw [hG _ (by omega), x2 k hk, nums_ga T.sh hk]
      unfold bQ
      push_cast
      grind
    rw [e] at h1
    have hgr : (tab n rows.length t K).Gr = (ga t.goal (n + rows.length) : Rat) := rfl
    rw [hgr] at h1
    have h2 : (0 : Rat) < (ga t.goal (n + rows.length) : Rat) := by
      have : 0 < ga t.goal (n + rows.length) := by omega
      exact_mod_cast this
    have h4 : (0 : Rat) < ((Si rows.length (fun k => ga (nums n rows.length t) k * bOf rows k) : Int) : Rat) := by grind
    exact_mod_cast h4
/-! ### what rows come to -/
open Classical in
noncomputable def Lof (n : Nat) (rows : List Rw) : Nat := if h : ∃ L, live (runT (init n rows) L) = false ∧ ∀ i, i < L → live (runT (init n rows) i) = true then Classical.choose h else 0
noncomputable def fin (n : Nat) (rows : List Rw) : TB := runT (init n rows) (Lof n rows)
theorem least {p : Nat → Bool} : ∀ k, p k = false → ∃ L, L ≤ k ∧ p L = false ∧ ∀ i, i < L → p i = true
  | 0, h => ⟨0, Nat.le_refl _, h, fun i hi => absurd hi (by omega)⟩
  | k + 1, h => by
    by_cases q : ∃ i, i ≤ k ∧ p i = false
    · obtain ⟨i, hi, e⟩ := q
      obtain ⟨L, h1, h2, h3⟩ := least i e
      exact ⟨L, by omega, h2, h3⟩
    · refine ⟨k + 1, Nat.le_refl _, h, fun i hi => ?_⟩
      cases e : p i with
      | true => rfl
      | false => exact absurd ⟨i, by omega, e⟩ q
theorem Lof_ok (H : ∀ r ∈ rows, RowOk n r) {M : Nat} (hM : bd1 n rows.length ≤ M) : live (fin n rows) = false ∧ (∀ i, i < Lof n rows → live (runT (init n rows) i) = true) ∧ Lof n rows < (rows.length * fct M + 1) * 2 ^ (n + rows.length + rows.length) := by
  have ex : ∃ L, live (runT (init n rows) L) = false ∧ ∀ i, i < L → live (runT (init n rows) i) = true := by
    refine Classical.byContradiction fun q => ?_
    have all : ∀ i, live (runT (init n rows) i) = true := fun i => by
      cases e : live (runT (init n rows) i) with
      | true => rfl
      | false =>
        obtain ⟨L, _, h2, h3⟩ := least (p := fun i => live (runT (init n rows) i)) i e
        exact absurd ⟨L, h2, h3⟩ q
    have := run_len H hM (L := (rows.length * fct M + 1) * 2 ^ (n + rows.length + rows.length)) fun i _ => all i
    omega
  have e : Lof n rows = Classical.choose ex := by
    unfold Lof
    exact dif_pos ex
  have hs := Classical.choose_spec ex
  rw [← e] at hs
  exact ⟨hs.1, hs.2, run_len H hM hs.2⟩
theorem fin_ok (H : ∀ r ∈ rows, RowOk n r) : TOk n rows (fin n rows) (runK (init n rows) 1 (Lof n rows)) := run_ok (init_ok H) _ (Lof_ok H (Nat.le_refl _)).2.1
/-- are there sides; the sides, or the paper's numbers -/
noncomputable def solB (n : Nat) (rows : List Rw) : Bool := !decide (0 < lastI (fin n rows).goal)
noncomputable def solV (n : Nat) (rows : List Rw) : List Int := values n (fin n rows)
noncomputable def solN (n : Nat) (rows : List Rw) : List Int := nums n rows.length (fin n rows)
theorem sol_yes (H : ∀ r ∈ rows, RowOk n r) (h : solB n rows = true) : (solV n rows).length = n ∧ ∀ r ∈ rows, kept r (solV n rows) := by
  refine ⟨values_len, (fin_ok H).yes H ?_⟩
  unfold solB at h
  simpa using h
theorem sol_no (H : ∀ r ∈ rows, RowOk n r) (h : solB n rows = false) : Shows n rows (solN n rows) := by
  have h1 : 0 < lastI (fin n rows).goal := by
    unfold solB at h
    simpa using h
  refine (fin_ok H).no h1 ?_
  have h2 := (Lof_ok H (Nat.le_refl _)).1
  unfold live at h2
  rw [decide_eq_true h1, Bool.true_and] at h2
  cases e : ent (fin n rows) with
  | none => rfl
  | some s => rw [e] at h2; exact absurd h2 (by simp)
end
end Sx

set_option maxHeartbeats 1000000
/-! Q1: the evaluator, step by step: rules for simp. -/
namespace Pl
open PySem Pm
section
variable {Fn : Fs} {env : Pm.Env} {st : Store} {wf : Nat}
@[simp] theorem ev_var {i : Nat} : ev Fn (.var i) env st = match env[i]? with
    | some (.dat d) => .ok d st
    | _ => .no := by rw [ev] <;> rfl
@[simp] theorem ev_lit {d : Lit} : ev Fn (.lit d) env st = .ok d.d st := by rw [ev] <;> rfl
@[simp] theorem ev_glo {x : Str} {d : Lit} : ev Fn (.glo x d) env st = .ok d.d st := by rw [ev] <;> rfl
@[simp] theorem ev_tup {es : Es} : ev Fn (.tup es) env st = (evs Fn es env st).bind fun ds st1 => if okLen ds.length = true then .ok (.tuple ds) st1 else .no := by rw [ev] <;> rfl
@[simp] theorem ev_lst {es : Es} : ev Fn (.lst es) env st = (evs Fn es env st).bind fun ds st1 => if okLen ds.length = true then .ok (.list ds) st1 else .no := by rw [ev] <;> rfl
@[simp] theorem ev_bin {op : Bop} {a b : E} : ev Fn (.bin op a b) env st = (ev Fn a env st).bind fun x st1 => (ev Fn b env st1).bind fun y st2 => .ofO (binD op x y) st2 := by rw [ev] <;> rfl
@[simp] theorem ev_neg {a : E} : ev Fn (.neg a) env st = (ev Fn a env st).bind fun x st1 => .ofO (negD x) st1 := by rw [ev] <;> rfl
@[simp] theorem ev_not {a : E} : ev Fn (.not a) env st = (ev Fn a env st).bind fun x st1 => .ofO ((isBool x).map fun b => .bool (!b)) st1 := by rw [ev] <;> rfl
@[simp] theorem ev_and {a b : E} : ev Fn (.and a b) env st = (ev Fn a env st).bind fun x st1 => match x with
    | .bool true => ev Fn b env st1
    | .bool false => .ok (.bool false) st1
    | _ => .no := by rw [ev] <;> rfl
@[simp] theorem ev_or {a b : E} : ev Fn (.or a b) env st = (ev Fn a env st).bind fun x st1 => match x with
    | .bool true => .ok (.bool true) st1
    | .bool false => ev Fn b env st1
    | _ => .no := by rw [ev] <;> rfl
@[simp] theorem ev_cmp {op : Cop} {a b : E} : ev Fn (.cmp op a b) env st = (ev Fn a env st).bind fun x st1 => (ev Fn b env st1).bind fun y st2 => .ofO ((cmpD op x y).map .bool) st2 := by rw [ev] <;> rfl
@[simp] theorem ev_isN {a : E} : ev Fn (.isN a) env st = (ev Fn a env st).bind fun x st1 => .ok (.bool (isNoneD x)) st1 := by rw [ev] <;> rfl
@[simp] theorem ev_notN {a : E} : ev Fn (.notN a) env st = (ev Fn a env st).bind fun x st1 => .ok (.bool (!isNoneD x)) st1 := by rw [ev] <;> rfl
@[simp] theorem ev_chain {o1 o2 : Cop} {a b c : E} : ev Fn (.chain o1 o2 a b c) env st = (ev Fn a env st).bind fun x st1 => (ev Fn b env st1).bind fun y st2 => match cmpD o1 x y with
    | some true => (ev Fn c env st2).bind fun z st3 => .ofO ((cmpD o2 y z).map .bool) st3
    | some false => .ok (.bool false) st2
    | none => .no := by rw [ev] <;> rfl
@[simp] theorem ev_ife {c : Pm.T} {a b : E} : ev Fn (.ife c a b) env st = (evT Fn c env st).bind fun t st1 => match t with
    | true => ev Fn a env st1
    | false => ev Fn b env st1 := by rw [ev] <;> rfl
@[simp] theorem ev_idx {a i : E} : ev Fn (.idx a i) env st = (ev Fn a env st).bind fun x st1 => (ev Fn i env st1).bind fun y st2 => .ofO (idxD x y) st2 := by rw [ev] <;> rfl
@[simp] theorem ev_idxV {j : Nat} {i : E} : ev Fn (.idxV j i) env st = if seen env j = true then (ev Fn i env st).bind fun y st1 => .ofO ((peekD env st1 j).bind fun x => idxD x y) st1 else .no := by rw [ev] <;> rfl
@[simp] theorem ev_sl {a : E} {lo hi : O} : ev Fn (.sl a lo hi) env st = (ev Fn a env st).bind fun x st1 => (evO Fn lo env st1).bind fun l st2 => (evO Fn hi env st2).bind fun h st3 => .ofO (slD x l h) st3 := by rw [ev] <;> rfl
@[simp] theorem ev_rev {a : E} : ev Fn (.rev a) env st = (ev Fn a env st).bind fun x st1 => .ofO (revD x) st1 := by rw [ev] <;> rfl
@[simp] theorem ev_tabGet {t : Str} {i : E} : ev Fn (.tabGet t i) env st = (ev Fn i env st).bind fun x st1 => .ofO ((strD x).bind fun z => ((Fn.tab t).lookup z).map Lit.d) st1 := by rw [ev] <;> rfl
@[simp] theorem ev_tabIn {t : Str} {neg : Bool} {i : E} : ev Fn (.tabIn t neg i) env st = (ev Fn i env st).bind fun x st1 => .ofO (if (Fn.tab t).isEmpty = true then none else (strD x).map fun z => .bool (if neg then !((Fn.tab t).lookup z).isSome else ((Fn.tab t).lookup z).isSome)) st1 := by rw [ev] <;> rfl
@[simp] theorem ev_dget {i : Nat} {k : E} : ev Fn (.dget i k) env st = if (dctOf env i).isSome = true then (ev Fn k env st).bind fun x st1 => .ofO ((dctOf env i).bind fun kvs => (keyD x).bind fun key => getK kvs key) st1 else .no := by rw [ev] <;> rfl
@[simp] theorem ev_dgetOr {i : Nat} {k d : E} : ev Fn (.dgetOr i k d) env st = if (dctOf env i).isSome = true then (ev Fn k env st).bind fun x st1 => (ev Fn d env st1).bind fun y st2 => .ofO ((dctOf env i).bind fun kvs => (keyD x).map fun key => (getK kvs key).getD y) st2 else .no := by rw [ev] <;> rfl
@[simp] theorem ev_call {f : Str} {es : As} : ev Fn (.call f es) env st = (evA Fn es env st).bind fun as st1 => Fn.call f as st1 := by rw [ev] <;> rfl
@[simp] theorem ev_meth {c m : Str} {o : Nat} {es : As} : ev Fn (.meth c m o es) env st = match selfOf env st c m o with
    | some s => (evA Fn es env st).bind fun as st1 => noEx (Fn.meth c m (s :: as) st1)
    | none => .no := by rw [ev] <;> rfl
@[simp] theorem ev_att {c f : Str} {o : Nat} : ev Fn (.att c o f) env st = if Fn.att c f = true then .ofO (getA env st c o f) st else .no := by rw [ev] <;> rfl
@[simp] theorem ev_blt {b : Blt} {es : Es} : ev Fn (.blt b es) env st = (evs Fn es env st).bind fun ds st1 => .ofO (bltD b ds) st1 := by rw [ev] <;> rfl
@[simp] theorem ev_lenV {j : Nat} : ev Fn (.lenV j) env st = .ofO ((peekD env st j).bind fun x => bltD .len [x]) st := by rw [ev] <;> rfl
@[simp] theorem ev_isi {a : E} {t : Ty} : ev Fn (.isi a t) env st = (ev Fn a env st).bind fun x st1 => .ok (.bool (isiD t x)) st1 := by rw [ev] <;> rfl
@[simp] theorem ev_lrng {a : E} : ev Fn (.lrng a) env st = (ev Fn a env st).bind fun x st1 => .ofO (lrngD x) st1 := by rw [ev] <;> rfl
/-- one turn of a comprehension -/
def lcStep (Fn : Fs) (env : Pm.Env) (vs : List Nat) (g : Tg) (c : C) (e : E) (x : PyData) (st2 : Store) : Out (List PyData) := match setG g x (wipeE env vs) with
        | some env2 => (evC Fn c env2 st2).bind fun t st3 => (match t with
          | true => (ev Fn e env2 st3).bind fun y st4 => .ok [y] st4
          | false => .ok [] st3)
        | none => .no
@[simp] theorem ev_lc {vs : List Nat} {g : Tg} {it : I} {c : C} {e : E} : ev Fn (.lc vs g it c e) env st = if (gIn vs g && noOwn env vs) = true then (evI Fn it env st).bind fun xs st1 =>
      (okL (lcL (lcStep Fn env vs g c e) xs st1)).bind fun ys st5 => .ok (.list ys) st5 else .no := by rw [ev] <;> rfl
def dcStep (Fn : Fs) (env : Pm.Env) (vs : List Nat) (g : Tg) (k v : E) (x : PyData) (st2 : Store) : Out (Sum Int Str × PyData) := match setG g x (wipeE env vs) with
        | some env2 => (ev Fn k env2 st2).bind fun y st3 => (ev Fn v env2 st3).bind fun z st4 => .ofO ((keyD y).map fun key => (key, z)) st4
        | none => .no
@[simp] theorem ev_lenDc {vs : List Nat} {g : Tg} {it : I} {k v : E} : ev Fn (.lenDc vs g it k v) env st = if (gIn vs g && noOwn env vs) = true then (evI Fn it env st).bind fun xs st1 =>
      (dcL (dcStep Fn env vs g k v) xs st1 []).bind fun kvs st5 => .ok (.int kvs.length) st5 else .no := by rw [ev] <;> rfl
@[simp] theorem evs_nil : evs Fn .nil env st = .ok [] st := by rw [evs] <;> rfl
@[simp] theorem evs_cons {e : E} {r : Es} : evs Fn (.cons e r) env st = (ev Fn e env st).bind fun x st1 => (evs Fn r env st1).bind fun xs st2 => .ok (x :: xs) st2 := by rw [evs] <;> rfl
@[simp] theorem evA_nil : evA Fn .nil env st = .ok [] st := by rw [evA] <;> rfl
@[simp] theorem evA_cons {e : E} {r : As} : evA Fn (.cons e r) env st = (ev Fn e env st).bind fun x st1 => (evA Fn r env st1).bind fun xs st2 => .ok (.dat x :: xs) st2 := by rw [evA] <;> rfl
@[simp] theorem evA_vr {i : Nat} {r : As} : evA Fn (.vr i r) env st = match argOf env i with
    | some a => (evA Fn r env st).bind fun xs st2 => .ok (a :: xs) st2
    | none => .no := by rw [evA] <;> rfl
@[simp] theorem evO_none : evO Fn .none env st = .ok none st := by rw [evO] <;> rfl
@[simp] theorem evO_some {e : E} : evO Fn (.some e) env st = (ev Fn e env st).bind fun x st1 => .ofO ((partD x).map some) st1 := by rw [evO] <;> rfl
@[simp] theorem evT_e {e : E} : evT Fn (.e e) env st = (ev Fn e env st).bind fun x st1 => .ofO (truth x) st1 := by rw [evT] <;> rfl
@[simp] theorem evT_and {a b : Pm.T} : evT Fn (.and a b) env st = (evT Fn a env st).bind fun x st1 => match x with
    | true => evT Fn b env st1
    | false => .ok false st1 := by rw [evT] <;> rfl
@[simp] theorem evT_or {a b : Pm.T} : evT Fn (.or a b) env st = (evT Fn a env st).bind fun x st1 => match x with
    | true => .ok true st1
    | false => evT Fn b env st1 := by rw [evT] <;> rfl
@[simp] theorem evT_not {a : Pm.T} : evT Fn (.not a) env st = (evT Fn a env st).bind fun x st1 => .ok (!x) st1 := by rw [evT] <;> rfl
@[simp] theorem evC_none : evC Fn .none env st = .ok true st := by rw [evC] <;> rfl
@[simp] theorem evC_some {t : Pm.T} : evC Fn (.some t) env st = evT Fn t env st := by rw [evC] <;> rfl
@[simp] theorem evI_seq {e : E} : evI Fn (.seq e) env st = (ev Fn e env st).bind fun x st1 => .ofO (seqD x) st1 := by rw [evI] <;> rfl
@[simp] theorem evI_rng1 {a : E} : evI Fn (.rng1 a) env st = (ev Fn a env st).bind fun x st1 => .ofO (rng1D x) st1 := by rw [evI] <;> rfl
@[simp] theorem evI_rng2 {a b : E} : evI Fn (.rng2 a b) env st = (ev Fn a env st).bind fun x st1 => (ev Fn b env st1).bind fun y st2 => .ofO (rng2D x y) st2 := by rw [evI] <;> rfl
@[simp] theorem evI_rng3 {a b c : E} : evI Fn (.rng3 a b c) env st = (ev Fn a env st).bind fun x st1 => (ev Fn b env st1).bind fun y st2 => (ev Fn c env st2).bind fun z st3 => .ofO (rng3D x y z) st3 := by rw [evI] <;> rfl
@[simp] theorem evI_enum {a : E} : evI Fn (.enum a) env st = (ev Fn a env st).bind fun x st1 => .ofO (enumD x) st1 := by rw [evI] <;> rfl
@[simp] theorem evI_zip {a b : E} : evI Fn (.zip a b) env st = (ev Fn a env st).bind fun x st1 => (ev Fn b env st1).bind fun y st2 => .ofO (zipD x y) st2 := by rw [evI] <;> rfl

/-! ### statements -/
@[simp] theorem ex_skip : ex Fn wf .skip env st = .nxt env st := by rw [ex] <;> rfl
@[simp] theorem ex_drop {e : E} : ex Fn wf (.drop e) env st = (ev Fn e env st).thn env fun _ st1 => .nxt env st1 := by rw [ex] <;> rfl
@[simp] theorem ex_asg {i : Nat} {e : E} : ex Fn wf (.asg i e) env st = (ev Fn e env st).thn env fun d st1 => .nxt (env.set i (.dat d)) st1 := by rw [ex] <;> rfl
@[simp] theorem ex_asgO {i : Nat} {e : E} : ex Fn wf (.asgO i e) env st = if isFresh e = true then (ev Fn e env st).thn env fun d st1 => match d with
    | .list ds => .nxt (env.set i (.lst ds)) st1
    | _ => .no else .no := by rw [ex] <;> rfl
@[simp] theorem ex_asgG {g : Tg} {e : E} : ex Fn wf (.asgG g e) env st = (ev Fn e env st).thn env fun d st1 => match setG g d env with
    | some env1 => .nxt env1 st1
    | none => .no := by rw [ex] <;> rfl
@[simp] theorem ex_par2 {i j : Nat} {a b : E} : ex Fn wf (.par2 i j a b) env st = (ev Fn a env st).thn env fun x st1 => (ev Fn b env st1).thn env fun y st2 => .nxt ((env.set i (.dat x)).set j (.dat y)) st2 := by rw [ex] <;> rfl
@[simp] theorem ex_par3 {i j k : Nat} {a b c : E} : ex Fn wf (.par3 i j k a b c) env st = (ev Fn a env st).thn env fun x st1 => (ev Fn b env st1).thn env fun y st2 => (ev Fn c env st2).thn env fun z st3 =>
      .nxt (((env.set i (.dat x)).set j (.dat y)).set k (.dat z)) st3 := by rw [ex] <;> rfl
@[simp] theorem ex_app {i : Nat} {e : E} : ex Fn wf (.app i e) env st = if isLst env i = true then (ev Fn e env st).thn env fun d st1 => match env[i]? with
    | some (.lst ds) => if okLen (ds.length + 1) = true then .nxt (env.set i (.lst (ds ++ [d]))) st1 else .no
    | _ => .no else .no := by rw [ex] <;> rfl
theorem ex_setI {i : Nat} {k e : E} : ex Fn wf (.setI i k e) env st = if seen env i = true then (ev Fn e env st).thn env fun d st1 => (ev Fn k env st1).thn env fun x st2 => match partD x with
    | some z => (match env[i]? with
      | some (.lst ds) => (match L2.ixN ds.length z with
        | some j => .nxt (env.set i (.lst (ds.set j d))) st2
        | none => .no)
      | some (.obj o) => (match st2[o]? with
        | some (.ml ds) => (match L2.ixN ds.length z with
          | some j => .nxt env (st2.set o (.ml (ds.set j d)))
          | none => .no)
        | _ => .no)
      | _ => .no)
    | none => .no else .no := by rw [ex] <;> rfl
@[simp] theorem ex_asgD {i : Nat} {kvs : List (Sum Int Str × Lit)} : ex Fn wf (.asgD i kvs) env st = if (decide (kvs.length ≤ 15) && keysOk kvs) = true then .nxt (env.set i (.dct (kvs.map fun kv => (kv.1, kv.2.d)))) st else .no := by rw [ex] <;> rfl
@[simp] theorem ex_dput {i : Nat} {k e : E} : ex Fn wf (.dput i k e) env st = if (dctOf env i).isSome = true then (ev Fn e env st).thn env fun d st1 => (ev Fn k env st1).thn env fun x st2 => match dctOf env i, keyD x with
    | some kvs, some key => if okLen (kvs.length + 1) = true then .nxt (env.set i (.dct (putKD kvs key d))) st2 else .no
    | _, _ => .no else .no := by rw [ex] <;> rfl
@[simp] theorem ex_setA {c f : Str} {o : Nat} {e : E} : ex Fn wf (.setA c o f e) env st = (ev Fn e env st).thn env fun d st1 => match (if Fn.att c f = true then putA env st1 c o f (.fz d) else none) with
    | some st2 => .nxt env st2
    | none => .no := by rw [ex] <;> rfl
@[simp] theorem ex_setAO {c f : Str} {o : Nat} {e : E} : ex Fn wf (.setAO c o f e) env st = if isFresh e = true then (ev Fn e env st).thn env fun d st1 => match d with
    | .list ds => (match (if Fn.att c f = true then putA env st1 c o f (.own ds) else none) with
      | some st2 => .nxt env st2
      | none => .no)
    | _ => .no else .no := by rw [ex] <;> rfl
@[simp] theorem ex_mk {i : Nat} {c : Str} {es : As} : ex Fn wf (.mk i c es) env st = (evA Fn es env st).thn env fun as st1 => match Fn.make c (.obj st1.length :: as) (st1 ++ [.ins c []]) with
    | .ok _ st2 => .nxt (env.set i (.obj st1.length)) st2
    | _ => .no := by rw [ex] <;> rfl
@[simp] theorem ex_fz {is : List Nat} : ex Fn wf (.fz is) env st = .nxt (fzE env is) st := by rw [ex] <;> rfl
@[simp] theorem ex_ret {e : E} : ex Fn wf (.ret e) env st = (ev Fn e env st).thn env fun d st1 => .ret d st1 := by rw [ex] <;> rfl
@[simp] theorem ex_retN : ex Fn wf .retN env st = .ret .none st := by rw [ex] <;> rfl
@[simp] theorem ex_ife {c : Pm.T} {a b : S} : ex Fn wf (.ife c a b) env st = (evT Fn c env st).thn env fun t st1 => match t with
    | true => ex Fn wf a env st1
    | false => ex Fn wf b env st1 := by rw [ex] <;> rfl
@[simp] theorem ex_sfor {g : Tg} {it : I} {b : S} : ex Fn wf (.sfor g it b) env st = (evI Fn it env st).thn env fun xs st1 => forL g (ex Fn wf b) xs env st1 := by rw [ex] <;> rfl
@[simp] theorem ex_swhile {c : Pm.T} {b : S} : ex Fn wf (.swhile c b) env st = whileL (evT Fn c) (ex Fn wf b) wf env st := by rw [ex] <;> rfl
@[simp] theorem ex_sraise {x : Str} : ex Fn wf (.sraise x) env st = .ex x env st := by rw [ex] <;> rfl
@[simp] theorem ex_stry {b h : S} {x : Str} : ex Fn wf (.stry b x h) env st = match ex Fn wf b env st with
    | .ex y env1 st1 => (match Fn.sub y x with
      | some true => noExO (ex Fn wf h env1 st1)
      | some false => .ex y env1 st1
      | none => .no)
    | o => o := by rw [ex] <;> rfl
@[simp] theorem ex_seq {a b : S} : ex Fn wf (.seq a b) env st = (ex Fn wf a env st).seq fun env1 st1 => ex Fn wf b env1 st1 := by rw [ex] <;> rfl
end

/-! ### loops and comprehensions over what is known -/
section
variable {Fn : Fs} {env : Pm.Env} {st : Store} {wf : Nat}
theorem lcL_nil {f : PyData → Store → Out (List PyData)} {st : Store} : lcL f [] st = .ok [] st := rfl
theorem lcL_cons {f : PyData → Store → Out (List PyData)} {x : PyData} {xs ys zs : List PyData} {st st1 st2 : Store} (h1 : f x st = .ok ys st1) (h2 : lcL f xs st1 = .ok zs st2) : lcL f (x :: xs) st = .ok (ys ++ zs) st2 := by
  unfold lcL
  simp only [h1, h2]
/-- a comprehension without a condition, nothing changed -/
theorem lcL_map {f : PyData → Store → Out (List PyData)} {g : PyData → PyData} {st : Store} : ∀ {xs : List PyData}, (∀ x ∈ xs, f x st = .ok [g x] st) → lcL f xs st = .ok (xs.map g) st
  | [], _ => rfl
  | x :: xs, h => lcL_cons (h x List.mem_cons_self) (lcL_map fun y hy => h y (List.mem_cons_of_mem _ hy))
/-- .. with a condition -/
theorem lcL_filter {f : PyData → Store → Out (List PyData)} {p : PyData → Bool} {g : PyData → PyData} {st : Store} : ∀ {xs : List PyData}, (∀ x ∈ xs, f x st = .ok (if p x = true then [g x] else []) st) → lcL f xs st = .ok ((xs.filter p).map g) st
  | [], _ => rfl
  | x :: xs, h => by
    rw [lcL_cons (h x List.mem_cons_self) (lcL_filter fun y hy => h y (List.mem_cons_of_mem _ hy))]
    by_cases q : p x = true
    · simp [q]
    · simp [q]
/-- .. over typed things -/
theorem lcL_mapT {α : Type} {f : PyData → Store → Out (List PyData)} {g : α → PyData} {e : α → PyData} {st : Store} {xs : List α} (h : ∀ x ∈ xs, f (e x) st = .ok [g x] st) : lcL f (xs.map e) st = .ok (xs.map g) st := by
  induction xs with
  | nil => rfl
  | cons x xs ih =>
    exact lcL_cons (h x List.mem_cons_self) (ih fun y hy => h y (List.mem_cons_of_mem _ hy))
theorem lcL_filterT {α : Type} {f : PyData → Store → Out (List PyData)} {p : α → Bool} {g : α → PyData} {e : α → PyData} {st : Store} {xs : List α} (h : ∀ x ∈ xs, f (e x) st = .ok (if p x = true then [g x] else []) st) : lcL f (xs.map e) st = .ok ((xs.filter p).map g) st := by
  induction xs with
  | nil => rfl
  | cons x xs ih =>
    rw [List.map_cons, lcL_cons (h x List.mem_cons_self) (ih fun y hy => h y (List.mem_cons_of_mem _ hy))]
    by_cases q : p x = true
    · simp [q]
    · simp [q]
/-- .. the store changes, an invariant stays -/
theorem lcL_inv {α : Type} {f : PyData → Store → Out (List PyData)} {I : Store → Prop} {Q : α → Prop} {e : α → PyData} : ∀ {xs : List PyData} {st : Store}, I st → (∀ x ∈ xs, ∀ st, I st → ∃ y st', f x st = .ok [e y] st' ∧ Q y ∧ I st') →
    ∃ (ys : List α) (st' : Store), lcL f xs st = .ok (ys.map e) st' ∧ ys.length = xs.length ∧ (∀ y ∈ ys, Q y) ∧ I st'
  | [], st, i, _ => ⟨[], st, rfl, rfl, fun _ h => (nomatch h), i⟩
  | x :: xs, st, i, h => by
    obtain ⟨y, st1, e1, q1, i1⟩ := h x List.mem_cons_self st i
    obtain ⟨ys, st2, e2, l2, q2, i2⟩ := lcL_inv i1 fun z hz => h z (List.mem_cons_of_mem _ hz)
    refine ⟨y :: ys, st2, ?_, by simp [l2], fun z hz => ?_, i2⟩
    · exact lcL_cons e1 e2
    · rcases List.mem_cons.mp hz with rfl | hz
      · exact q1
      · exact q2 z hz
theorem okLen_of {n : Nat} (h : n ≤ 16777216) : okLen n = true := by
  unfold okLen
  rw [sizeLine_eq]
  exact decide_eq_true h
@[simp] theorem okLen_1000 {n : Nat} : (okLen n = true) = (n ≤ 16777216) := by
  unfold okLen
  rw [sizeLine_eq, decide_eq_true_eq]
end
end Pl

set_option maxHeartbeats 1000000
/-! Q2: operations upon data: rules for simp. -/
namespace Pl
open PySem Pm

/-! ### comparisons -/
section
variable {i j : Int} {a b : Bool} {x y : Str} {xs ys : List PyData}
@[simp] theorem cmp_lt : cmpD .lt (.int i) (.int j) = some (decide (i < j)) := rfl
@[simp] theorem cmp_le : cmpD .le (.int i) (.int j) = some (decide (i ≤ j)) := rfl
@[simp] theorem cmp_gt : cmpD .gt (.int i) (.int j) = some (decide (j < i)) := rfl
@[simp] theorem cmp_ge : cmpD .ge (.int i) (.int j) = some (decide (j ≤ i)) := rfl
theorem sh_str (h : PyData.strOk x = true) : SeqAt.shaped (.str x) = true := by simp [SeqAt.shaped, PyData.canLay0, PyData.depth, h]
theorem cmp_eq {a b : PyData} (h1 : SeqAt.shaped a = true) (h2 : SeqAt.shaped b = true) : cmpD .eq a b = some (PyData.eqv a b) := by
  show (if (SeqAt.shaped a && SeqAt.shaped b) = true then _ else _) = _
  rw [h1, h2]
  rfl
theorem cmp_ne {a b : PyData} (h1 : SeqAt.shaped a = true) (h2 : SeqAt.shaped b = true) : cmpD .ne a b = some (!PyData.eqv a b) := by
  show (if (SeqAt.shaped a && SeqAt.shaped b) = true then _ else _) = _
  rw [h1, h2]
  rfl
@[simp] theorem eqv_int : PyData.eqv (.int i) (.int j) = (i == j) := by rw [PyData.eqv]
@[simp] theorem eqv_str : PyData.eqv (.str x) (.str y) = (x == y) := by rw [PyData.eqv]
@[simp] theorem eqv_bool : PyData.eqv (.bool a) (.bool b) = (a == b) := by rw [PyData.eqv]
@[simp] theorem cmp_eq_int : cmpD .eq (.int i) (.int j) = some (i == j) := by rw [cmp_eq rfl rfl, eqv_int]
@[simp] theorem cmp_ne_int : cmpD .ne (.int i) (.int j) = some (!(i == j)) := by rw [cmp_ne rfl rfl, eqv_int]
@[simp] theorem cmp_eq_str (hx : PyData.strOk x = true) (hy : PyData.strOk y = true) : cmpD .eq (.str x) (.str y) = some (x == y) := by rw [cmp_eq (sh_str hx) (sh_str hy), eqv_str]
@[simp] theorem cmp_ne_str (hx : PyData.strOk x = true) (hy : PyData.strOk y = true) : cmpD .ne (.str x) (.str y) = some (!(x == y)) := by rw [cmp_ne (sh_str hx) (sh_str hy), eqv_str]
@[simp] theorem cmp_eq_bool : cmpD .eq (.bool a) (.bool b) = some (a == b) := by rw [cmp_eq rfl rfl, eqv_bool]
@[simp] theorem cmp_ne_bool : cmpD .ne (.bool a) (.bool b) = some (!(a == b)) := by rw [cmp_ne rfl rfl, eqv_bool]
/-- x in a few texts -/
theorem in_strs {zs : List Str} : inD (.str x) (zs.map .str) = some (zs.any fun y => y == x) := by
  unfold inD
  have h : (flatD (.str x) && (zs.map PyData.str).all flatD) = true := by
    rw [Bool.and_eq_true]
    refine ⟨rfl, List.all_eq_true.mpr fun y hy => ?_⟩
    obtain ⟨z, _, rfl⟩ := List.mem_map.mp hy
    rfl
  rw [if_pos h, List.any_map]
  exact congrArg some (congrArg _ (funext fun y => eqv_str))
theorem cmp_in_list {zs : List Str} : cmpD .inn (.str x) (.list (zs.map .str)) = some (zs.any fun y => y == x) := in_strs
theorem cmp_in_tup {zs : List Str} : cmpD .inn (.str x) (.tuple (zs.map .str)) = some (zs.any fun y => y == x) := by
  show (if (flatD (.str x) && (zs.map PyData.str).all flatD) = true then _ else _) = _
  have h : (flatD (.str x) && (zs.map PyData.str).all flatD) = true := by
    rw [Bool.and_eq_true]
    refine ⟨rfl, List.all_eq_true.mpr fun y hy => ?_⟩
    obtain ⟨z, _, rfl⟩ := List.mem_map.mp hy
    rfl
  rw [if_pos h, List.any_map]
  exact congrArg some (congrArg _ (funext fun y => eqv_str))
@[simp] theorem cmp_in_list2 {z1 z2 : Str} : cmpD .inn (.str x) (.list [.str z1, .str z2]) = some (z1 == x || z2 == x) := by
  have := cmp_in_list (x := x) (zs := [z1, z2])
  simpa using this
@[simp] theorem cmp_in_tup3 {z1 z2 z3 : Str} : cmpD .inn (.str x) (.tuple [.str z1, .str z2, .str z3]) = some (z1 == x || (z2 == x || z3 == x)) := by
  have := cmp_in_tup (x := x) (zs := [z1, z2, z3])
  simpa using this

/-! ### items -/
@[simp] theorem idx_list : idxD (.list xs) (.int i) = atD xs i := rfl
@[simp] theorem idx_tup : idxD (.tuple xs) (.int i) = atD xs i := rfl
theorem at_nn (h : 0 ≤ i) : atD xs i = xs[i.toNat]? := by
  unfold atD L2.atI L2.ixN
  rw [if_pos h]
  by_cases q : i < xs.length
  · rw [if_pos q]; rfl
  · rw [if_neg q]
    exact (List.getElem?_eq_none (by omega)).symm
@[simp] theorem at_0 : atD xs 0 = xs[0]? := at_nn (by decide)
@[simp] theorem at_1 : atD xs 1 = xs[1]? := at_nn (by decide)
@[simp] theorem at_2 : atD xs 2 = xs[2]? := at_nn (by decide)
@[simp] theorem at_3 : atD xs 3 = xs[3]? := at_nn (by decide)
theorem at_nat {n : Nat} : atD xs (n : Int) = xs[n]? := by
  rw [at_nn (Int.natCast_nonneg n), Int.toNat_natCast]
@[simp] theorem at_last : atD xs (-1) = xs.getLast? := by
  unfold atD L2.atI L2.ixN
  rw [if_neg (by decide), List.getLast?_eq_getElem?]
  cases xs with
  | nil => rfl
  | cons x xs =>
    have h1 : -((x :: xs).length : Int) ≤ -1 := by simp; omega
    rw [if_pos h1]
    have h2 : (-1 + ((x :: xs).length : Int)).toNat = (x :: xs).length - 1 := by simp; omega
    rw [h2]
    rfl
/-! ### slices -/
theorem cut_from {n : Nat} (h : i = n) : cutD xs (some i) none = xs.drop n := by
  subst h
  unfold cutD
  have e1 : HT.sIx xs.length 0 (some (n : Int)) = min n xs.length := by
    show (if (n : Int) < 0 then ((n : Int) + (xs.length : Int)).toNat else min (n : Int).toNat xs.length) = _
    rw [if_neg (by omega), Int.toNat_natCast]
  have e2 : HT.sIx xs.length xs.length none = xs.length := rfl
  rw [e1, e2]
  by_cases q : n ≤ xs.length
  · rw [Nat.min_eq_left q]
    exact List.take_of_length_le (by rw [List.length_drop]; exact Nat.le_refl _)
  · rw [Nat.min_eq_right (by omega), List.drop_length, List.drop_eq_nil_of_le (by omega), List.take_nil]
theorem cut_to {n : Nat} (h : i = n) : cutD xs none (some i) = xs.take n := by
  subst h
  unfold cutD
  have e1 : HT.sIx xs.length xs.length (some (n : Int)) = min n xs.length := by
    show (if (n : Int) < 0 then ((n : Int) + (xs.length : Int)).toNat else min (n : Int).toNat xs.length) = _
    rw [if_neg (by omega), Int.toNat_natCast]
  have e2 : HT.sIx xs.length 0 none = 0 := rfl
  rw [e1, e2, List.drop_zero, Nat.sub_zero]
  by_cases q : n ≤ xs.length
  · rw [Nat.min_eq_left q]
  · rw [Nat.min_eq_right (by omega), List.take_length, List.take_of_length_le (by omega)]
@[simp] theorem cut_1 : cutD xs (some 1) none = xs.drop 1 := cut_from rfl
@[simp] theorem cut_3 : cutD xs none (some 3) = xs.take 3 := cut_to rfl
@[simp] theorem cut_last : cutD xs none (some (-1)) = xs.dropLast := by
  unfold cutD
  have e1 : HT.sIx xs.length xs.length (some (-1)) = xs.length - 1 := by
    show (if (-1 : Int) < 0 then (-1 + (xs.length : Int)).toNat else min (-1 : Int).toNat xs.length) = _
    rw [if_pos (by decide)]
    omega
  have e2 : HT.sIx xs.length 0 none = 0 := rfl
  rw [e1, e2, List.drop_zero, Nat.sub_zero, List.dropLast_eq_take]
@[simp] theorem sl_list {lo hi : Option Int} : slD (.list xs) lo hi = some (.list (cutD xs lo hi)) := rfl
@[simp] theorem sl_tup {lo hi : Option Int} : slD (.tuple xs) lo hi = some (.tuple (cutD xs lo hi)) := rfl

/-! ### arithmetic -/
@[simp] theorem bin_add : binD .add (.int i) (.int j) = some (.int (i + j)) := rfl
@[simp] theorem bin_sub : binD .sub (.int i) (.int j) = some (.int (i - j)) := rfl
theorem bin_addL (h : xs.length + ys.length ≤ 16777216) : binD .add (.list xs) (.list ys) = some (.list (xs ++ ys)) := by
  show (if okLen (xs.length + ys.length) = true then _ else _) = _
  rw [if_pos (okLen_of h)]
theorem bin_addT (h : xs.length + ys.length ≤ 16777216) : binD .add (.tuple xs) (.tuple ys) = some (.tuple (xs ++ ys)) := by
  show (if okLen (xs.length + ys.length) = true then _ else _) = _
  rw [if_pos (okLen_of h)]
theorem okMul_r (h1 : -(2 ^ 64) < j) (h2 : j < 2 ^ 64) : okMul i j = true := by
  unfold okMul
  rw [decide_eq_true h1, decide_eq_true h2]
  simp
theorem okMul_l (h1 : -(2 ^ 64) < i) (h2 : i < 2 ^ 64) : okMul i j = true := by
  unfold okMul
  rw [decide_eq_true h1, decide_eq_true h2]
  simp
theorem bin_mul (h : okMul i j = true) : binD .mul (.int i) (.int j) = some (.int (i * j)) := by
  show (if okMul i j = true then _ else _) = _
  rw [if_pos h]
theorem bin_mulr (h1 : -(2 ^ 64) < j) (h2 : j < 2 ^ 64) : binD .mul (.int i) (.int j) = some (.int (i * j)) := bin_mul (okMul_r h1 h2)
theorem bin_mod (h : 0 < j) : binD .mod (.int i) (.int j) = some (.int (i % j)) := by
  show (if 0 < j then _ else _) = _
  rw [if_pos h]
theorem bin_fdiv (h : 0 < j) (h2 : j < 1073741824) : binD .fdiv (.int i) (.int j) = some (.int (i / j)) := by
  show (if okDiv j = true then _ else _) = _
  rw [if_pos (by unfold okDiv; rw [decide_eq_true h, decide_eq_true h2]; rfl)]
/-! ### built-in functions -/
@[simp] theorem len_list : bltD .len [.list xs] = some (.int xs.length) := rfl
@[simp] theorem len_tup : bltD .len [.tuple xs] = some (.int xs.length) := rfl
@[simp] theorem int_int : bltD .int [.int i] = some (.int i) := rfl
@[simp] theorem int_bool : bltD .int [.bool a] = some (.int (if a then 1 else 0)) := rfl
@[simp] theorem min_int : bltD .min [.int i, .int j] = some (.int (if j < i then j else i)) := rfl
@[simp] theorem max_int : bltD .max [.int i, .int j] = some (.int (if j > i then j else i)) := rfl
@[simp] theorem list_list : bltD .list [.list xs] = some (.list xs) := rfl
@[simp] theorem list_tup : bltD .list [.tuple xs] = some (.list xs) := rfl
@[simp] theorem tuple_list : bltD .tuple [.list xs] = some (.tuple xs) := rfl
@[simp] theorem tuple_tup : bltD .tuple [.tuple xs] = some (.tuple xs) := rfl
theorem ints_map {α : Type} {f : α → Int} : ∀ l : List α, intsD (l.map fun x => .int (f x)) = some (l.map f)
  | [] => rfl
  | x :: l => by
    show (intsD (l.map fun x => .int (f x))).map (f x :: ·) = _
    rw [ints_map l]
    rfl
theorem bools_map {α : Type} {f : α → Bool} : ∀ l : List α, boolsD (l.map fun x => .bool (f x)) = some (l.map f)
  | [] => rfl
  | x :: l => by
    show (boolsD (l.map fun x => .bool (f x))).map (f x :: ·) = _
    rw [bools_map l]
    rfl
theorem all_map {α : Type} {f : α → Bool} (l : List α) : bltD .all [.list (l.map fun x => .bool (f x))] = some (.bool (l.all f)) := by
  show (boolsD (l.map fun x => .bool (f x))).map (fun bs => PyData.bool (bs.all id)) = _
  rw [bools_map, Option.map_some, List.all_map]
  rfl
theorem any_map {α : Type} {f : α → Bool} (l : List α) : bltD .any [.list (l.map fun x => .bool (f x))] = some (.bool (l.any f)) := by
  show (boolsD (l.map fun x => .bool (f x))).map (fun bs => PyData.bool (bs.any id)) = _
  rw [bools_map, Option.map_some, List.any_map]
  rfl
theorem sum_map {α : Type} {f : α → Int} (l : List α) : bltD .sum [.list (l.map fun x => .int (f x))] = some (.int (l.map f).sum) := by
  show (intsD (l.map fun x => .int (f x))).map (fun ns => PyData.int ns.sum) = _
  rw [ints_map]
  rfl
/-! ### truth, tests -/
@[simp] theorem truth_bool : truth (.bool a) = some a := rfl
@[simp] theorem truth_int : truth (.int i) = some (i != 0) := rfl
@[simp] theorem truth_none : truth .none = some false := rfl
@[simp] theorem truth_list : truth (.list xs) = some (!xs.isEmpty) := rfl
@[simp] theorem truth_tup : truth (.tuple xs) = some (!xs.isEmpty) := rfl
@[simp] theorem isBool_bool : isBool (.bool a) = some a := rfl
@[simp] theorem partD_int' : partD (.int i) = some i := rfl
@[simp] theorem negD_int : negD (.int i) = some (.int (-i)) := rfl
@[simp] theorem strD_str : strD (.str x) = some x := rfl
@[simp] theorem seqD_list : seqD (.list xs) = some xs := rfl
@[simp] theorem seqD_tup : seqD (.tuple xs) = some xs := rfl
@[simp] theorem revD_list : revD (.list xs) = some (.list xs.reverse) := rfl
@[simp] theorem keyD_int : keyD (.int i) = some (.inl i) := rfl
@[simp] theorem keyD_str : keyD (.str x) = some (.inr x) := rfl
theorem rng1 (h0 : 0 ≤ i) (h : i < 2 ^ 62) : rng1D (.int i) = some ((List.range i.toNat).map fun (k : Nat) => .int (k : Int)) := by
  show (if okR i = true then some (rngL 0 i.toNat 1) else none) = _
  rw [if_pos (by unfold okR; rw [decide_eq_true (by omega), decide_eq_true h]; rfl)]
  unfold rngL
  congr 1
  refine List.map_congr_left fun k _ => ?_
  congr 1
  omega
theorem lrng (h0 : 0 ≤ i) (h : i ≤ 1000000) : lrngD (.int i) = some (.list ((List.range i.toNat).map fun (k : Nat) => .int (k : Int))) := by
  show (if (decide (0 ≤ i) && decide (i ≤ 1000000)) = true then some (PyData.list (rngL 0 i.toNat 1)) else none) = _
  rw [if_pos (by rw [decide_eq_true h0, decide_eq_true h]; rfl)]
  unfold rngL
  congr 2
  refine List.map_congr_left fun k _ => ?_
  congr 1
  omega
end
/-! ### loops -/
section
variable {g : Tg} {f : Pm.Env → Store → Ou} {env : Pm.Env} {st : Store} {x : PyData} {xs : List PyData}
@[simp] theorem forL_nil : forL g f [] env st = .nxt env st := rfl
theorem forL_cons : forL g f (x :: xs) env st = match setG g x env with
    | some env1 => (match f env1 st with
      | .nxt env2 st2 => forL g f xs env2 st2
      | .cnt env2 st2 => forL g f xs env2 st2
      | .brk env2 st2 => .nxt env2 st2
      | o => o)
    | none => .no := rfl
@[simp] theorem setG_nm {i : Nat} : setG (.nm i) x env = some (env.set i (.dat x)) := by rw [setG]
end
@[simp] theorem endOf_ret {st0 st : Store} {d : PyData} : endOf st0 (.ret d st) = .ok d (st.take st0.length) := rfl
@[simp] theorem endOf_nxt {st0 st : Store} {env : Pm.Env} : endOf st0 (.nxt env st) = .ok .none (st.take st0.length) := rfl
@[simp] theorem endOf_ex {st0 st : Store} {env : Pm.Env} {x : Str} : endOf st0 (.ex x env st) = .ex x (st.take st0.length) := rfl
theorem runDef_eq {Fn : Fs} {wf : Nat} {d : Def} {as : List Pm.Arg} {st : Store} (h : as.length = d.ps) : runDef Fn wf d as st = ex Fn wf d.body (startE d as) st := if_pos h
end Pl

/-! Qw: the words, told apart (printed by gen_words.py). -/
namespace Pl
open PySem Pm
@[simp] theorem ok_on : PyData.strOk (Str.ofString "on") = true := by decide +kernel
@[simp] theorem ok_off : PyData.strOk (Str.ofString "off") = true := by decide +kernel
@[simp] theorem ok_like : PyData.strOk (Str.ofString "like") = true := by decide +kernel
@[simp] theorem ok_unlike : PyData.strOk (Str.ofString "unlike") = true := by decide +kernel
@[simp] theorem ok_both : PyData.strOk (Str.ofString "both") = true := by decide +kernel
@[simp] theorem ok_notboth : PyData.strOk (Str.ofString "notboth") = true := by decide +kernel
@[simp] theorem ok_sure : PyData.strOk (Str.ofString "sure") = true := by decide +kernel
@[simp] theorem ok_never : PyData.strOk (Str.ofString "never") = true := by decide +kernel
@[simp] theorem ok_open : PyData.strOk (Str.ofString "open") = true := by decide +kernel
@[simp] theorem ok_none : PyData.strOk (Str.ofString "none") = true := by decide +kernel
@[simp] theorem ok_yes : PyData.strOk (Str.ofString "yes") = true := by decide +kernel
@[simp] theorem ok_no : PyData.strOk (Str.ofString "no") = true := by decide +kernel
@[simp] theorem ok_sum : PyData.strOk (Str.ofString "sum") = true := by decide +kernel
@[simp] theorem ok_ways : PyData.strOk (Str.ofString "ways") = true := by decide +kernel
@[simp] theorem ne_on_off : (Str.ofString "on" == Str.ofString "off") = false := by decide +kernel
@[simp] theorem ne_on_like : (Str.ofString "on" == Str.ofString "like") = false := by decide +kernel
@[simp] theorem ne_on_unlike : (Str.ofString "on" == Str.ofString "unlike") = false := by decide +kernel
@[simp] theorem ne_on_both : (Str.ofString "on" == Str.ofString "both") = false := by decide +kernel
@[simp] theorem ne_on_notboth : (Str.ofString "on" == Str.ofString "notboth") = false := by decide +kernel
@[simp] theorem ne_on_sure : (Str.ofString "on" == Str.ofString "sure") = false := by decide +kernel
@[simp] theorem ne_on_never : (Str.ofString "on" == Str.ofString "never") = false := by decide +kernel
@[simp] theorem ne_on_open : (Str.ofString "on" == Str.ofString "open") = false := by decide +kernel
@[simp] theorem ne_on_none : (Str.ofString "on" == Str.ofString "none") = false := by decide +kernel
@[simp] theorem ne_on_yes : (Str.ofString "on" == Str.ofString "yes") = false := by decide +kernel
@[simp] theorem ne_on_no : (Str.ofString "on" == Str.ofString "no") = false := by decide +kernel
@[simp] theorem ne_on_sum : (Str.ofString "on" == Str.ofString "sum") = false := by decide +kernel
@[simp] theorem ne_on_ways : (Str.ofString "on" == Str.ofString "ways") = false := by decide +kernel
@[simp] theorem ne_off_on : (Str.ofString "off" == Str.ofString "on") = false := by decide +kernel
@[simp] theorem ne_off_like : (Str.ofString "off" == Str.ofString "like") = false := by decide +kernel
@[simp] theorem ne_off_unlike : (Str.ofString "off" == Str.ofString "unlike") = false := by decide +kernel
@[simp] theorem ne_off_both : (Str.ofString "off" == Str.ofString "both") = false := by decide +kernel
@[simp] theorem ne_off_notboth : (Str.ofString "off" == Str.ofString "notboth") = false := by decide +kernel
@[simp] theorem ne_off_sure : (Str.ofString "off" == Str.ofString "sure") = false := by decide +kernel
@[simp] theorem ne_off_never : (Str.ofString "off" == Str.ofString "never") = false := by decide +kernel
@[simp] theorem ne_off_open : (Str.ofString "off" == Str.ofString "open") = false := by decide +kernel
@[simp] theorem ne_off_none : (Str.ofString "off" == Str.ofString "none") = false := by decide +kernel
@[simp] theorem ne_off_yes : (Str.ofString "off" == Str.ofString "yes") = false := by decide +kernel
@[simp] theorem ne_off_no : (Str.ofString "off" == Str.ofString "no") = false := by decide +kernel
@[simp] theorem ne_off_sum : (Str.ofString "off" == Str.ofString "sum") = false := by decide +kernel
@[simp] theorem ne_off_ways : (Str.ofString "off" == Str.ofString "ways") = false := by decide +kernel
@[simp] theorem ne_like_on : (Str.ofString "like" == Str.ofString "on") = false := by decide +kernel
@[simp] theorem ne_like_off : (Str.ofString "like" == Str.ofString "off") = false := by decide +kernel
@[simp] theorem ne_like_unlike : (Str.ofString "like" == Str.ofString "unlike") = false := by decide +kernel
@[simp] theorem ne_like_both : (Str.ofString "like" == Str.ofString "both") = false := by decide +kernel
@[simp] theorem ne_like_notboth : (Str.ofString "like" == Str.ofString "notboth") = false := by decide +kernel
@[simp] theorem ne_like_sure : (Str.ofString "like" == Str.ofString "sure") = false := by decide +kernel
@[simp] theorem ne_like_never : (Str.ofString "like" == Str.ofString "never") = false := by decide +kernel
@[simp] theorem ne_like_open : (Str.ofString "like" == Str.ofString "open") = false := by decide +kernel
@[simp] theorem ne_like_none : (Str.ofString "like" == Str.ofString "none") = false := by decide +kernel
@[simp] theorem ne_like_yes : (Str.ofString "like" == Str.ofString "yes") = false := by decide +kernel
@[simp] theorem ne_like_no : (Str.ofString "like" == Str.ofString "no") = false := by decide +kernel
@[simp] theorem ne_like_sum : (Str.ofString "like" == Str.ofString "sum") = false := by decide +kernel
@[simp] theorem ne_like_ways : (Str.ofString "like" == Str.ofString "ways") = false := by decide +kernel
@[simp] theorem ne_unlike_on : (Str.ofString "unlike" == Str.ofString "on") = false := by decide +kernel
@[simp] theorem ne_unlike_off : (Str.ofString "unlike" == Str.ofString "off") = false := by decide +kernel
@[simp] theorem ne_unlike_like : (Str.ofString "unlike" == Str.ofString "like") = false := by decide +kernel
@[simp] theorem ne_unlike_both : (Str.ofString "unlike" == Str.ofString "both") = false := by decide +kernel
@[simp] theorem ne_unlike_notboth : (Str.ofString "unlike" == Str.ofString "notboth") = false := by decide +kernel
@[simp] theorem ne_unlike_sure : (Str.ofString "unlike" == Str.ofString "sure") = false := by decide +kernel
@[simp] theorem ne_unlike_never : (Str.ofString "unlike" == Str.ofString "never") = false := by decide +kernel
@[simp] theorem ne_unlike_open : (Str.ofString "unlike" == Str.ofString "open") = false := by decide +kernel
@[simp] theorem ne_unlike_none : (Str.ofString "unlike" == Str.ofString "none") = false := by decide +kernel
@[simp] theorem ne_unlike_yes : (Str.ofString "unlike" == Str.ofString "yes") = false := by decide +kernel
@[simp] theorem ne_unlike_no : (Str.ofString "unlike" == Str.ofString "no") = false := by decide +kernel
@[simp] theorem ne_unlike_sum : (Str.ofString "unlike" == Str.ofString "sum") = false := by decide +kernel
@[simp] theorem ne_unlike_ways : (Str.ofString "unlike" == Str.ofString "ways") = false := by decide +kernel
@[simp] theorem ne_both_on : (Str.ofString "both" == Str.ofString "on") = false := by decide +kernel
@[simp] theorem ne_both_off : (Str.ofString "both" == Str.ofString "off") = false := by decide +kernel
@[simp] theorem ne_both_like : (Str.ofString "both" == Str.ofString "like") = false := by decide +kernel
@[simp] theorem ne_both_unlike : (Str.ofString "both" == Str.ofString "unlike") = false := by decide +kernel
@[simp] theorem ne_both_notboth : (Str.ofString "both" == Str.ofString "notboth") = false := by decide +kernel
@[simp] theorem ne_both_sure : (Str.ofString "both" == Str.ofString "sure") = false := by decide +kernel
@[simp] theorem ne_both_never : (Str.ofString "both" == Str.ofString "never") = false := by decide +kernel
@[simp] theorem ne_both_open : (Str.ofString "both" == Str.ofString "open") = false := by decide +kernel
@[simp] theorem ne_both_none : (Str.ofString "both" == Str.ofString "none") = false := by decide +kernel
@[simp] theorem ne_both_yes : (Str.ofString "both" == Str.ofString "yes") = false := by decide +kernel
@[simp] theorem ne_both_no : (Str.ofString "both" == Str.ofString "no") = false := by decide +kernel
@[simp] theorem ne_both_sum : (Str.ofString "both" == Str.ofString "sum") = false := by decide +kernel
@[simp] theorem ne_both_ways : (Str.ofString "both" == Str.ofString "ways") = false := by decide +kernel
@[simp] theorem ne_notboth_on : (Str.ofString "notboth" == Str.ofString "on") = false := by decide +kernel
@[simp] theorem ne_notboth_off : (Str.ofString "notboth" == Str.ofString "off") = false := by decide +kernel
@[simp] theorem ne_notboth_like : (Str.ofString "notboth" == Str.ofString "like") = false := by decide +kernel
@[simp] theorem ne_notboth_unlike : (Str.ofString "notboth" == Str.ofString "unlike") = false := by decide +kernel
@[simp] theorem ne_notboth_both : (Str.ofString "notboth" == Str.ofString "both") = false := by decide +kernel
@[simp] theorem ne_notboth_sure : (Str.ofString "notboth" == Str.ofString "sure") = false := by decide +kernel
@[simp] theorem ne_notboth_never : (Str.ofString "notboth" == Str.ofString "never") = false := by decide +kernel
@[simp] theorem ne_notboth_open : (Str.ofString "notboth" == Str.ofString "open") = false := by decide +kernel
@[simp] theorem ne_notboth_none : (Str.ofString "notboth" == Str.ofString "none") = false := by decide +kernel
@[simp] theorem ne_notboth_yes : (Str.ofString "notboth" == Str.ofString "yes") = false := by decide +kernel
@[simp] theorem ne_notboth_no : (Str.ofString "notboth" == Str.ofString "no") = false := by decide +kernel
@[simp] theorem ne_notboth_sum : (Str.ofString "notboth" == Str.ofString "sum") = false := by decide +kernel
@[simp] theorem ne_notboth_ways : (Str.ofString "notboth" == Str.ofString "ways") = false := by decide +kernel
@[simp] theorem ne_sure_on : (Str.ofString "sure" == Str.ofString "on") = false := by decide +kernel
@[simp] theorem ne_sure_off : (Str.ofString "sure" == Str.ofString "off") = false := by decide +kernel
@[simp] theorem ne_sure_like : (Str.ofString "sure" == Str.ofString "like") = false := by decide +kernel
@[simp] theorem ne_sure_unlike : (Str.ofString "sure" == Str.ofString "unlike") = false := by decide +kernel
@[simp] theorem ne_sure_both : (Str.ofString "sure" == Str.ofString "both") = false := by decide +kernel
@[simp] theorem ne_sure_notboth : (Str.ofString "sure" == Str.ofString "notboth") = false := by decide +kernel
@[simp] theorem ne_sure_never : (Str.ofString "sure" == Str.ofString "never") = false := by decide +kernel
@[simp] theorem ne_sure_open : (Str.ofString "sure" == Str.ofString "open") = false := by decide +kernel
@[simp] theorem ne_sure_none : (Str.ofString "sure" == Str.ofString "none") = false := by decide +kernel
@[simp] theorem ne_sure_yes : (Str.ofString "sure" == Str.ofString "yes") = false := by decide +kernel
@[simp] theorem ne_sure_no : (Str.ofString "sure" == Str.ofString "no") = false := by decide +kernel
@[simp] theorem ne_sure_sum : (Str.ofString "sure" == Str.ofString "sum") = false := by decide +kernel
@[simp] theorem ne_sure_ways : (Str.ofString "sure" == Str.ofString "ways") = false := by decide +kernel
@[simp] theorem ne_never_on : (Str.ofString "never" == Str.ofString "on") = false := by decide +kernel
@[simp] theorem ne_never_off : (Str.ofString "never" == Str.ofString "off") = false := by decide +kernel
@[simp] theorem ne_never_like : (Str.ofString "never" == Str.ofString "like") = false := by decide +kernel
@[simp] theorem ne_never_unlike : (Str.ofString "never" == Str.ofString "unlike") = false := by decide +kernel
@[simp] theorem ne_never_both : (Str.ofString "never" == Str.ofString "both") = false := by decide +kernel
@[simp] theorem ne_never_notboth : (Str.ofString "never" == Str.ofString "notboth") = false := by decide +kernel
@[simp] theorem ne_never_sure : (Str.ofString "never" == Str.ofString "sure") = false := by decide +kernel
@[simp] theorem ne_never_open : (Str.ofString "never" == Str.ofString "open") = false := by decide +kernel
@[simp] theorem ne_never_none : (Str.ofString "never" == Str.ofString "none") = false := by decide +kernel
@[simp] theorem ne_never_yes : (Str.ofString "never" == Str.ofString "yes") = false := by decide +kernel
@[simp] theorem ne_never_no : (Str.ofString "never" == Str.ofString "no") = false := by decide +kernel
@[simp] theorem ne_never_sum : (Str.ofString "never" == Str.ofString "sum") = false := by decide +kernel
@[simp] theorem ne_never_ways : (Str.ofString "never" == Str.ofString "ways") = false := by decide +kernel
@[simp] theorem ne_open_on : (Str.ofString "open" == Str.ofString "on") = false := by decide +kernel
@[simp] theorem ne_open_off : (Str.ofString "open" == Str.ofString "off") = false := by decide +kernel
@[simp] theorem ne_open_like : (Str.ofString "open" == Str.ofString "like") = false := by decide +kernel
@[simp] theorem ne_open_unlike : (Str.ofString "open" == Str.ofString "unlike") = false := by decide +kernel
@[simp] theorem ne_open_both : (Str.ofString "open" == Str.ofString "both") = false := by decide +kernel
@[simp] theorem ne_open_notboth : (Str.ofString "open" == Str.ofString "notboth") = false := by decide +kernel
@[simp] theorem ne_open_sure : (Str.ofString "open" == Str.ofString "sure") = false := by decide +kernel
@[simp] theorem ne_open_never : (Str.ofString "open" == Str.ofString "never") = false := by decide +kernel
@[simp] theorem ne_open_none : (Str.ofString "open" == Str.ofString "none") = false := by decide +kernel
@[simp] theorem ne_open_yes : (Str.ofString "open" == Str.ofString "yes") = false := by decide +kernel
@[simp] theorem ne_open_no : (Str.ofString "open" == Str.ofString "no") = false := by decide +kernel
@[simp] theorem ne_open_sum : (Str.ofString "open" == Str.ofString "sum") = false := by decide +kernel
@[simp] theorem ne_open_ways : (Str.ofString "open" == Str.ofString "ways") = false := by decide +kernel
@[simp] theorem ne_none_on : (Str.ofString "none" == Str.ofString "on") = false := by decide +kernel
@[simp] theorem ne_none_off : (Str.ofString "none" == Str.ofString "off") = false := by decide +kernel
@[simp] theorem ne_none_like : (Str.ofString "none" == Str.ofString "like") = false := by decide +kernel
@[simp] theorem ne_none_unlike : (Str.ofString "none" == Str.ofString "unlike") = false := by decide +kernel
@[simp] theorem ne_none_both : (Str.ofString "none" == Str.ofString "both") = false := by decide +kernel
@[simp] theorem ne_none_notboth : (Str.ofString "none" == Str.ofString "notboth") = false := by decide +kernel
@[simp] theorem ne_none_sure : (Str.ofString "none" == Str.ofString "sure") = false := by decide +kernel
@[simp] theorem ne_none_never : (Str.ofString "none" == Str.ofString "never") = false := by decide +kernel
@[simp] theorem ne_none_open : (Str.ofString "none" == Str.ofString "open") = false := by decide +kernel
@[simp] theorem ne_none_yes : (Str.ofString "none" == Str.ofString "yes") = false := by decide +kernel
@[simp] theorem ne_none_no : (Str.ofString "none" == Str.ofString "no") = false := by decide +kernel
@[simp] theorem ne_none_sum : (Str.ofString "none" == Str.ofString "sum") = false := by decide +kernel
@[simp] theorem ne_none_ways : (Str.ofString "none" == Str.ofString "ways") = false := by decide +kernel
@[simp] theorem ne_yes_on : (Str.ofString "yes" == Str.ofString "on") = false := by decide +kernel
@[simp] theorem ne_yes_off : (Str.ofString "yes" == Str.ofString "off") = false := by decide +kernel
@[simp] theorem ne_yes_like : (Str.ofString "yes" == Str.ofString "like") = false := by decide +kernel
@[simp] theorem ne_yes_unlike : (Str.ofString "yes" == Str.ofString "unlike") = false := by decide +kernel
@[simp] theorem ne_yes_both : (Str.ofString "yes" == Str.ofString "both") = false := by decide +kernel
@[simp] theorem ne_yes_notboth : (Str.ofString "yes" == Str.ofString "notboth") = false := by decide +kernel
@[simp] theorem ne_yes_sure : (Str.ofString "yes" == Str.ofString "sure") = false := by decide +kernel
@[simp] theorem ne_yes_never : (Str.ofString "yes" == Str.ofString "never") = false := by decide +kernel
@[simp] theorem ne_yes_open : (Str.ofString "yes" == Str.ofString "open") = false := by decide +kernel
@[simp] theorem ne_yes_none : (Str.ofString "yes" == Str.ofString "none") = false := by decide +kernel
@[simp] theorem ne_yes_no : (Str.ofString "yes" == Str.ofString "no") = false := by decide +kernel
@[simp] theorem ne_yes_sum : (Str.ofString "yes" == Str.ofString "sum") = false := by decide +kernel
@[simp] theorem ne_yes_ways : (Str.ofString "yes" == Str.ofString "ways") = false := by decide +kernel
@[simp] theorem ne_no_on : (Str.ofString "no" == Str.ofString "on") = false := by decide +kernel
@[simp] theorem ne_no_off : (Str.ofString "no" == Str.ofString "off") = false := by decide +kernel
@[simp] theorem ne_no_like : (Str.ofString "no" == Str.ofString "like") = false := by decide +kernel
@[simp] theorem ne_no_unlike : (Str.ofString "no" == Str.ofString "unlike") = false := by decide +kernel
@[simp] theorem ne_no_both : (Str.ofString "no" == Str.ofString "both") = false := by decide +kernel
@[simp] theorem ne_no_notboth : (Str.ofString "no" == Str.ofString "notboth") = false := by decide +kernel
@[simp] theorem ne_no_sure : (Str.ofString "no" == Str.ofString "sure") = false := by decide +kernel
@[simp] theorem ne_no_never : (Str.ofString "no" == Str.ofString "never") = false := by decide +kernel
@[simp] theorem ne_no_open : (Str.ofString "no" == Str.ofString "open") = false := by decide +kernel
@[simp] theorem ne_no_none : (Str.ofString "no" == Str.ofString "none") = false := by decide +kernel
@[simp] theorem ne_no_yes : (Str.ofString "no" == Str.ofString "yes") = false := by decide +kernel
@[simp] theorem ne_no_sum : (Str.ofString "no" == Str.ofString "sum") = false := by decide +kernel
@[simp] theorem ne_no_ways : (Str.ofString "no" == Str.ofString "ways") = false := by decide +kernel
@[simp] theorem ne_sum_on : (Str.ofString "sum" == Str.ofString "on") = false := by decide +kernel
@[simp] theorem ne_sum_off : (Str.ofString "sum" == Str.ofString "off") = false := by decide +kernel
@[simp] theorem ne_sum_like : (Str.ofString "sum" == Str.ofString "like") = false := by decide +kernel
@[simp] theorem ne_sum_unlike : (Str.ofString "sum" == Str.ofString "unlike") = false := by decide +kernel
@[simp] theorem ne_sum_both : (Str.ofString "sum" == Str.ofString "both") = false := by decide +kernel
@[simp] theorem ne_sum_notboth : (Str.ofString "sum" == Str.ofString "notboth") = false := by decide +kernel
@[simp] theorem ne_sum_sure : (Str.ofString "sum" == Str.ofString "sure") = false := by decide +kernel
@[simp] theorem ne_sum_never : (Str.ofString "sum" == Str.ofString "never") = false := by decide +kernel
@[simp] theorem ne_sum_open : (Str.ofString "sum" == Str.ofString "open") = false := by decide +kernel
@[simp] theorem ne_sum_none : (Str.ofString "sum" == Str.ofString "none") = false := by decide +kernel
@[simp] theorem ne_sum_yes : (Str.ofString "sum" == Str.ofString "yes") = false := by decide +kernel
@[simp] theorem ne_sum_no : (Str.ofString "sum" == Str.ofString "no") = false := by decide +kernel
@[simp] theorem ne_sum_ways : (Str.ofString "sum" == Str.ofString "ways") = false := by decide +kernel
@[simp] theorem ne_ways_on : (Str.ofString "ways" == Str.ofString "on") = false := by decide +kernel
@[simp] theorem ne_ways_off : (Str.ofString "ways" == Str.ofString "off") = false := by decide +kernel
@[simp] theorem ne_ways_like : (Str.ofString "ways" == Str.ofString "like") = false := by decide +kernel
@[simp] theorem ne_ways_unlike : (Str.ofString "ways" == Str.ofString "unlike") = false := by decide +kernel
@[simp] theorem ne_ways_both : (Str.ofString "ways" == Str.ofString "both") = false := by decide +kernel
@[simp] theorem ne_ways_notboth : (Str.ofString "ways" == Str.ofString "notboth") = false := by decide +kernel
@[simp] theorem ne_ways_sure : (Str.ofString "ways" == Str.ofString "sure") = false := by decide +kernel
@[simp] theorem ne_ways_never : (Str.ofString "ways" == Str.ofString "never") = false := by decide +kernel
@[simp] theorem ne_ways_open : (Str.ofString "ways" == Str.ofString "open") = false := by decide +kernel
@[simp] theorem ne_ways_none : (Str.ofString "ways" == Str.ofString "none") = false := by decide +kernel
@[simp] theorem ne_ways_yes : (Str.ofString "ways" == Str.ofString "yes") = false := by decide +kernel
@[simp] theorem ne_ways_no : (Str.ofString "ways" == Str.ofString "no") = false := by decide +kernel
@[simp] theorem ne_ways_sum : (Str.ofString "ways" == Str.ofString "sum") = false := by decide +kernel
end Pl

set_option maxHeartbeats 1000000
/-! Q3: draws. -/
namespace Pl
open PySem Pm
/-- the draws' state -/
def DrawSt (st : Store) : Prop := ∃ (ns : List Int) (i c x : Int), st = [.ml [.list (ns.map .int), .int i, .int c, .int x]] ∧ 0 ≤ i ∧ 0 ≤ c
theorem DrawSt.start (ns : List Int) : DrawSt (lawSt ns) := ⟨ns, 0, 0, 7, rfl, by decide, by decide⟩
theorem DrawSt.len {st : Store} (h : DrawSt st) : st.length = 1 := by
  obtain ⟨_, _, _, _, rfl, _⟩ := h
  rfl
theorem take1 {o : Pm.Obj} : List.take [o].length [o] = [o] := rfl
def P18 : Int := 10 ^ 18
theorem bin_pow18 : binD .pow (.int 10) (.int 18) = some (.int P18) := by
  show (if (decide ((0 : Int) ≤ 18) && decide ((18 : Int) ≤ 1000000) && decide ((10 : Int).natAbs < 2 ^ 64)) = true then some (PyData.int (10 ^ (18 : Int).toNat)) else none) = _
  rw [if_pos (by decide)]
  rfl
section
variable {Fn : Fs} {wf : Nat} {env : Pm.Env} {ns : List Int} {i c x : Int} {d : PyData}
@[simp] theorem peek_ml {ds : List PyData} {env : List Slot} : peekD (.obj 0 :: env) [.ml ds] 0 = some (.list ds) := rfl
theorem setI_ml {ds : List PyData} {env : List Slot} {k e : E} {v : PyData} {z : Int} {n : Nat} (h1 : ev Fn e (.obj 0 :: env) [.ml ds] = .ok v [.ml ds]) (h2 : ev Fn k (.obj 0 :: env) [.ml ds] = .ok (.int z) [.ml ds]) (h3 : L2.ixN ds.length z = some n) :
    ex Fn wf (.setI 0 k e) (.obj 0 :: env) [.ml ds] = .nxt (.obj 0 :: env) [.ml (ds.set n v)] := by
  rw [ex_setI]
  simp [seen, h1, h2, h3]
theorem draw_run (Fn : Fs) (wf : Nat) (size : Int) (h1 : 0 < size) (h2 : size < 1000) {st : Store} (hs : DrawSt st) :
    ∃ (r : Int) (st' : Store), endOf st (runDef Fn wf Cd.D__law_draw [.obj 0, .dat (.int size)] st) = .ok (.int r) st' ∧ 0 ≤ r ∧ r < size ∧ DrawSt st' := by
  obtain ⟨ns, i, c, x, rfl, hi, hc⟩ := hs
  have hsz : size < 1073741824 := by omega
  -- the number itself, once the state is ready
  have fin : ∀ (ns : List Int) (i c x : Int) (v : Slot), 0 ≤ i → 0 ≤ c → ∃ (r : Int) (st' : Store), endOf [Pm.Obj.ml [PyData.list (ns.map .int), .int i, .int c, .int x]] (ex Fn wf (.seq (.ife (.e (.cmp .gt (.idxV 0 (.lit (.int 2))) (.lit (.int 0)))) (.seq (.asg 3 (.bin .mod (.blt .int (.cons (.idxV 0 (.lit (.int 2))) .nil)) (.var 1))) (.seq (.setI 0 (.lit (.int 2)) (.bin .fdiv (.idxV 0 (.lit (.int 2))) (.var 1))) (.ret (.var 3)))) .skip) (.ret (.bin .mod (.bin .mod (.blt .int (.cons (.bin .mul (.idxV 0 (.lit (.int 3))) (.lit (.int 16807))) .nil)) (.lit (.int 2147483629))) (.var 1))))
      [.obj 0, .dat (.int size), v, .no] [.ml [.list (ns.map .int), .int i, .int c, .int x]]) = .ok (.int r) st' ∧ 0 ≤ r ∧ r < size ∧ DrawSt st' := by
    intro ns i c x v hi hc
    by_cases q : 0 < c
    · refine ⟨c % size, [.ml [.list (ns.map .int), .int i, .int (c / size), .int x]], ?_, Int.emod_nonneg _ (by omega), Int.emod_lt_of_pos _ h1, ns, i, c / size, x, rfl, hi, Int.ediv_nonneg hc (by omega)⟩
      simp [seen, q, bin_mod h1, ex_setI, bin_fdiv h1 hsz, L2.ixN]
    · refine ⟨x * 16807 % 2147483629 % size, [.ml [.list (ns.map .int), .int i, .int c, .int x]], ?_, Int.emod_nonneg _ (by omega), Int.emod_lt_of_pos _ h1, ns, i, c, x, rfl, hi, hc⟩
      simp [seen, q, bin_mod h1, bin_mulr, bin_mod]
  rw [runDef_eq rfl]
  by_cases q : c = 0
  · subst q
    by_cases q2 : i < ns.length
    · have hn : ns[i.toNat]? = some (ns[i.toNat]'(by omega)) := List.getElem?_eq_getElem (by omega)
      generalize ns[i.toNat]'(by omega) = cell at hn
      by_cases q3 : P18 ≤ cell
      · obtain ⟨r, st', e, h⟩ := fin ns (i + 1) cell x (.dat (.int cell)) (by omega) (by have h := (by decide : (0 : Int) ≤ P18); omega)
        refine ⟨r, st', ?_, h⟩
        rw [← e]
        simp [startE, Cd.D__law_draw, Cd.c__law_draw, seen, q2, ex_setI, L2.ixN, at_nn hi, hn, bin_pow18, q3]
        rfl
      · obtain ⟨r, st', e, h⟩ := fin ns (i + 1) 0 ((x * 48271 + cell * 69621 + 11) % 2147483647) (.dat (.int cell)) (by omega) (by decide)
        refine ⟨r, st', ?_, h⟩
        rw [← e]
        simp [startE, Cd.D__law_draw, Cd.c__law_draw, seen, q2, ex_setI, L2.ixN, at_nn hi, hn, bin_pow18, q3, bin_mulr, bin_mod]
        rfl
    · obtain ⟨r, st', e, h⟩ := fin ns i 0 ((x * 48271 + 7) % 2147483647) .no hi (by decide)
      refine ⟨r, st', ?_, h⟩
      rw [← e]
      simp [startE, Cd.D__law_draw, Cd.c__law_draw, seen, q2, ex_setI, L2.ixN, bin_mulr, bin_mod]
      rfl
  · obtain ⟨r, st', e, h⟩ := fin ns i c x .no hi hc
    refine ⟨r, st', ?_, h⟩
    rw [← e]
    have qb : (c == 0) = false := beq_eq_false_iff_ne.mpr q
    simp [startE, Cd.D__law_draw, Cd.c__law_draw, seen, qb]
end
end Pl

set_option maxHeartbeats 1000000
/-! Q4: statements: what they are, whether they are well formed. -/
namespace Pl
open PySem Pm
inductive Stm where
  | on (a b : Int) | off (a b : Int) | like (a b : Int) | unlike (a b : Int) | both (a b c : Int) | notboth (a b c : Int)
  deriving DecidableEq
def Stm.d : Stm → PyData
  | .on a b => .tuple [.str (Str.ofString "on"), .int a, .int b]
  | .off a b => .tuple [.str (Str.ofString "off"), .int a, .int b]
  | .like a b => .tuple [.str (Str.ofString "like"), .int a, .int b]
  | .unlike a b => .tuple [.str (Str.ofString "unlike"), .int a, .int b]
  | .both a b c => .tuple [.str (Str.ofString "both"), .int a, .int b, .int c]
  | .notboth a b c => .tuple [.str (Str.ofString "notboth"), .int a, .int b, .int c]
section
variable {a b c : Int}
@[simp] theorem d_on : (Stm.on a b).d = .tuple [.str (Str.ofString "on"), .int a, .int b] := rfl
@[simp] theorem d_off : (Stm.off a b).d = .tuple [.str (Str.ofString "off"), .int a, .int b] := rfl
@[simp] theorem d_like : (Stm.like a b).d = .tuple [.str (Str.ofString "like"), .int a, .int b] := rfl
@[simp] theorem d_unlike : (Stm.unlike a b).d = .tuple [.str (Str.ofString "unlike"), .int a, .int b] := rfl
@[simp] theorem d_both : (Stm.both a b c).d = .tuple [.str (Str.ofString "both"), .int a, .int b, .int c] := rfl
@[simp] theorem d_notboth : (Stm.notboth a b c).d = .tuple [.str (Str.ofString "notboth"), .int a, .int b, .int c] := rfl
end
def two (many a b : Int) : Prop := 0 ≤ a ∧ a < many ∧ 0 ≤ b ∧ b < many ∧ a ≠ b
def three (many a b c : Int) : Prop := 0 ≤ a ∧ a < many ∧ 0 ≤ b ∧ b < many ∧ 0 ≤ c ∧ c < many ∧ a ≠ b ∧ a ≠ c ∧ b ≠ c
def Stm.ok (many : Int) : Stm → Prop
  | .on a b => two many a b
  | .off a b => two many a b
  | .like a b => two many a b
  | .unlike a b => two many a b
  | .both a b c => three many a b c
  | .notboth a b c => three many a b c
def Stm.opp : Stm → Stm
  | .on a b => .off a b
  | .off a b => .on a b
  | .like a b => .unlike a b
  | .unlike a b => .like a b
  | .both a b c => .notboth a b c
  | .notboth a b c => .both a b c
theorem Stm.opp_ok {many : Int} {s : Stm} (h : s.ok many) : s.opp.ok many := by
  cases s <;> exact h
/-- the tables -/
structure TabS (Fn : Fs) : Prop where
  sizes : Fn.tab (Str.ofString "SIZES") = [(Str.ofString "on", .int 3), (Str.ofString "off", .int 3), (Str.ofString "like", .int 3), (Str.ofString "unlike", .int 3), (Str.ofString "both", .int 4), (Str.ofString "notboth", .int 4)]
structure Tabs (Fn : Fs) : Prop extends TabS Fn where
  opps : Fn.tab (Str.ofString "OPPOSITES") = [(Str.ofString "on", .str (Str.ofString "off")), (Str.ofString "off", .str (Str.ofString "on")), (Str.ofString "like", .str (Str.ofString "unlike")), (Str.ofString "unlike", .str (Str.ofString "like")), (Str.ofString "both", .str (Str.ofString "notboth")), (Str.ofString "notboth", .str (Str.ofString "both"))]
def isNum (many : Int) : PyData → Bool
  | .int i => decide (0 ≤ i) && decide (i < many)
  | _ => false
@[simp] theorem isNum_int {many i : Int} : isNum many (.int i) = (decide (0 ≤ i) && decide (i < many)) := rfl
section
variable {Fn : Fs} {wf : Nat} {st : Store}
theorem is_number_run (d : PyData) (many : Int) : endOf st (runDef Fn wf Cd.D_is_number [.dat d, .dat (.int many)] st) = .ok (.bool (isNum many d)) st := by
  rw [runDef_eq rfl]
  cases d <;> simp [Cd.D_is_number, Cd.c_is_number, startE, isiD, isNum]
  rename_i i
  by_cases h : 0 ≤ i <;> simp [h]
abbrev SpNum (Fn : Fs) : Prop := ∀ (d : PyData) (many : Int) (st : Store), Fn.call (Str.ofString "is_number") [.dat d, .dat (.int many)] st = .ok (.bool (isNum many d)) st
theorem is_statement_run (T : TabS Fn) (H : SpNum Fn) {many : Int} {s : Stm} (h : s.ok many) : endOf st (runDef Fn wf Cd.D_is_statement [.dat (.int many), .dat s.d] st) = .ok (.bool true) st := by
  rw [runDef_eq rfl]
  cases s <;> (obtain ⟨h1, h2, h3, h4, h5⟩ := h) <;>
    simp [Cd.D_is_statement, Cd.c_is_statement, startE, isiD, T.sizes, List.lookup_cons, gIn, noOwn, ownS, lcL, lcStep, wipeE, H, h1, h2, h3, h4, okL, bltD, boolsD, dcL, dcStep, putKD, h5]
end
end Pl

set_option maxHeartbeats 1000000
/-! Q5: holds, keeps, opposite. -/
namespace Pl
open PySem Pm
abbrev Sz := List (Int × Int)
def pairD (p : Int × Int) : PyData := .tuple [.int p.1, .int p.2]
def sizesD (sz : Sz) : PyData := .list (sz.map pairD)
def sel (p : Int × Int) (k : Int) : Int := if k = 0 then p.1 else p.2
def fitC (p q r : Int × Int) (k i j : Int) : Bool := decide (sel p i + sel q j < sel r k) && (decide (sel p (1 - i) < sel r (1 - k)) && decide (sel q (1 - j) < sel r (1 - k)))
def fitB (p q r : Int × Int) : Bool := fitC p q r 0 0 0 || (fitC p q r 0 0 1 || (fitC p q r 0 1 0 || (fitC p q r 0 1 1 || (fitC p q r 1 0 0 || (fitC p q r 1 0 1 || (fitC p q r 1 1 0 || fitC p q r 1 1 1))))))
def sz0 (sz : Sz) (a : Int) : Int × Int := (sz[a.toNat]?).getD (0, 0)
/-- what a statement says of sizes -/
def Stm.hold (sz : Sz) : Stm → Bool
  | .on a b => decide ((sz0 sz a).1 < (sz0 sz b).1) && decide ((sz0 sz a).2 < (sz0 sz b).2)
  | .off a b => !(decide ((sz0 sz a).1 < (sz0 sz b).1) && decide ((sz0 sz a).2 < (sz0 sz b).2))
  | .like a b => decide (sz0 sz a = sz0 sz b)
  | .unlike a b => !decide (sz0 sz a = sz0 sz b)
  | .both a b c => fitB (sz0 sz a) (sz0 sz b) (sz0 sz c)
  | .notboth a b c => !fitB (sz0 sz a) (sz0 sz b) (sz0 sz c)
section
variable {Fn : Fs} {wf : Nat} {st : Store}
theorem fits_on_run (p q : Int × Int) : endOf st (runDef Fn wf Cd.D_fits_on [.dat (pairD p), .dat (pairD q)] st) = .ok (.bool (decide (p.1 < q.1) && decide (p.2 < q.2))) st := by
  rw [runDef_eq rfl]
  by_cases h : p.1 < q.1 <;> simp [Cd.D_fits_on, Cd.c_fits_on, startE, h, pairD]
theorem at_pair {p : Int × Int} {k : Int} (h : k = 0 ∨ k = 1) : atD [.int p.1, .int p.2] k = some (.int (sel p k)) := by
  rcases h with rfl | rfl <;> simp [sel]
theorem fit_body {p q r : Int × Int} {k i j : Int} (hk : k = 0 ∨ k = 1) (hi : i = 0 ∨ i = 1) (hj : j = 0 ∨ j = 1) :
    ex Fn wf (.ife (.and (.e (.cmp .lt (.bin .add (.idx (.var 0) (.var 4)) (.idx (.var 1) (.var 5))) (.idx (.var 2) (.var 3)))) (.and (.e (.cmp .lt (.idx (.var 0) (.bin .sub (.lit (.int 1)) (.var 4))) (.idx (.var 2) (.bin .sub (.lit (.int 1)) (.var 3))))) (.e (.cmp .lt (.idx (.var 1) (.bin .sub (.lit (.int 1)) (.var 5))) (.idx (.var 2) (.bin .sub (.lit (.int 1)) (.var 3))))))) (.ret (.lit (.bl true))) .skip)
      [.dat (pairD p), .dat (pairD q), .dat (pairD r), .dat (.int k), .dat (.int i), .dat (.int j)] st = if fitC p q r k i j = true then .ret (.bool true) st else .nxt [.dat (pairD p), .dat (pairD q), .dat (pairD r), .dat (.int k), .dat (.int i), .dat (.int j)] st := by
  have hk' : 1 - k = 0 ∨ 1 - k = 1 := by omega
  have hi' : 1 - i = 0 ∨ 1 - i = 1 := by omega
  have hj' : 1 - j = 0 ∨ 1 - j = 1 := by omega
  unfold fitC
  by_cases h1 : sel p i + sel q j < sel r k <;> by_cases h2 : sel p (1 - i) < sel r (1 - k) <;> by_cases h3 : sel q (1 - j) < sel r (1 - k) <;>
    simp [at_pair hk, at_pair hi, at_pair hj, at_pair hk', at_pair hi', at_pair hj', h1, h2, h3, pairD]
theorem forL_two {n : Nat} {f : Pm.Env → Store → Ou} {a b d : PyData} {env e1 e2 : Pm.Env} {c1 c2 : Bool} (h1 : f (env.set n (.dat a)) st = if c1 = true then .ret d st else .nxt e1 st) (h2 : f (e1.set n (.dat b)) st = if c2 = true then .ret d st else .nxt e2 st) :
    forL (.nm n) f [a, b] env st = if (c1 || c2) = true then .ret d st else .nxt e2 st := by
  rw [forL_cons, setG_nm]
  simp only [h1]
  cases c1 with
  | true => rfl
  | false =>
    simp only [Bool.false_eq_true, if_false, Bool.false_or]
    rw [forL_cons, setG_nm]
    simp only [h2]
    cases c2 <;> rfl
def fitBody : S := .ife (.and (.e (.cmp .lt (.bin .add (.idx (.var 0) (.var 4)) (.idx (.var 1) (.var 5))) (.idx (.var 2) (.var 3)))) (.and (.e (.cmp .lt (.idx (.var 0) (.bin .sub (.lit (.int 1)) (.var 4))) (.idx (.var 2) (.bin .sub (.lit (.int 1)) (.var 3))))) (.e (.cmp .lt (.idx (.var 1) (.bin .sub (.lit (.int 1)) (.var 5))) (.idx (.var 2) (.bin .sub (.lit (.int 1)) (.var 3))))))) (.ret (.lit (.bl true))) .skip
theorem two_loop {n : Nat} {b : S} {env : Pm.Env} : ex Fn wf (.sfor (.nm n) (.seq (.tup (.cons (.lit (.int 0)) (.cons (.lit (.int 1)) .nil)))) b) env st = forL (.nm n) (ex Fn wf b) [.int 0, .int 1] env st := by
  simp
theorem fit_both_run (p q r : Int × Int) : endOf st (runDef Fn wf Cd.D_fit_both [.dat (pairD p), .dat (pairD q), .dat (pairD r)] st) = .ok (.bool (fitB p q r)) st := by
  rw [runDef_eq rfl]
  have h0 : (0 : Int) = 0 ∨ (0 : Int) = 1 := .inl rfl
  have h1 : (1 : Int) = 0 ∨ (1 : Int) = 1 := .inr rfl
  have jl : ∀ (k i : Int) (s : Slot), (k = 0 ∨ k = 1) → (i = 0 ∨ i = 1) → ex Fn wf (.sfor (.nm 5) (.seq (.tup (.cons (.lit (.int 0)) (.cons (.lit (.int 1)) .nil)))) fitBody) [.dat (pairD p), .dat (pairD q), .dat (pairD r), .dat (.int k), .dat (.int i), s] st =
      if (fitC p q r k i 0 || fitC p q r k i 1) = true then .ret (.bool true) st else .nxt [.dat (pairD p), .dat (pairD q), .dat (pairD r), .dat (.int k), .dat (.int i), .dat (.int 1)] st := fun k i s hk hi => by
    rw [two_loop]
    exact forL_two (fit_body hk hi h0) (fit_body hk hi h1)
  have il : ∀ (k : Int) (s s' : Slot), (k = 0 ∨ k = 1) → ex Fn wf (.sfor (.nm 4) (.seq (.tup (.cons (.lit (.int 0)) (.cons (.lit (.int 1)) .nil)))) (.sfor (.nm 5) (.seq (.tup (.cons (.lit (.int 0)) (.cons (.lit (.int 1)) .nil)))) fitBody)) [.dat (pairD p), .dat (pairD q), .dat (pairD r), .dat (.int k), s, s'] st =
      if ((fitC p q r k 0 0 || fitC p q r k 0 1) || (fitC p q r k 1 0 || fitC p q r k 1 1)) = true then .ret (.bool true) st else .nxt [.dat (pairD p), .dat (pairD q), .dat (pairD r), .dat (.int k), .dat (.int 1), .dat (.int 1)] st := fun k s s' hk => by
    rw [two_loop]
    exact forL_two (jl k 0 s' hk h0) (jl k 1 _ hk h1)
  have kl : ex Fn wf (.sfor (.nm 3) (.seq (.tup (.cons (.lit (.int 0)) (.cons (.lit (.int 1)) .nil)))) (.sfor (.nm 4) (.seq (.tup (.cons (.lit (.int 0)) (.cons (.lit (.int 1)) .nil)))) (.sfor (.nm 5) (.seq (.tup (.cons (.lit (.int 0)) (.cons (.lit (.int 1)) .nil)))) fitBody))) [.dat (pairD p), .dat (pairD q), .dat (pairD r), .no, .no, .no] st =
      if ((fitC p q r 0 0 0 || fitC p q r 0 0 1) || (fitC p q r 0 1 0 || fitC p q r 0 1 1) || ((fitC p q r 1 0 0 || fitC p q r 1 0 1) || (fitC p q r 1 1 0 || fitC p q r 1 1 1))) = true then .ret (.bool true) st else .nxt [.dat (pairD p), .dat (pairD q), .dat (pairD r), .dat (.int 1), .dat (.int 1), .dat (.int 1)] st := by
    rw [two_loop]
    exact forL_two (il 0 _ _ h0) (il 1 _ _ h1)
  show endOf st (ex Fn wf (.seq (.sfor (.nm 3) (.seq (.tup (.cons (.lit (.int 0)) (.cons (.lit (.int 1)) .nil)))) (.sfor (.nm 4) (.seq (.tup (.cons (.lit (.int 0)) (.cons (.lit (.int 1)) .nil)))) (.sfor (.nm 5) (.seq (.tup (.cons (.lit (.int 0)) (.cons (.lit (.int 1)) .nil)))) fitBody))) (.ret (.lit (.bl false)))) [.dat (pairD p), .dat (pairD q), .dat (pairD r), .no, .no, .no] st) = _
  rw [ex_seq, kl]
  have e : fitB p q r = ((fitC p q r 0 0 0 || fitC p q r 0 0 1) || (fitC p q r 0 1 0 || fitC p q r 0 1 1) || ((fitC p q r 1 0 0 || fitC p q r 1 0 1) || (fitC p q r 1 1 0 || fitC p q r 1 1 1))) := by
    unfold fitB
    simp only [Bool.or_assoc]
  rw [e]
  cases ((fitC p q r 0 0 0 || fitC p q r 0 0 1) || (fitC p q r 0 1 0 || fitC p q r 0 1 1) || ((fitC p q r 1 0 0 || fitC p q r 1 0 1) || (fitC p q r 1 1 0 || fitC p q r 1 1 1))) <;> simp
abbrev SpOn (Fn : Fs) : Prop := ∀ (p q : Int × Int) (st : Store), Fn.call (Str.ofString "fits_on") [.dat (pairD p), .dat (pairD q)] st = .ok (.bool (decide (p.1 < q.1) && decide (p.2 < q.2))) st
abbrev SpBoth (Fn : Fs) : Prop := ∀ (p q r : Int × Int) (st : Store), Fn.call (Str.ofString "fit_both") [.dat (pairD p), .dat (pairD q), .dat (pairD r)] st = .ok (.bool (fitB p q r)) st
@[simp] theorem sh_pair {p : Int × Int} : SeqAt.shaped (.tuple [.int p.1, .int p.2]) = true := by simp [SeqAt.shaped, PyData.canLay0, PyData.canLayAll0, PyData.depth, PyData.depthAll]
@[simp] theorem sh_pairL {p : Int × Int} : SeqAt.shaped (.list [.int p.1, .int p.2]) = true := by simp [SeqAt.shaped, PyData.canLay0, PyData.canLayAll0, PyData.depth, PyData.depthAll]
theorem eqv_pair {p q : Int × Int} : PyData.eqv (.tuple [.int p.1, .int p.2]) (.tuple [.int q.1, .int q.2]) = decide (p = q) := by
  obtain ⟨a, b⟩ := p
  obtain ⟨c, d⟩ := q
  rw [Bool.eq_iff_iff]
  simp [PyData.eqv, PyData.eqvAll]
theorem eqv_pairL {p q : Int × Int} : PyData.eqv (.list [.int p.1, .int p.2]) (.list [.int q.1, .int q.2]) = decide (p = q) := by
  obtain ⟨a, b⟩ := p
  obtain ⟨c, d⟩ := q
  rw [Bool.eq_iff_iff]
  simp [PyData.eqv, PyData.eqvAll]
@[simp] theorem cmp_eq_pair {p q : Int × Int} : cmpD .eq (.tuple [.int p.1, .int p.2]) (.tuple [.int q.1, .int q.2]) = some (decide (p = q)) := by rw [cmp_eq sh_pair sh_pair, eqv_pair]
@[simp] theorem cmp_eq_pairL {p q : Int × Int} : cmpD .eq (.list [.int p.1, .int p.2]) (.list [.int q.1, .int q.2]) = some (decide (p = q)) := by rw [cmp_eq sh_pairL sh_pairL, eqv_pairL]
theorem is_so_on (H : SpOn Fn) (p q : Int × Int) : endOf st (runDef Fn wf Cd.D_is_so [.dat (.str (Str.ofString "on")), .dat (.list [pairD p, pairD q])] st) = .ok (.bool (decide (p.1 < q.1) && decide (p.2 < q.2))) st := by
  rw [runDef_eq rfl]
  have h := H p q st
  simp only [pairD] at h
  simp [Cd.D_is_so, Cd.c_is_so, startE, h, pairD]
theorem is_so_like (p q : Int × Int) : endOf st (runDef Fn wf Cd.D_is_so [.dat (.str (Str.ofString "like")), .dat (.list [pairD p, pairD q])] st) = .ok (.bool (decide (p = q))) st := by
  rw [runDef_eq rfl]
  simp [Cd.D_is_so, Cd.c_is_so, startE, pairD]
theorem is_so_both (H : SpBoth Fn) (p q r : Int × Int) : endOf st (runDef Fn wf Cd.D_is_so [.dat (.str (Str.ofString "both")), .dat (.list [pairD p, pairD q, pairD r])] st) = .ok (.bool (fitB p q r)) st := by
  rw [runDef_eq rfl]
  have h := H p q r st
  simp only [pairD] at h
  simp [Cd.D_is_so, Cd.c_is_so, startE, h, pairD]
structure SpSo (Fn : Fs) : Prop where
  on : ∀ (p q : Int × Int) (st : Store), Fn.call (Str.ofString "is_so") [.dat (.str (Str.ofString "on")), .dat (.list [pairD p, pairD q])] st = .ok (.bool (decide (p.1 < q.1) && decide (p.2 < q.2))) st
  like : ∀ (p q : Int × Int) (st : Store), Fn.call (Str.ofString "is_so") [.dat (.str (Str.ofString "like")), .dat (.list [pairD p, pairD q])] st = .ok (.bool (decide (p = q))) st
  both : ∀ (p q r : Int × Int) (st : Store), Fn.call (Str.ofString "is_so") [.dat (.str (Str.ofString "both")), .dat (.list [pairD p, pairD q, pairD r])] st = .ok (.bool (fitB p q r)) st
abbrev SpSt (Fn : Fs) : Prop := ∀ (many : Int) (s : Stm) (st : Store), s.ok many → Fn.call (Str.ofString "is_statement") [.dat (.int many), .dat s.d] st = .ok (.bool true) st
theorem check_statement_run (H : SpSt Fn) {many : Int} {s : Stm} (h : s.ok many) : endOf st (runDef Fn wf Cd.D_check_statement [.dat (.int many), .dat s.d] st) = .ok .none st := by
  rw [runDef_eq rfl]
  have h := H many s st h
  simp [Cd.D_check_statement, Cd.c_check_statement, startE, h]
abbrev SpCk (Fn : Fs) : Prop := ∀ (many : Int) (s : Stm) (st : Store), s.ok many → Fn.call (Str.ofString "check_statement") [.dat (.int many), .dat s.d] st = .ok .none st
theorem at_sz {sz : Sz} {a : Int} (h0 : 0 ≤ a) (h1 : a < sz.length) : atD (sz.map pairD) a = some (pairD (sz0 sz a)) := by
  rw [at_nn h0, List.getElem?_map]
  unfold sz0
  rw [List.getElem?_eq_getElem (by omega)]
  rfl
theorem holds_run (T : Tabs Fn) (C : SpCk Fn) (S : SpSo Fn) {sz : Sz} {s : Stm} (h : s.ok sz.length) : endOf st (runDef Fn wf Cd.D_holds [.dat s.d, .dat (sizesD sz)] st) = .ok (.bool (s.hold sz)) st := by
  rw [runDef_eq rfl]
  have hc := C sz.length s st h
  have on := S.on
  have like := S.like
  have both := S.both
  simp only [pairD] at on like both
  cases s with
  | on a b =>
    obtain ⟨h1, h2, h3, h4, h5⟩ := h
    simp only [d_on] at hc
    simp [Cd.D_holds, Cd.c_holds, startE, sizesD, hc, gIn, noOwn, ownS, lcL, lcStep, wipeE, at_sz h1 h2, at_sz h3 h4, okL, on, Stm.hold, pairD]
  | off a b =>
    obtain ⟨h1, h2, h3, h4, h5⟩ := h
    simp only [d_off] at hc
    simp [Cd.D_holds, Cd.c_holds, startE, sizesD, hc, gIn, noOwn, ownS, lcL, lcStep, wipeE, at_sz h1 h2, at_sz h3 h4, okL, on, Stm.hold, pairD, T.opps, List.lookup_cons]
  | like a b =>
    obtain ⟨h1, h2, h3, h4, h5⟩ := h
    simp only [d_like] at hc
    simp [Cd.D_holds, Cd.c_holds, startE, sizesD, hc, gIn, noOwn, ownS, lcL, lcStep, wipeE, at_sz h1 h2, at_sz h3 h4, okL, like, Stm.hold, pairD]
  | unlike a b =>
    obtain ⟨h1, h2, h3, h4, h5⟩ := h
    simp only [d_unlike] at hc
    simp [Cd.D_holds, Cd.c_holds, startE, sizesD, hc, gIn, noOwn, ownS, lcL, lcStep, wipeE, at_sz h1 h2, at_sz h3 h4, okL, like, Stm.hold, pairD, T.opps, List.lookup_cons]
  | both a b c =>
    obtain ⟨h1, h2, h3, h4, h5, h6, _⟩ := h
    simp only [d_both] at hc
    simp [Cd.D_holds, Cd.c_holds, startE, sizesD, hc, gIn, noOwn, ownS, lcL, lcStep, wipeE, at_sz h1 h2, at_sz h3 h4, at_sz h5 h6, okL, both, Stm.hold, pairD]
  | notboth a b c =>
    obtain ⟨h1, h2, h3, h4, h5, h6, _⟩ := h
    simp only [d_notboth] at hc
    simp [Cd.D_holds, Cd.c_holds, startE, sizesD, hc, gIn, noOwn, ownS, lcL, lcStep, wipeE, at_sz h1 h2, at_sz h3 h4, at_sz h5 h6, okL, both, Stm.hold, pairD, T.opps, List.lookup_cons]
abbrev SpHo (Fn : Fs) : Prop := ∀ (sz : Sz) (s : Stm) (st : Store), s.ok sz.length → Fn.call (Str.ofString "holds") [.dat s.d, .dat (sizesD sz)] st = .ok (.bool (s.hold sz)) st
theorem opposite_run (T : Tabs Fn) (C : SpCk Fn) {s : Stm} (h : s.ok 4) : endOf st (runDef Fn wf Cd.D_opposite [.dat s.d] st) = .ok s.opp.d st := by
  rw [runDef_eq rfl]
  have hc := C 4 s st h
  cases s <;> simp only [d_on, d_off, d_like, d_unlike, d_both, d_notboth] at hc <;> simp [Cd.D_opposite, Cd.c_opposite, startE, hc, T.opps, List.lookup_cons, bin_addT, Stm.opp]
abbrev SpOp (Fn : Fs) : Prop := ∀ (s : Stm) (st : Store), s.ok 4 → Fn.call (Str.ofString "opposite") [.dat s.d] st = .ok s.opp.d st
/-- facts -/
def factsD (l : List Stm) : PyData := .list (l.map Stm.d)
theorem check_facts_run (H : SpSt Fn) {many : Int} {l : List Stm} (h : ∀ s ∈ l, s.ok many) (hl : l.length ≤ 8) : endOf st (runDef Fn wf Cd.D_check_facts [.dat (.int many), .dat (factsD l)] st) = .ok .none st := by
  rw [runDef_eq rfl]
  have e : lcL (lcStep Fn [.dat (.int many), .dat (.list (l.map Stm.d)), .no] [2] (.nm 2) .none (.call (Str.ofString "is_statement") (.cons (.var 0) (.cons (.var 2) .nil)))) (l.map Stm.d) st = .ok (l.map fun _ => .bool true) st :=
    lcL_mapT fun s hs => by simp [lcStep, wipeE, H many s st (h s hs)]
  have e2 := all_map (f := fun _ : Stm => true) l
  have e3 : (l.all fun _ : Stm => true) = true := List.all_eq_true.mpr fun _ _ => rfl
  rw [e3] at e2
  have h3 : ¬ (8 : Int) < (l.length : Int) := by omega
  simp [Cd.D_check_facts, Cd.c_check_facts, startE, factsD, isiD, gIn, noOwn, ownS, e, okL, e2, h3, show l.length ≤ 16777216 by omega]
abbrev SpCf (Fn : Fs) : Prop := ∀ (many : Int) (l : List Stm) (st : Store), (∀ s ∈ l, s.ok many) → l.length ≤ 8 → Fn.call (Str.ofString "check_facts") [.dat (.int many), .dat (factsD l)] st = .ok .none st
theorem keeps_run (C : SpCf Fn) (H : SpHo Fn) {sz : Sz} {l : List Stm} (h : ∀ s ∈ l, s.ok sz.length) (hl : l.length ≤ 8) : endOf st (runDef Fn wf Cd.D_keeps [.dat (factsD l), .dat (sizesD sz)] st) = .ok (.bool (l.all fun s => s.hold sz)) st := by
  rw [runDef_eq rfl]
  have hc := C sz.length l st h hl
  simp only [factsD, sizesD] at hc
  have e : lcL (lcStep Fn [.dat (.list (l.map Stm.d)), .dat (.list (sz.map pairD)), .no] [2] (.nm 2) .none (.call (Str.ofString "holds") (.cons (.var 2) (.cons (.var 1) .nil)))) (l.map Stm.d) st = .ok (l.map fun s => .bool (s.hold sz)) st :=
    lcL_mapT fun s hs => by
      have := H sz s st (h s hs)
      simp only [sizesD] at this
      simp [lcStep, wipeE, this]
  have e2 := all_map (f := fun s : Stm => s.hold sz) l
  simp [Cd.D_keeps, Cd.c_keeps, startE, factsD, sizesD, hc, gIn, noOwn, ownS, e, okL, e2, show l.length ≤ 16777216 by omega]
end
end Pl

set_option maxHeartbeats 1000000
/-! Q6: the laws' own defs: statements drawn, their own account of them. -/
namespace Pl
open PySem Pm
section
variable {Fn : Fs} {wf : Nat} {st : Store}
abbrev SpDraw (Fn : Fs) : Prop := ∀ (size : Int) (st : Store), 0 < size → size < 1000 → DrawSt st → ∃ (r : Int) (st' : Store), Fn.call (Str.ofString "_law_draw") [.obj 0, .dat (.int size)] st = .ok (.int r) st' ∧ 0 ≤ r ∧ r < size ∧ DrawSt st'
/-! ### a statement drawn -/
theorem words_run : endOf st (runDef Fn wf Cd.D__law_words [] st) = .ok (.list [.str (Str.ofString "on"), .str (Str.ofString "off"), .str (Str.ofString "like"), .str (Str.ofString "unlike"), .str (Str.ofString "both"), .str (Str.ofString "notboth")]) st := by
  rw [runDef_eq rfl]
  simp [Cd.D__law_words, Cd.c__law_words, startE]
abbrev SpWords (Fn : Fs) : Prop := ∀ st : Store, Fn.call (Str.ofString "_law_words") [] st = .ok (.list [.str (Str.ofString "on"), .str (Str.ofString "off"), .str (Str.ofString "like"), .str (Str.ofString "unlike"), .str (Str.ofString "both"), .str (Str.ofString "notboth")]) st
def argBody : S := .seq (.asg 7 (.call (Str.ofString "_law_draw") (.vr 0 (.cons (.blt .len (.cons (.var 4) .nil)) .nil)))) (.seq (.app 5 (.idx (.var 4) (.var 7))) (.asg 4 (.bin .add (.sl (.var 4) .none (.some (.var 7))) (.sl (.var 4) (.some (.bin .add (.var 7) (.lit (.int 1)))) .none))))
theorem args_loop (Dr : SpDraw Fn) {s1 s2 s3 : Slot} : ∀ (ks : List PyData) (left : List Int) (found : List PyData) (s6 s7 : Slot) (st : Store), DrawSt st → ks.length ≤ left.length → left.length < 100 → found.length + ks.length < 100 →
    ∃ (xs left' : List Int) (s6' s7' : Slot) (st' : Store), forL (.nm 6) (ex Fn wf argBody) ks [.obj 0, s1, s2, s3, .dat (.list (left.map .int)), .lst found, s6, s7] st = .nxt [.obj 0, s1, s2, s3, .dat (.list (left'.map .int)), .lst (found ++ xs.map .int), s6', s7'] st' ∧
      xs.length = ks.length ∧ left.Perm (xs ++ left') ∧ DrawSt st'
  | [], left, found, s6, s7, st, hs, _, _, _ => ⟨[], left, s6, s7, st, by simp, rfl, List.Perm.refl _, hs⟩
  | k :: ks, left, found, s6, s7, st, hs, h1, h2, h3 => by
    have h1' : ks.length + 1 ≤ left.length := h1
    obtain ⟨r, st1, e, r0, r1, hs1⟩ := Dr left.length st (by omega) (by omega) hs
    have hr : r.toNat < left.length := by omega
    have hx : left[r.toNat]? = some left[r.toNat] := List.getElem?_eq_getElem hr
    have hl : left = left.take r.toNat ++ left[r.toNat] :: left.drop (r.toNat + 1) := by
      rw [← List.drop_eq_getElem_cons hr, List.take_append_drop]
    generalize left[r.toNat] = x at hx hl
    have hperm : left.Perm (x :: (left.take r.toNat ++ left.drop (r.toNat + 1))) := by
      have := List.perm_middle (a := x) (l₁ := left.take r.toNat) (l₂ := left.drop (r.toNat + 1))
      rw [← hl] at this
      exact this
    have hlen : (left.take r.toNat ++ left.drop (r.toNat + 1)).length + 1 = left.length := by
      have := hperm.length_eq
      simpa using this.symm
    obtain ⟨xs, left', s6', s7', st', e2, l2, p2, hs'⟩ := args_loop Dr ks (left.take r.toNat ++ left.drop (r.toNat + 1)) (found ++ [.int x]) (.dat k) (.dat (.int r)) st1 hs1 (by omega) (by omega) (by simp at h3 ⊢; omega)
    refine ⟨x :: xs, left', s6', s7', st', ?_, by simp [l2], hperm.trans (List.Perm.cons x p2), hs'⟩
    rw [forL_cons, setG_nm]
    have e1 : ex Fn wf argBody ([.obj 0, s1, s2, s3, .dat (.list (left.map .int)), .lst found, s6, s7].set 6 (.dat k)) st = .nxt [.obj 0, s1, s2, s3, .dat (.list ((left.take r.toNat ++ left.drop (r.toNat + 1)).map .int)), .lst (found ++ [.int x]), .dat k, .dat (.int r)] st1 := by
      have c1 : cutD (left.map PyData.int) none (some r) = (left.map PyData.int).take r.toNat := cut_to (by omega)
      have c2 : cutD (left.map PyData.int) (some (r + 1)) none = (left.map PyData.int).drop (r.toNat + 1) := cut_from (by omega)
      have c3 : atD (left.map PyData.int) r = some (.int x) := by rw [at_nn r0, List.getElem?_map, hx]; rfl
      have c4 : ((left.map PyData.int).take r.toNat).length + ((left.map PyData.int).drop (r.toNat + 1)).length ≤ 16777216 := by
        simp only [List.length_take, List.length_drop, List.length_map]
        omega
      simp only [List.length_cons] at h3
      simp [argBody, argOf, e, isLst, c1, c2, c3, bin_addL c4, show found.length + 1 ≤ 16777216 by omega]
    simp only [e1]
    rw [e2]
    simp
theorem statement_run (Dr : SpDraw Fn) (Wo : SpWords Fn) {many : Int} (hm : many = 2 ∨ many = 3 ∨ many = 4) (hs : DrawSt st) : ∃ (s : Stm) (st' : Store), endOf st (runDef Fn wf Cd.D__law_statement [.obj 0, .dat (.int many)] st) = .ok s.d st' ∧ s.ok many ∧ DrawSt st' := by
  have h1 : st.length = 1 := hs.len
  -- the words
  obtain ⟨top, htop, ht0, ht1⟩ : ∃ top : Int, ex Fn wf (.asg 2 (.idx (.lst (.cons (.lit (.int 6)) (.cons (.lit (.int 4)) (.cons (.lit (.int 4)) .nil)))) (.blt .min (.cons (.blt .max (.cons (.bin .sub (.lit (.int 3)) (.var 1)) (.cons (.lit (.int 0)) .nil))) (.cons (.lit (.int 2)) .nil))))) [.obj 0, .dat (.int many), .no, .no, .no, .no, .no, .no] st = .nxt [.obj 0, .dat (.int many), .dat (.int top), .no, .no, .no, .no, .no] st ∧ (top = 6 ∨ top = 4) ∧ (many = 2 → top = 4) := by
    rcases hm with rfl | rfl | rfl
    · exact ⟨4, by simp, .inr rfl, fun _ => rfl⟩
    · exact ⟨6, by simp, .inl rfl, fun h => absurd h (by decide)⟩
    · exact ⟨6, by simp, .inl rfl, fun h => absurd h (by decide)⟩
  obtain ⟨r, st1, e, r0, r1, hs1⟩ := Dr top st (by omega) (by omega) hs
  -- how it ends, for a word of n arguments
  have fin : ∀ (w : Str) (n : Nat) (mk : List Int → Stm), ev Fn (.idx (.call (Str.ofString "_law_words") .nil) (.call (Str.ofString "_law_draw") (.vr 0 (.cons (.var 2) .nil)))) [.obj 0, .dat (.int many), .dat (.int top), .no, .no, .no, .no, .no] st = .ok (.str w) st1 →
      ((Str.ofString "both") == w || (Str.ofString "notboth") == w) = decide (n = 3) → (n = 2 ∨ n = 3) → (n : Int) ≤ many →
      (∀ xs : List Int, xs.length = n → (mk xs).d = .tuple (.str w :: xs.map .int)) → (∀ xs : List Int, xs.length = n → xs.Nodup → (∀ x ∈ xs, 0 ≤ x ∧ x < many) → (mk xs).ok many) →
      ∃ (s : Stm) (st' : Store), endOf st (runDef Fn wf Cd.D__law_statement [.obj 0, .dat (.int many)] st) = .ok s.d st' ∧ s.ok many ∧ DrawSt st' := by
    intro w n mk hw hb hn hnm hd hok
    have hm4 : many ≤ 4 := by omega
    have hm0 : 0 ≤ many := by omega
    obtain ⟨xs, left', s6, s7, st', e2, l2, p2, hs'⟩ := args_loop (wf := wf) Dr ((List.range n).map fun (k : Nat) => PyData.int (k : Int)) ((List.range many.toNat).map fun (k : Nat) => (k : Int)) [.str w] .no .no st1 (s1 := .dat (.int many)) (s2 := .dat (.int top)) (s3 := .dat (.str w)) hs1 (by simp; omega) (by simp; omega) (by simp; omega)
    have l2' : xs.length = n := by simpa using l2
    have hlen' : st'.length = 1 := hs'.len
    refine ⟨mk xs, st', ?_, hok xs l2' ?_ fun x hx => ?_, hs'⟩
    · rw [runDef_eq rfl]
      have e3 : (((List.range many.toNat).map fun (k : Nat) => PyData.int (k : Int))) = ((List.range many.toNat).map fun (k : Nat) => (k : Int)).map PyData.int := by rw [List.map_map]; rfl
      have e4 : forL (.nm 6) (ex Fn wf argBody) ((List.range n).map fun (k : Nat) => PyData.int (k : Int)) [.obj 0, .dat (.int many), .dat (.int top), .dat (.str w), .dat (.list ((List.range many.toNat).map fun (k : Nat) => PyData.int (k : Int))), .lst [.str w], .no, .no] st1 = .nxt [.obj 0, .dat (.int many), .dat (.int top), .dat (.str w), .dat (.list (left'.map .int)), .lst (.str w :: xs.map .int), s6, s7] st' := by
        rw [e3, e2]
        rfl
      have e5 : rng1D (.int (n : Int)) = some ((List.range n).map fun (k : Nat) => PyData.int (k : Int)) := by
        rw [rng1 (by omega) (by omega), Int.toNat_natCast]
      have e6 : evI Fn (.rng1 (.idx (.lst (.cons (.lit (.int 2)) (.cons (.lit (.int 3)) .nil))) (.blt .int (.cons (.cmp .inn (.var 3) (.lst (.cons (.lit (.str (Str.ofString "both"))) (.cons (.lit (.str (Str.ofString "notboth"))) .nil)))) .nil)))) [.obj 0, .dat (.int many), .dat (.int top), .dat (.str w), .dat (.list ((List.range many.toNat).map fun (k : Nat) => PyData.int (k : Int))), .lst [.str w], .no, .no] st1 = .ok ((List.range n).map fun (k : Nat) => PyData.int (k : Int)) st1 := by
        rcases hn with rfl | rfl
        · have e5 : rng1D (.int 2) = some ((List.range 2).map fun (k : Nat) => PyData.int (k : Int)) := e5
          have hb : ((Str.ofString "both") == w || (Str.ofString "notboth") == w) = false := hb
          simp only [evI_rng1, ev_idx, ev_lst, evs_cons, evs_nil, ev_lit, Lit.d, Out.bind, okLen_1000, List.length_cons, List.length_nil, ev_blt, ev_cmp, ev_var, List.getElem?_cons_succ, List.getElem?_cons_zero, cmp_in_list2, hb, Option.map_some, Out.ofO, int_bool, idx_list, Bool.false_eq_true, if_false, at_0, e5, if_true, Nat.reduceAdd, Nat.reduceLeDiff]
        · have e5 : rng1D (.int 3) = some ((List.range 3).map fun (k : Nat) => PyData.int (k : Int)) := e5
          have hb : ((Str.ofString "both") == w || (Str.ofString "notboth") == w) = true := hb
          simp only [evI_rng1, ev_idx, ev_lst, evs_cons, evs_nil, ev_lit, Lit.d, Out.bind, okLen_1000, List.length_cons, List.length_nil, ev_blt, ev_cmp, ev_var, List.getElem?_cons_succ, List.getElem?_cons_zero, cmp_in_list2, hb, Option.map_some, Out.ofO, int_bool, idx_list, if_true, at_1, e5, Nat.reduceAdd, Nat.reduceLeDiff]
      show endOf st (ex Fn wf (.seq (.asg 2 _) (.seq (.asg 3 (.idx (.call (Str.ofString "_law_words") .nil) (.call (Str.ofString "_law_draw") (.vr 0 (.cons (.var 2) .nil))))) (.seq (.asg 4 (.lrng (.var 1))) (.seq (.asgO 5 (.lst (.cons (.var 3) .nil))) (.seq (.sfor (.nm 6) _ argBody) (.seq (.fz [5]) (.ret (.blt .tuple (.cons (.var 5) .nil))))))))) [.obj 0, .dat (.int many), .no, .no, .no, .no, .no, .no] st) = _
      rw [ex_seq, htop]
      simp only [Ou.seq, ex_seq, ex_asg, hw, Out.thn, List.set, ev_lrng, ev_var, List.getElem?_cons_succ, List.getElem?_cons_zero, Out.bind, lrng hm0 (show many ≤ 1000000 by omega), Out.ofO, ex_asgO, isFresh, if_true, ev_lst, evs_cons, evs_nil, okLen_1000, List.length_cons, List.length_nil, Nat.reduceAdd, Nat.reduceLeDiff, ex_sfor]
      rw [e6]
      simp only [e4]
      simp [fzE, fzS, h1, hlen', hd xs l2']
      have : st'.take 1 = st' := List.take_of_length_le (by omega)
      exact this
    · have hnd : ((List.range many.toNat).map fun (k : Nat) => (k : Int)).Nodup := by
        rw [List.nodup_iff_pairwise_ne, List.pairwise_map]
        exact (List.nodup_iff_pairwise_ne.mp List.nodup_range).imp fun h => by omega
      exact (List.nodup_append.mp (p2.nodup_iff.mp hnd)).1
    · have := p2.mem_iff.mpr (List.mem_append_left left' hx)
      obtain ⟨k, hk, rfl⟩ := List.mem_map.mp this
      have := List.mem_range.mp hk
      omega
  have hev : ∀ w : Str, [Str.ofString "on", Str.ofString "off", Str.ofString "like", Str.ofString "unlike", Str.ofString "both", Str.ofString "notboth"][r.toNat]? = some w → ev Fn (.idx (.call (Str.ofString "_law_words") .nil) (.call (Str.ofString "_law_draw") (.vr 0 (.cons (.var 2) .nil)))) [.obj 0, .dat (.int many), .dat (.int top), .no, .no, .no, .no, .no] st = .ok (.str w) st1 := by
    intro w h
    have h2 : atD [PyData.str (Str.ofString "on"), .str (Str.ofString "off"), .str (Str.ofString "like"), .str (Str.ofString "unlike"), .str (Str.ofString "both"), .str (Str.ofString "notboth")] r = some (.str w) := by
      rw [at_nn r0]
      have := congrArg (Option.map PyData.str) h
      rw [← List.getElem?_map] at this
      exact this
    simp [argOf, Wo st, e, h2]
  have l2 : ∀ xs : List Int, xs.length = 2 → ∃ a b, xs = [a, b] := fun xs h => match xs, h with
    | [a, b], _ => ⟨a, b, rfl⟩
  have l3 : ∀ xs : List Int, xs.length = 3 → ∃ a b c, xs = [a, b, c] := fun xs h => match xs, h with
    | [a, b, c], _ => ⟨a, b, c, rfl⟩
  have ok2 : ∀ (mk : Int → Int → Stm), (∀ a b, two many a b → (mk a b).ok many) → ∀ xs : List Int, xs.length = 2 → xs.Nodup → (∀ x ∈ xs, 0 ≤ x ∧ x < many) → (mk (xs.getD 0 0) (xs.getD 1 0)).ok many := by
    intro mk h xs hl hn hx
    obtain ⟨a, b, rfl⟩ := l2 xs hl
    refine h a b ⟨(hx a (by simp)).1, (hx a (by simp)).2, (hx b (by simp)).1, (hx b (by simp)).2, ?_⟩
    simp at hn
    exact hn
  have ok3 : ∀ (mk : Int → Int → Int → Stm), (∀ a b c, three many a b c → (mk a b c).ok many) → ∀ xs : List Int, xs.length = 3 → xs.Nodup → (∀ x ∈ xs, 0 ≤ x ∧ x < many) → (mk (xs.getD 0 0) (xs.getD 1 0) (xs.getD 2 0)).ok many := by
    intro mk h xs hl hn hx
    obtain ⟨a, b, c, rfl⟩ := l3 xs hl
    simp at hn
    exact h a b c ⟨(hx a (by simp)).1, (hx a (by simp)).2, (hx b (by simp)).1, (hx b (by simp)).2, (hx c (by simp)).1, (hx c (by simp)).2, hn.1.1, hn.1.2, hn.2⟩
  have hr : r = 0 ∨ r = 1 ∨ r = 2 ∨ r = 3 ∨ r = 4 ∨ r = 5 := by omega
  have hm3 : r = 4 ∨ r = 5 → 3 ≤ many := by omega
  rcases hr with rfl | rfl | rfl | rfl | rfl | rfl
  · exact fin _ 2 (fun xs => .on (xs.getD 0 0) (xs.getD 1 0)) (hev _ rfl) (by decide +kernel) (.inl rfl) (by omega) (fun xs h => by obtain ⟨a, b, rfl⟩ := l2 xs h; rfl) (ok2 _ fun _ _ h => h)
  · exact fin _ 2 (fun xs => .off (xs.getD 0 0) (xs.getD 1 0)) (hev _ rfl) (by decide +kernel) (.inl rfl) (by omega) (fun xs h => by obtain ⟨a, b, rfl⟩ := l2 xs h; rfl) (ok2 _ fun _ _ h => h)
  · exact fin _ 2 (fun xs => .like (xs.getD 0 0) (xs.getD 1 0)) (hev _ rfl) (by decide +kernel) (.inl rfl) (by omega) (fun xs h => by obtain ⟨a, b, rfl⟩ := l2 xs h; rfl) (ok2 _ fun _ _ h => h)
  · exact fin _ 2 (fun xs => .unlike (xs.getD 0 0) (xs.getD 1 0)) (hev _ rfl) (by decide +kernel) (.inl rfl) (by omega) (fun xs h => by obtain ⟨a, b, rfl⟩ := l2 xs h; rfl) (ok2 _ fun _ _ h => h)
  · exact fin _ 3 (fun xs => .both (xs.getD 0 0) (xs.getD 1 0) (xs.getD 2 0)) (hev _ rfl) (by decide +kernel) (.inr rfl) (by omega) (fun xs h => by obtain ⟨a, b, c, rfl⟩ := l3 xs h; rfl) (ok3 _ fun _ _ _ h => h)
  · exact fin _ 3 (fun xs => .notboth (xs.getD 0 0) (xs.getD 1 0) (xs.getD 2 0)) (hev _ rfl) (by decide +kernel) (.inr rfl) (by omega) (fun xs h => by obtain ⟨a, b, c, rfl⟩ := l3 xs h; rfl) (ok3 _ fun _ _ _ h => h)
end
end Pl

set_option maxHeartbeats 1000000
/-! Q7: the laws' own account: facts drawn, turned, held. -/
namespace Pl
open PySem Pm
section
variable {Fn : Fs} {wf : Nat} {st : Store}
abbrev SpDrawn (Fn : Fs) : Prop := ∀ (many : Int) (st : Store), (many = 2 ∨ many = 3 ∨ many = 4) → DrawSt st → ∃ (s : Stm) (st' : Store), Fn.call (Str.ofString "_law_statement") [.obj 0, .dat (.int many)] st = .ok s.d st' ∧ s.ok many ∧ DrawSt st'
theorem take_all {st st' : Store} (h : DrawSt st) (h' : DrawSt st') : st'.take st.length = st' := List.take_of_length_le (by rw [h.len, h'.len]; exact Nat.le_refl _)
theorem facts_run (S : SpDrawn Fn) {many size : Int} (hm : many = 2 ∨ many = 3 ∨ many = 4) (h0 : 0 ≤ size) (h1 : size < 1000) (hs : DrawSt st) : ∃ (l : List Stm) (st' : Store), endOf st (runDef Fn wf Cd.D__law_facts [.obj 0, .dat (.int many), .dat (.int size)] st) = .ok (factsD l) st' ∧ l.length = size.toNat ∧ (∀ s ∈ l, s.ok many) ∧ DrawSt st' := by
  obtain ⟨l, st', e, hl, hok, hs'⟩ := lcL_inv (f := lcStep Fn [.obj 0, .dat (.int many), .dat (.int size), .no] [3] (.nm 3) .none (.call (Str.ofString "_law_statement") (.vr 0 (.cons (.var 1) .nil)))) (I := DrawSt) (Q := fun s : Stm => s.ok many) (e := Stm.d) (xs := (List.range size.toNat).map fun (k : Nat) => PyData.int (k : Int)) hs fun x _ st hs => by
    obtain ⟨s, st', e, hok, hs'⟩ := S many st hm hs
    exact ⟨s, st', by simp [lcStep, wipeE, argOf, e], hok, hs'⟩
  have hl' : l.length = size.toNat := by simpa using hl
  refine ⟨l, st', ?_, hl', hok, hs'⟩
  rw [runDef_eq rfl]
  simp [Cd.D__law_facts, Cd.c__law_facts, startE, gIn, noOwn, ownS, rng1 h0 (show size < 2 ^ 62 by omega), e, okL, show l.length ≤ 16777216 by omega, factsD, take_all hs hs']
abbrev SpFacts (Fn : Fs) : Prop := ∀ (many size : Int) (st : Store), (many = 2 ∨ many = 3 ∨ many = 4) → 0 ≤ size → size < 1000 → DrawSt st → ∃ (l : List Stm) (st' : Store), Fn.call (Str.ofString "_law_facts") [.obj 0, .dat (.int many), .dat (.int size)] st = .ok (factsD l) st' ∧ l.length = size.toNat ∧ (∀ s ∈ l, s.ok many) ∧ DrawSt st'
theorem turn_run (s : Stm) : endOf st (runDef Fn wf Cd.D__law_turn [.dat s.d] st) = .ok s.opp.d st := by
  rw [runDef_eq rfl]
  have k : keysOk [((Sum.inr (Str.ofString "on") : Sum Int Str), Lit.str (Str.ofString "off")), (.inr (Str.ofString "off"), .str (Str.ofString "on")), (.inr (Str.ofString "like"), .str (Str.ofString "unlike")), (.inr (Str.ofString "unlike"), .str (Str.ofString "like")), (.inr (Str.ofString "both"), .str (Str.ofString "notboth")), (.inr (Str.ofString "notboth"), .str (Str.ofString "both"))] = true := by decide +kernel
  have g : ∀ (a b : Str), decide ((Sum.inr a : Sum Int Str) = .inr b) = (a == b) := fun a b => by
    by_cases h : a = b
    · subst h; simp
    · rw [beq_eq_false_iff_ne.mpr h]
      exact decide_eq_false fun e => h (Sum.inr.inj e)
  cases s <;> simp [Cd.D__law_turn, Cd.c__law_turn, startE, k, dctOf, getK, g, bin_addT, Stm.opp, -Sum.inr.injEq]
abbrev SpTurn (Fn : Fs) : Prop := ∀ (s : Stm) (st : Store), Fn.call (Str.ofString "_law_turn") [.dat s.d] st = .ok s.opp.d st

/-! ### their own account of a statement -/
def lawBody : S := .ife (.and (.e (.cmp .lt (.bin .add (.idx (.var 7) (.lit (.int 0))) (.idx (.var 8) (.lit (.int 0)))) (.idx (.var 9) (.lit (.int 0))))) (.e (.cmp .lt (.blt .max (.cons (.idx (.var 7) (.lit (.int 1))) (.cons (.idx (.var 8) (.lit (.int 1))) .nil))) (.idx (.var 9) (.lit (.int 1)))))) (.asg 6 (.lit (.bl true))) .skip
def lawC (f s t : Int × Int) : Bool := decide (f.1 + s.1 < t.1) && decide ((if s.2 > f.2 then s.2 else f.2) < t.2)
def lst2 (p : Int × Int) : PyData := .list [.int p.1, .int p.2]
def swp (p : Int × Int) : Int × Int := (p.2, p.1)
theorem law_body {e0 e1 e2 e3 e4 e5 : Slot} {fb : Bool} {f s t : Int × Int} : ex Fn wf lawBody [e0, e1, e2, e3, e4, e5, .dat (.bool fb), .dat (lst2 f), .dat (lst2 s), .dat (lst2 t)] st = .nxt [e0, e1, e2, e3, e4, e5, .dat (.bool (fb || lawC f s t)), .dat (lst2 f), .dat (lst2 s), .dat (lst2 t)] st := by
  unfold lawC
  by_cases h1 : f.1 + s.1 < t.1 <;> by_cases h2 : (if s.2 > f.2 then s.2 else f.2) < t.2 <;> simp [lawBody, lst2, h1, h2]
theorem forL_flag {n : Nat} {f : Pm.Env → Store → Ou} {a b : PyData} {env : Pm.Env} {E : Bool → Pm.Env} {fb c1 c2 : Bool} (h1 : f (env.set n (.dat a)) st = .nxt (E (fb || c1)) st) (h2 : ∀ g, f ((E g).set n (.dat b)) st = .nxt (E (g || c2)) st) :
    forL (.nm n) f [a, b] env st = .nxt (E (fb || c1 || c2)) st := by
  rw [forL_cons, setG_nm]
  simp only [h1]
  rw [forL_cons, setG_nm]
  simp only [h2]
  rfl
/-- the third loop's list -/
def l9 : I := .seq (.lst (.cons (.lst (.cons (.idx (.var 5) (.lit (.int 0))) (.cons (.idx (.var 5) (.lit (.int 1))) .nil))) (.cons (.lst (.cons (.idx (.var 5) (.lit (.int 1))) (.cons (.idx (.var 5) (.lit (.int 0))) .nil))) .nil)))
def l8 : I := .seq (.lst (.cons (.var 3) (.cons (.rev (.var 3)) .nil)))
def l7 : I := .seq (.lst (.cons (.var 2) (.cons (.rev (.var 2)) .nil)))
theorem l9_ok {e0 e1 e2 e3 e4 e6 e7 e8 e9 : Slot} {r : Int × Int} : evI Fn l9 [e0, e1, e2, e3, e4, .dat (pairD r), e6, e7, e8, e9] st = .ok [lst2 r, lst2 (swp r)] st := by
  simp [l9, pairD, lst2, swp]
theorem l8_ok {e0 e1 e2 e4 e5 e6 e7 e8 e9 : Slot} {q : Int × Int} : evI Fn l8 [e0, e1, e2, .dat (lst2 q), e4, e5, e6, e7, e8, e9] st = .ok [lst2 q, lst2 (swp q)] st := by
  simp [l8, lst2, swp]
theorem l7_ok {e0 e1 e3 e4 e5 e6 e7 e8 e9 : Slot} {p : Int × Int} : evI Fn l7 [e0, e1, .dat (lst2 p), e3, e4, e5, e6, e7, e8, e9] st = .ok [lst2 p, lst2 (swp p)] st := by
  simp [l7, lst2, swp]
def o9 (f s r : Int × Int) : Bool := lawC f s r || lawC f s (swp r)
def o8 (f q r : Int × Int) : Bool := o9 f q r || o9 f (swp q) r
def o7 (p q r : Int × Int) : Bool := o8 p q r || o8 (swp p) q r
theorem loop9 {e0 e1 e2 e3 e4 e9 : Slot} {fb : Bool} {f s r : Int × Int} : ex Fn wf (.sfor (.nm 9) l9 lawBody) [e0, e1, e2, e3, e4, .dat (pairD r), .dat (.bool fb), .dat (lst2 f), .dat (lst2 s), e9] st = .nxt [e0, e1, e2, e3, e4, .dat (pairD r), .dat (.bool (fb || o9 f s r)), .dat (lst2 f), .dat (lst2 s), .dat (lst2 (swp r))] st := by
  rw [ex_sfor, l9_ok]
  simp only [Out.thn]
  rw [forL_cons, setG_nm]
  simp only [List.set, law_body]
  rw [forL_cons, setG_nm]
  simp only [List.set, law_body, forL_nil]
  unfold o9
  rw [Bool.or_assoc]
theorem loop8 {e0 e1 e2 e4 e8 e9 : Slot} {fb : Bool} {f q r : Int × Int} : ex Fn wf (.sfor (.nm 8) l8 (.sfor (.nm 9) l9 lawBody)) [e0, e1, e2, .dat (lst2 q), e4, .dat (pairD r), .dat (.bool fb), .dat (lst2 f), e8, e9] st = .nxt [e0, e1, e2, .dat (lst2 q), e4, .dat (pairD r), .dat (.bool (fb || o8 f q r)), .dat (lst2 f), .dat (lst2 (swp q)), .dat (lst2 (swp r))] st := by
  rw [ex_sfor, l8_ok]
  simp only [Out.thn]
  rw [forL_cons, setG_nm]
  simp only [List.set, loop9]
  rw [forL_cons, setG_nm]
  simp only [List.set, loop9, forL_nil]
  unfold o8
  rw [Bool.or_assoc]
theorem loop7 {e0 e1 e4 e7 e8 e9 : Slot} {fb : Bool} {p q r : Int × Int} : ex Fn wf (.sfor (.nm 7) l7 (.sfor (.nm 8) l8 (.sfor (.nm 9) l9 lawBody))) [e0, e1, .dat (lst2 p), .dat (lst2 q), e4, .dat (pairD r), .dat (.bool fb), e7, e8, e9] st = .nxt [e0, e1, .dat (lst2 p), .dat (lst2 q), e4, .dat (pairD r), .dat (.bool (fb || o7 p q r)), .dat (lst2 (swp p)), .dat (lst2 (swp q)), .dat (lst2 (swp r))] st := by
  rw [ex_sfor, l7_ok]
  simp only [Out.thn]
  rw [forL_cons, setG_nm]
  simp only [List.set, loop8]
  rw [forL_cons, setG_nm]
  simp only [List.set, loop8, forL_nil]
  unfold o7
  rw [Bool.or_assoc]
theorem lawC_fit (p q r : Int × Int) : lawC p q r = fitC p q r 0 0 0 ∧ lawC p q (swp r) = fitC p q r 1 0 0 ∧ lawC p (swp q) r = fitC p q r 0 0 1 ∧ lawC p (swp q) (swp r) = fitC p q r 1 0 1 ∧ lawC (swp p) q r = fitC p q r 0 1 0 ∧ lawC (swp p) q (swp r) = fitC p q r 1 1 0 ∧ lawC (swp p) (swp q) r = fitC p q r 0 1 1 ∧ lawC (swp p) (swp q) (swp r) = fitC p q r 1 1 1 := by
  have key : ∀ a b c x y z : Int, (decide (a + b < c) && decide ((if y > x then y else x) < z)) = (decide (a + b < c) && (decide (x < z) && decide (y < z))) := fun a b c x y z => by
    rw [Bool.eq_iff_iff]
    simp only [Bool.and_eq_true, decide_eq_true_eq]
    split <;> omega
  unfold lawC fitC
  simp only [key]
  refine ⟨?_, ?_, ?_, ?_, ?_, ?_, ?_, ?_⟩ <;> rfl
theorem o7_fit (p q r : Int × Int) : o7 p q r = fitB p q r := by
  obtain ⟨h1, h2, h3, h4, h5, h6, h7, h8⟩ := lawC_fit p q r
  unfold o7 o8 o9 fitB
  rw [h1, h2, h3, h4, h5, h6, h7, h8]
  generalize fitC p q r 0 0 0 = a
  generalize fitC p q r 1 0 0 = b
  generalize fitC p q r 0 0 1 = c
  generalize fitC p q r 1 0 1 = d
  generalize fitC p q r 0 1 0 = e
  generalize fitC p q r 1 1 0 = f
  generalize fitC p q r 0 1 1 = g
  generalize fitC p q r 1 1 1 = h
  cases a <;> cases b <;> cases c <;> cases d <;> cases e <;> cases f <;> cases g <;> cases h <;> rfl
theorem law3 {sz : Sz} {a b c : Int} (w : Str) (k : Bool) (w1 : (Str.ofString "on" == w || Str.ofString "off" == w) = false) (w2 : (Str.ofString "like" == w || Str.ofString "unlike" == w) = false) (w3 : cmpD .eq (.str w) (.str (Str.ofString "both")) = some k)
    (h1 : 0 ≤ a) (h2 : a < sz.length) (h3 : 0 ≤ b) (h4 : b < sz.length) (h5 : 0 ≤ c) (h6 : c < sz.length) :
    endOf st (ex Fn wf Cd.c__law_holds [.dat (.tuple [.str w, .int a, .int b, .int c]), .dat (sizesD sz), .no, .no, .no, .no, .no, .no, .no, .no] st) = .ok (.bool (fitB (sz0 sz a) (sz0 sz b) (sz0 sz c) == k)) st := by
  have e := @loop7 Fn wf st (.dat (.tuple [.str w, .int a, .int b, .int c])) (.dat (sizesD sz)) (.dat (.str w)) .no .no .no false (sz0 sz a) (sz0 sz b) (sz0 sz c)
  rw [o7_fit, Bool.false_or] at e
  show endOf st (ex Fn wf (.seq _ (.seq _ (.seq _ (.seq _ (.seq _ (.seq _ (.seq _ (.seq (.sfor (.nm 7) l7 (.sfor (.nm 8) l8 (.sfor (.nm 9) l9 lawBody))) _)))))))) _ st) = _
  simp only [ex_seq, ex_asg, ev_blt, evs_cons, evs_nil, ev_idx, ev_var, ev_lit, Lit.d, List.getElem?_cons_succ, List.getElem?_cons_zero, Out.bind, Out.ofO, idx_tup, idx_list, at_0, at_1, at_2, at_3, sizesD, at_sz h1 h2, at_sz h3 h4, at_sz h5 h6, list_tup, pairD, Out.thn, Ou.seq, List.set, ex_ife, evT_e, ev_cmp, ev_lst, okLen_1000, List.length_cons, List.length_nil, Nat.reduceAdd, Nat.reduceLeDiff, if_true, cmp_in_list2, w1, w2, Option.map_some, truth_bool, ex_skip]
  simp only [lst2, sizesD, pairD] at e
  rw [e]
  simp [w3]
theorem lawholds_run {sz : Sz} {s : Stm} (h : s.ok sz.length) : endOf st (runDef Fn wf Cd.D__law_holds [.dat s.d, .dat (sizesD sz)] st) = .ok (.bool (s.hold sz)) st := by
  rw [runDef_eq rfl]
  have l7' := @loop7 Fn wf st
  cases s with
  | on a b =>
    obtain ⟨h1, h2, h3, h4, h5⟩ := h
    by_cases q : (sz0 sz a).1 < (sz0 sz b).1 <;> simp [Cd.D__law_holds, Cd.c__law_holds, startE, sizesD, at_sz h1 h2, at_sz h3 h4, pairD, Stm.hold, q]
  | off a b =>
    obtain ⟨h1, h2, h3, h4, h5⟩ := h
    by_cases q : (sz0 sz a).1 < (sz0 sz b).1 <;> simp [Cd.D__law_holds, Cd.c__law_holds, startE, sizesD, at_sz h1 h2, at_sz h3 h4, pairD, Stm.hold, q]
  | like a b =>
    obtain ⟨h1, h2, h3, h4, h5⟩ := h
    simp [Cd.D__law_holds, Cd.c__law_holds, startE, sizesD, at_sz h1 h2, at_sz h3 h4, pairD, Stm.hold]
  | unlike a b =>
    obtain ⟨h1, h2, h3, h4, h5⟩ := h
    simp [Cd.D__law_holds, Cd.c__law_holds, startE, sizesD, at_sz h1 h2, at_sz h3 h4, pairD, Stm.hold]
  | both a b c =>
    obtain ⟨h1, h2, h3, h4, h5, h6, _⟩ := h
    have := law3 (Fn := Fn) (wf := wf) (st := st) (sz := sz) (Str.ofString "both") true (by simp) (by simp) (by simp) h1 h2 h3 h4 h5 h6
    rw [show (fitB (sz0 sz a) (sz0 sz b) (sz0 sz c) == true) = fitB (sz0 sz a) (sz0 sz b) (sz0 sz c) from by cases fitB (sz0 sz a) (sz0 sz b) (sz0 sz c) <;> rfl] at this
    exact this
  | notboth a b c =>
    obtain ⟨h1, h2, h3, h4, h5, h6, _⟩ := h
    have := law3 (Fn := Fn) (wf := wf) (st := st) (sz := sz) (Str.ofString "notboth") false (by simp) (by simp) (by simp) h1 h2 h3 h4 h5 h6
    rw [show (fitB (sz0 sz a) (sz0 sz b) (sz0 sz c) == false) = !fitB (sz0 sz a) (sz0 sz b) (sz0 sz c) from by cases fitB (sz0 sz a) (sz0 sz b) (sz0 sz c) <;> rfl] at this
    exact this
abbrev SpLh (Fn : Fs) : Prop := ∀ (sz : Sz) (s : Stm) (st : Store), s.ok sz.length → Fn.call (Str.ofString "_law_holds") [.dat s.d, .dat (sizesD sz)] st = .ok (.bool (s.hold sz)) st
theorem lawkeeps_run (H : SpLh Fn) {sz : Sz} {l : List Stm} (h : ∀ s ∈ l, s.ok sz.length) (hl : l.length ≤ 1000) : endOf st (runDef Fn wf Cd.D__law_keeps [.dat (factsD l), .dat (sizesD sz)] st) = .ok (.bool (l.all fun s => s.hold sz)) st := by
  rw [runDef_eq rfl]
  have e : lcL (lcStep Fn [.dat (.list (l.map Stm.d)), .dat (.list (sz.map pairD)), .no] [2] (.nm 2) (.some (.not (.e (.call (Str.ofString "_law_holds") (.cons (.var 2) (.cons (.var 1) .nil)))))) (.var 2)) (l.map Stm.d) st = .ok ((l.filter fun s => !s.hold sz).map Stm.d) st :=
    lcL_filterT fun s hs => by
      have := H sz s st (h s hs)
      simp only [sizesD] at this
      cases q : s.hold sz <;> simp [lcStep, wipeE, this, q]
  have hf : (l.filter fun s => !s.hold sz).length ≤ 16777216 := Nat.le_trans (List.length_filter_le _ _) (by omega)
  have e2 : (((l.filter fun s => !s.hold sz).length : Int) == 0) = l.all fun s => s.hold sz := by
    rw [Bool.eq_iff_iff, beq_iff_eq, List.all_eq_true]
    constructor
    · intro q s hs
      have : l.filter (fun s => !s.hold sz) = [] := List.eq_nil_of_length_eq_zero (by omega)
      have := List.filter_eq_nil_iff.mp this s hs
      simpa using this
    · intro q
      have : l.filter (fun s => !s.hold sz) = [] := List.filter_eq_nil_iff.mpr fun s hs => by simp [q s hs]
      rw [this]
      rfl
  simp [Cd.D__law_keeps, Cd.c__law_keeps, startE, factsD, sizesD, gIn, noOwn, ownS, e, okL, hf, -List.length_map, -cmp_eq_int, List.length_map, cmp_eq_int, e2]
/-! ### sizes drawn -/
def drawnBody : S := .seq (.asg 5 (.bin .add (.lit (.int 1)) (.call (Str.ofString "_law_draw") (.vr 0 (.cons (.var 2) .nil))))) (.seq (.asg 6 (.bin .add (.lit (.int 1)) (.call (Str.ofString "_law_draw") (.vr 0 (.cons (.var 2) .nil))))) (.app 3 (.tup (.cons (.blt .min (.cons (.var 5) (.cons (.var 6) .nil))) (.cons (.blt .max (.cons (.var 5) (.cons (.var 6) .nil))) .nil)))))
/-- a sheet's sizes -/
def okSz (p : Int × Int) : Prop := 1 ≤ p.1 ∧ p.1 ≤ p.2
theorem drawn_loop (Dr : SpDraw Fn) {top : Int} (h1 : 0 < top) (h2 : top < 1000) {s1 : Slot} : ∀ (ks : List PyData) (sz : Sz) (s4 s5 s6 : Slot) (st : Store), DrawSt st → sz.length + ks.length < 100 →
    ∃ (sz' : Sz) (s4' s5' s6' : Slot) (st' : Store), forL (.nm 4) (ex Fn wf drawnBody) ks [.obj 0, s1, .dat (.int top), .lst (sz.map pairD), s4, s5, s6] st = .nxt [.obj 0, s1, .dat (.int top), .lst ((sz ++ sz').map pairD), s4', s5', s6'] st' ∧ sz'.length = ks.length ∧ (∀ p ∈ sz', okSz p) ∧ DrawSt st'
  | [], sz, s4, s5, s6, st, hs, _ => ⟨[], s4, s5, s6, st, by simp, rfl, fun _ h => (nomatch h), hs⟩
  | k :: ks, sz, s4, s5, s6, st, hs, h => by
    obtain ⟨a, st1, e1, a0, a1, hs1⟩ := Dr top st h1 h2 hs
    obtain ⟨b, st2, e2, b0, b1, hs2⟩ := Dr top st1 h1 h2 hs1
    simp only [List.length_cons] at h
    obtain ⟨sz', s4', s5', s6', st', e3, l3, o3, hs3⟩ := drawn_loop Dr h1 h2 ks (sz ++ [(if 1 + b < 1 + a then 1 + b else 1 + a, if 1 + b > 1 + a then 1 + b else 1 + a)]) (.dat k) (.dat (.int (1 + a))) (.dat (.int (1 + b))) st2 hs2 (by simp; omega)
    refine ⟨(if 1 + b < 1 + a then 1 + b else 1 + a, if 1 + b > 1 + a then 1 + b else 1 + a) :: sz', s4', s5', s6', st', ?_, by simp [l3], fun p hp => ?_, hs3⟩
    · rw [forL_cons, setG_nm]
      have eb : ex Fn wf drawnBody ([.obj 0, s1, .dat (.int top), .lst (sz.map pairD), s4, s5, s6].set 4 (.dat k)) st = .nxt [.obj 0, s1, .dat (.int top), .lst ((sz ++ [(if 1 + b < 1 + a then 1 + b else 1 + a, if 1 + b > 1 + a then 1 + b else 1 + a)]).map pairD), .dat k, .dat (.int (1 + a)), .dat (.int (1 + b))] st2 := by
        simp [drawnBody, argOf, e1, e2, isLst, show sz.length + 1 ≤ 16777216 by omega, pairD]
      simp only [eb]
      rw [e3]
      simp
    · rcases List.mem_cons.mp hp with rfl | hp
      · unfold okSz
        constructor
        · show 1 ≤ (if 1 + b < 1 + a then 1 + b else 1 + a)
          split <;> omega
        · show (if 1 + b < 1 + a then 1 + b else 1 + a) ≤ (if 1 + b > 1 + a then 1 + b else 1 + a)
          split <;> split <;> omega
      · exact o3 p hp
theorem drawn_run (Dr : SpDraw Fn) {many top : Int} (hm0 : 0 ≤ many) (hm : many < 50) (h1 : 0 < top) (h2 : top < 1000) (hs : DrawSt st) : ∃ (sz : Sz) (st' : Store), endOf st (runDef Fn wf Cd.D__law_drawn [.obj 0, .dat (.int many), .dat (.int top)] st) = .ok (sizesD sz) st' ∧ sz.length = many.toNat ∧ (∀ p ∈ sz, okSz p) ∧ DrawSt st' := by
  obtain ⟨sz, s4, s5, s6, st', e, l, o, hs'⟩ := drawn_loop (wf := wf) Dr h1 h2 (s1 := .dat (.int many)) ((List.range many.toNat).map fun (k : Nat) => PyData.int (k : Int)) [] .no .no .no st hs (by simp; omega)
  refine ⟨sz, st', ?_, by simpa using l, o, hs'⟩
  rw [runDef_eq rfl]
  simp only [List.nil_append] at e
  have e : forL (.nm 4) (ex Fn wf drawnBody) ((List.range many.toNat).map fun (k : Nat) => PyData.int (k : Int)) [.obj 0, .dat (.int many), .dat (.int top), .lst [], .no, .no, .no] st = .nxt [.obj 0, .dat (.int many), .dat (.int top), .lst (sz.map pairD), s4, s5, s6] st' := e
  show endOf st (ex Fn wf (.seq (.asgO 3 (.lst .nil)) (.seq (.sfor (.nm 4) (.rng1 (.var 1)) drawnBody) (.seq (.fz [3]) (.ret (.var 3))))) [.obj 0, .dat (.int many), .dat (.int top), .no, .no, .no, .no] st) = _
  simp [-ex_app, isFresh, rng1 hm0 (show many < 2 ^ 62 by omega), e, fzE, fzS, sizesD, take_all hs hs']
abbrev SpSizes (Fn : Fs) : Prop := ∀ (many top : Int) (st : Store), 0 ≤ many → many < 50 → 0 < top → top < 1000 → DrawSt st → ∃ (sz : Sz) (st' : Store), Fn.call (Str.ofString "_law_drawn") [.obj 0, .dat (.int many), .dat (.int top)] st = .ok (sizesD sz) st' ∧ sz.length = many.toNat ∧ (∀ p ∈ sz, okSz p) ∧ DrawSt st'
end
end Pl

set_option maxHeartbeats 1000000
/-! Q8: calls by depth; loops with an invariant. -/
namespace Pl
open PySem Pm
theorem look {α β : Type} [BEq α] [LawfulBEq α] : ∀ {l : List (α × β)} {j : Nat} {x : α} {d : β}, (l.map (·.1)).Nodup → l[j]? = some (x, d) → l.lookup x = some d
  | [], _, _, _, _, e => by simp at e
  | p :: l, 0, x, d, _, e => by
    simp at e
    subst e
    rw [List.lookup_cons, beq_self_eq_true]
  | p :: l, j + 1, x, d, hn, e => by
    rw [List.map_cons, List.nodup_cons] at hn
    have e : l[j]? = some (x, d) := by simpa using e
    have hne : (x == p.1) = false := beq_eq_false_iff_ne.mpr fun q => hn.1 (by rw [← q]; exact List.mem_map.mpr ⟨(x, d), List.mem_of_getElem? e, rfl⟩)
    rw [List.lookup_cons, hne]
    exact look hn.2 e
theorem call_at {P : Prog} {wf n j : Nat} {f : Str} {d : Def} (hn : (P.defs.map (·.1)).Nodup) (h : P.defs[j]? = some (f, d)) (as : List Pm.Arg) (st : Store) : (fsOf P wf (n + 1)).call f as st = endOf st (runDef (fsOf P wf n) wf d as st) := by
  show (match P.defs.lookup f with
    | some d => endOf st (runDef (fsOf P wf n) wf d as st)
    | none => .no) = _
  rw [look hn h]
theorem forL_inv {I : Pm.Env → Store → Prop} {g : Tg} {f : Pm.Env → Store → Ou} : ∀ {xs : List PyData} {env : Pm.Env} {st : Store}, I env st → (∀ x ∈ xs, ∀ env st, I env st → ∃ env1 env2 st2, setG g x env = some env1 ∧ f env1 st = .nxt env2 st2 ∧ I env2 st2) → ∃ env' st', forL g f xs env st = .nxt env' st' ∧ I env' st'
  | [], env, st, i, _ => ⟨env, st, rfl, i⟩
  | x :: xs, env, st, i, h => by
    obtain ⟨env1, env2, st2, e1, e2, i2⟩ := h x List.mem_cons_self env st i
    obtain ⟨env', st', e3, i3⟩ := forL_inv i2 fun y hy => h y (List.mem_cons_of_mem _ hy)
    refine ⟨env', st', ?_, i3⟩
    rw [forL_cons, e1]
    simp only [e2]
    exact e3
theorem Stm.opp_hold (sz : Sz) (s : Stm) : s.opp.hold sz = !s.hold sz := by
  cases s <;> simp [Stm.opp, Stm.hold]
theorem Stm.shaped (s : Stm) : SeqAt.shaped s.d = true := by
  cases s <;> simp [SeqAt.shaped, PyData.canLay0, PyData.canLayAll0, PyData.depth, PyData.depthAll]
theorem Stm.eqv_self (s : Stm) : PyData.eqv s.d s.d = true := by
  cases s <;> simp [PyData.eqv, PyData.eqvAll]
theorem Stm.cmp_ne_self (s : Stm) : cmpD .ne s.d s.d = some false := by
  rw [cmp_ne s.shaped s.shaped, s.eqv_self]
  rfl
theorem Stm.ok_mono {m n : Int} (h : m ≤ n) {s : Stm} (hs : s.ok m) : s.ok n := by
  cases s with
  | both a b c =>
    obtain ⟨h1, h2, h3, h4, h5, h6, h7⟩ := hs
    exact ⟨h1, by omega, h3, by omega, h5, by omega, h7⟩
  | notboth a b c =>
    obtain ⟨h1, h2, h3, h4, h5, h6, h7⟩ := hs
    exact ⟨h1, by omega, h3, by omega, h5, by omega, h7⟩
  | _ =>
    obtain ⟨h1, h2, h3, h4, h5⟩ := hs
    exact ⟨h1, by omega, h3, by omega, h5⟩
end Pl

set_option maxHeartbeats 1000000
/-! R1: rows. -/
namespace Pl
open PySem Pm
abbrev Row := List Int × Int
def rowD (r : Row) : PyData := .tuple [.tuple (r.1.map .int), .int r.2]
abbrev Way := List Row
def wayD (w : Way) : PyData := .list (w.map rowD)
abbrev Clause := List Way
def clauseD (c : Clause) : PyData := .list (c.map wayD)
def clausesD (c : List Clause) : PyData := .list (c.map clauseD)
/-- a sheet, a side, a number -/
abbrev Part := Int × Int × Int
def prtD (p : Part) : PyData := .tuple [.int p.1, .int p.2.1, .int p.2.2]
def place (p : Part) : Int := 2 * p.1 + p.2.1
def accP : List Part → Int → Int
  | [], _ => 0
  | p :: ps, k => (if place p = k then p.2.2 else 0) + accP ps k
def lineOf (many : Int) (parts : List Part) (least : Int) : Row := ((List.range (2 * many).toNat).map fun (k : Nat) => accP parts (k : Int), least)
theorem accP_app (a b : List Part) (k : Int) : accP (a ++ b) k = accP a k + accP b k := by
  induction a with
  | nil => simp [accP]
  | cons p a ih => simp [accP, ih]; omega
/-! ### the program's own: by a dict -/
def kvD (l : List (Int × Int)) : List (Sum Int Str × PyData) := l.map fun q => (.inl q.1, .int q.2)
def getL (l : List (Int × Int)) (k : Int) : Int := ((l.find? fun q => decide (q.1 = k)).map (·.2)).getD 0
def putL (l : List (Int × Int)) (k v : Int) : List (Int × Int) := if (l.any fun q => decide (q.1 = k)) = true then l.map (fun q => if q.1 = k then (q.1, v) else q) else l ++ [(k, v)]
theorem dec_inl (a b : Int) : decide ((Sum.inl a : Sum Int Str) = .inl b) = decide (a = b) := by
  by_cases h : a = b
  · subst h; simp
  · rw [decide_eq_false h]
    exact decide_eq_false fun e => h (Sum.inl.inj e)
theorem getK_kv (l : List (Int × Int)) (k : Int) : (getK (kvD l) (.inl k)).getD (.int 0) = .int (getL l k) := by
  unfold getK kvD getL
  induction l with
  | nil => rfl
  | cons q l ih =>
    rw [List.map_cons, List.find?_cons, List.find?_cons, dec_inl]
    cases decide (q.1 = k) with
    | true => rfl
    | false => exact ih
theorem putK_kv (l : List (Int × Int)) (k v : Int) : putKD (kvD l) (.inl k) (.int v) = kvD (putL l k v) := by
  unfold putKD kvD putL
  rw [List.any_map]
  have e : ((fun kv : Sum Int Str × PyData => decide (kv.1 = Sum.inl k)) ∘ fun q : Int × Int => (Sum.inl q.1, PyData.int q.2)) = fun q => decide (q.1 = k) := by
    funext q
    exact dec_inl _ _
  rw [e]
  split
  · rw [List.map_map, List.map_map]
    refine List.map_congr_left fun q _ => ?_
    show (if (Sum.inl q.1 : Sum Int Str) = Sum.inl k then _ else _) = _
    by_cases h : q.1 = k
    · simp [h]
    · simp [h]
  · simp
theorem getL_put (l : List (Int × Int)) (k v j : Int) : getL (putL l k v) j = if j = k then v else getL l j := by
  unfold putL
  by_cases h : (l.any fun q => decide (q.1 = k)) = true
  · rw [if_pos h]
    induction l with
    | nil => cases h
    | cons q l ih =>
      rw [List.map_cons]
      unfold getL
      rw [List.find?_cons, List.find?_cons]
      by_cases hq : q.1 = k
      · rw [if_pos hq]
        by_cases hj : j = k
        · subst hj
          simp [hq]
        · have h1 : decide (q.1 = j) = false := decide_eq_false (by omega)
          simp only [h1, if_neg hj]
          -- the rest: other keys are left as they are
          have key : ∀ l : List (Int × Int), ((l.map fun q => if q.1 = k then (q.1, v) else q).find? fun q => decide (q.1 = j)) = l.find? fun q => decide (q.1 = j) := by
            intro l
            induction l with
            | nil => rfl
            | cons r l ih2 =>
              rw [List.map_cons, List.find?_cons, List.find?_cons, ih2]
              by_cases hr : r.1 = k
              · have h2 : decide (r.1 = j) = false := decide_eq_false (by omega)
                simp only [if_pos hr, h2]
              · simp only [if_neg hr]
          rw [key]
      · rw [if_neg hq]
        rw [List.any_cons, decide_eq_false hq, Bool.false_or] at h
        have := ih h
        unfold getL at this
        by_cases hj : q.1 = j
        · have hjk : j ≠ k := by omega
          simp [hj, hjk]
        · simp only [decide_eq_false hj]
          exact this
  · rw [if_neg h]
    have hn : ∀ q ∈ l, q.1 ≠ k := fun q hq e => h (List.any_eq_true.mpr ⟨q, hq, by simp [e]⟩)
    unfold getL
    rw [List.find?_append]
    by_cases hj : j = k
    · subst hj
      have : l.find? (fun q => decide (q.1 = j)) = none := List.find?_eq_none.mpr fun q hq => by simp [hn q hq]
      rw [this]
      simp
    · rw [if_neg hj]
      cases e : l.find? (fun q => decide (q.1 = j)) with
      | some q => rfl
      | none =>
        have h1 : decide (k = j) = false := decide_eq_false (by omega)
        simp [h1]
theorem putL_len (l : List (Int × Int)) (k v : Int) : (putL l k v).length ≤ l.length + 1 := by
  unfold putL
  split <;> simp
section
variable {Fn : Fs} {wf : Nat} {st : Store}
@[simp] theorem setG_part {a b c : Int} {env : Pm.Env} : setG (.tp (.nm 4) (.tp (.nm 5) (.tp (.nm 6) .nil))) (.tuple [.int a, .int b, .int c]) env = some (((env.set 4 (.dat (.int a))).set 5 (.dat (.int b))).set 6 (.dat (.int c))) := by
  simp [setG, setGs]
theorem bin_mul2 {i : Int} : binD .mul (.int 2) (.int i) = some (.int (2 * i)) := bin_mul (okMul_l (by decide) (by decide))
def dictBody : S := .dput 3 (.bin .add (.bin .mul (.lit (.int 2)) (.var 4)) (.var 5)) (.bin .add (.dgetOr 3 (.bin .add (.bin .mul (.lit (.int 2)) (.var 4)) (.var 5)) (.lit (.int 0))) (.var 6))
theorem dict_loop {s0 s1 s2 s7 : Slot} : ∀ (ps : List Part) (l : List (Int × Int)) (s4 s5 s6 : Slot), l.length + ps.length < 100 →
    ∃ (l' : List (Int × Int)) (s4' s5' s6' : Slot), forL (.tp (.nm 4) (.tp (.nm 5) (.tp (.nm 6) .nil))) (ex Fn wf dictBody) (ps.map prtD) [s0, s1, s2, .dct (kvD l), s4, s5, s6, s7] st = .nxt [s0, s1, s2, .dct (kvD l'), s4', s5', s6', s7] st ∧ ∀ k, getL l' k = getL l k + accP ps k
  | [], l, s4, s5, s6, _ => ⟨l, s4, s5, s6, by simp, fun k => by simp [accP]⟩
  | p :: ps, l, s4, s5, s6, h => by
    simp only [List.length_cons] at h
    have hp := putL_len l (place p) (getL l (place p) + p.2.2)
    obtain ⟨l', s4', s5', s6', e, he⟩ := dict_loop ps (putL l (place p) (getL l (place p) + p.2.2)) (.dat (.int p.1)) (.dat (.int p.2.1)) (.dat (.int p.2.2)) (by omega)
    refine ⟨l', s4', s5', s6', ?_, fun k => ?_⟩
    · rw [List.map_cons, forL_cons]
      have eb : ex Fn wf dictBody [s0, s1, s2, .dct (kvD l), .dat (.int p.1), .dat (.int p.2.1), .dat (.int p.2.2), s7] st = .nxt [s0, s1, s2, .dct (kvD (putL l (place p) (getL l (place p) + p.2.2))), .dat (.int p.1), .dat (.int p.2.1), .dat (.int p.2.2), s7] st := by
        have g := getK_kv l (place p)
        have q := putK_kv l (place p) (getL l (place p) + p.2.2)
        have hl : (kvD l).length + 1 ≤ 16777216 := by unfold kvD; rw [List.length_map]; omega
        unfold place at g q ⊢
        simp [dictBody, dctOf, bin_mul2, g, q, hl]
      simp only [prtD, setG_part, List.set, eb]
      exact e
    · rw [he, getL_put]
      show _ = getL l k + ((if place p = k then p.2.2 else 0) + accP ps k)
      by_cases hk : k = place p
      · subst hk; simp; omega
      · rw [if_neg hk, if_neg (fun e => hk e.symm)]; omega
theorem line_of_run {many least : Int} {ps : List Part} (h0 : 0 ≤ many) (h1 : many < 100) (hp : ps.length < 50) : endOf st (runDef Fn wf Cd.D_line_of [.dat (.int many), .dat (.list (ps.map prtD)), .dat (.int least)] st) = .ok (rowD (lineOf many ps least)) st := by
  rw [runDef_eq rfl]
  obtain ⟨l, s4, s5, s6, e, he⟩ := dict_loop (Fn := Fn) (wf := wf) (st := st) (s0 := .dat (.int many)) (s1 := .dat (.list (ps.map prtD))) (s2 := .dat (.int least)) (s7 := .no) ps [] .no .no .no (by simp; omega)
  have e : forL (.tp (.nm 4) (.tp (.nm 5) (.tp (.nm 6) .nil))) (ex Fn wf dictBody) (ps.map prtD) [.dat (.int many), .dat (.list (ps.map prtD)), .dat (.int least), .dct [], .no, .no, .no, .no] st = _ := e
  have e2 : lcL (lcStep Fn [.dat (.int many), .dat (.list (ps.map prtD)), .dat (.int least), .dct (kvD l), s4, s5, s6, .no] [7] (.nm 7) .none (.dgetOr 3 (.var 7) (.lit (.int 0)))) ((List.range (2 * many).toNat).map fun (k : Nat) => PyData.int (k : Int)) st = .ok (((List.range (2 * many).toNat).map fun (k : Nat) => accP ps (k : Int)).map .int) st := by
    rw [List.map_map]
    refine lcL_mapT fun k _ => ?_
    have g := getK_kv l (k : Int)
    have := he (k : Int)
    rw [show getL [] (k : Int) = 0 from rfl, Int.zero_add] at this
    rw [this] at g
    simp [lcStep, wipeE, dctOf, g]
  show endOf st (ex Fn wf (.seq (.asgD 3 []) (.seq (.sfor (.tp (.nm 4) (.tp (.nm 5) (.tp (.nm 6) .nil))) (.seq (.var 1)) dictBody) _)) [.dat (.int many), .dat (.list (ps.map prtD)), .dat (.int least), .no, .no, .no, .no, .no] st) = _
  simp only [ex_seq, ex_asgD, keysOk, List.map_nil, List.length_nil, List.nodup_nil, decide_true, Bool.and_self, if_true, Nat.zero_le, Ou.seq, List.set, ex_sfor, evI_seq, ev_var, List.getElem?_cons_succ, List.getElem?_cons_zero, Out.bind, seqD_list, Out.ofO, Out.thn]
  rw [e]
  simp [gIn, noOwn, ownS, bin_mul2, rng1 (show 0 ≤ 2 * many by omega) (show 2 * many < 2 ^ 62 by omega), e2, okL, rowD, lineOf, show 2 * many ≤ 16777216 by omega]
end
end Pl

set_option maxHeartbeats 1000000
/-! R2: rows by the laws' own account; base, less, both ways. -/
namespace Pl
open PySem Pm
section
variable {Fn : Fs} {wf : Nat} {st : Store}
def tabI (n : Nat) (f : Int → Int) : List PyData := (List.range n).map fun (k : Nat) => .int (f (k : Int))
theorem tabI_len (n : Nat) (f : Int → Int) : (tabI n f).length = n := by simp [tabI]
theorem tabI_at {n : Nat} {f : Int → Int} {z : Int} (h0 : 0 ≤ z) (h1 : z < n) : atD (tabI n f) z = some (.int (f z)) := by
  rw [at_nn h0]
  unfold tabI
  rw [List.getElem?_map, List.getElem?_range (by omega)]
  show some (PyData.int (f (z.toNat : Int))) = _
  rw [show (z.toNat : Int) = z by omega]
theorem tabI_set {n : Nat} {f : Int → Int} {z v : Int} (h0 : 0 ≤ z) (h1 : z < n) : (tabI n f).set z.toNat (.int v) = tabI n fun k => if k = z then v else f k := by
  unfold tabI
  refine List.ext_getElem? fun i => ?_
  by_cases hi : i < n
  · by_cases q : z.toNat = i
    · subst q
      rw [List.getElem?_set_self (by simp; omega), List.getElem?_map, List.getElem?_range hi]
      show _ = some (PyData.int (if ((z.toNat : Nat) : Int) = z then v else f (z.toNat : Nat)))
      rw [if_pos (by omega)]
    · rw [List.getElem?_set_ne q, List.getElem?_map, List.getElem?_map, List.getElem?_range hi]
      show _ = some (PyData.int (if ((i : Nat) : Int) = z then v else f (i : Nat)))
      rw [if_neg (by omega)]
      rfl
  · rw [List.getElem?_eq_none (by simp; omega), List.getElem?_eq_none (by simp; omega)]
def setBody : S := .setI 3 (.bin .add (.bin .mul (.lit (.int 2)) (.var 4)) (.var 5)) (.bin .add (.idxV 3 (.bin .add (.bin .mul (.lit (.int 2)) (.var 4)) (.var 5))) (.var 6))
theorem set_loop {s0 s1 s2 s7 : Slot} {n : Nat} : ∀ (ps : List Part) (f : Int → Int) (s4 s5 s6 : Slot), (∀ p ∈ ps, 0 ≤ place p ∧ place p < n) →
    ∃ (s4' s5' s6' : Slot), forL (.tp (.nm 4) (.tp (.nm 5) (.tp (.nm 6) .nil))) (ex Fn wf setBody) (ps.map prtD) [s0, s1, s2, .lst (tabI n f), s4, s5, s6, s7] st = .nxt [s0, s1, s2, .lst (tabI n fun k => f k + accP ps k), s4', s5', s6', s7] st
  | [], f, s4, s5, s6, _ => ⟨s4, s5, s6, by simp [accP]⟩
  | p :: ps, f, s4, s5, s6, h => by
    obtain ⟨h0, h1⟩ := h p List.mem_cons_self
    obtain ⟨s4', s5', s6', e⟩ := set_loop ps (fun k => if k = place p then f (place p) + p.2.2 else f k) (.dat (.int p.1)) (.dat (.int p.2.1)) (.dat (.int p.2.2)) fun q hq => h q (List.mem_cons_of_mem _ hq)
    refine ⟨s4', s5', s6', ?_⟩
    rw [List.map_cons, forL_cons]
    have eb : ex Fn wf setBody [s0, s1, s2, .lst (tabI n f), .dat (.int p.1), .dat (.int p.2.1), .dat (.int p.2.2), s7] st = .nxt [s0, s1, s2, .lst (tabI n fun k => if k = place p then f (place p) + p.2.2 else f k), .dat (.int p.1), .dat (.int p.2.1), .dat (.int p.2.2), s7] st := by
      have a := tabI_at (f := f) h0 h1
      have b := tabI_set (f := f) (v := f (place p) + p.2.2) h0 h1
      have c : L2.ixN n (place p) = some (place p).toNat := by
        unfold L2.ixN
        rw [if_pos h0, if_pos h1]
      unfold place at a b c ⊢
      simp [setBody, ex_setI, seen, bin_mul2, peekD, a, tabI_len, c, b]
    simp only [prtD, setG_part, List.set, eb]
    have e2 : (fun k => (if k = place p then f (place p) + p.2.2 else f k) + accP ps k) = fun k => f k + accP (p :: ps) k := by
      funext k
      show _ = f k + ((if place p = k then p.2.2 else 0) + accP ps k)
      by_cases q : k = place p
      · subst q; simp; omega
      · rw [if_neg q, if_neg (fun z => q z.symm)]; omega
    rw [← e2]
    exact e
theorem law_line_run {many least : Int} {ps : List Part} (h0 : 0 ≤ many) (h1 : many < 100) (hp : ∀ p ∈ ps, 0 ≤ place p ∧ place p < 2 * many) : endOf st (runDef Fn wf Cd.D__law_line [.dat (.int many), .dat (.list (ps.map prtD)), .dat (.int least)] st) = .ok (rowD (lineOf many ps least)) st := by
  rw [runDef_eq rfl]
  obtain ⟨s4, s5, s6, e⟩ := set_loop (Fn := Fn) (wf := wf) (st := st) (s0 := .dat (.int many)) (s1 := .dat (.list (ps.map prtD))) (s2 := .dat (.int least)) (s7 := .no) (n := (2 * many).toNat) ps (fun _ => 0) .no .no .no fun p hp' => by
    have := hp p hp'
    omega
  have e2 : lcL (lcStep Fn [.dat (.int many), .dat (.list (ps.map prtD)), .dat (.int least), .no, .no, .no, .no, .no] [7] (.nm 7) .none (.lit (.int 0))) ((List.range (2 * many).toNat).map fun (k : Nat) => PyData.int (k : Int)) st = .ok (tabI (2 * many).toNat fun _ => 0) st :=
    lcL_mapT fun k _ => by simp [lcStep, wipeE]
  show endOf st (ex Fn wf (.seq (.asgO 3 (.lc [7] (.nm 7) (.rng1 (.bin .mul (.lit (.int 2)) (.var 0))) .none (.lit (.int 0)))) (.seq (.sfor (.tp (.nm 4) (.tp (.nm 5) (.tp (.nm 6) .nil))) (.seq (.var 1)) setBody) _)) [.dat (.int many), .dat (.list (ps.map prtD)), .dat (.int least), .no, .no, .no, .no, .no] st) = _
  have ea : ex Fn wf (.asgO 3 (.lc [7] (.nm 7) (.rng1 (.bin .mul (.lit (.int 2)) (.var 0))) .none (.lit (.int 0)))) [.dat (.int many), .dat (.list (ps.map prtD)), .dat (.int least), .no, .no, .no, .no, .no] st = .nxt [.dat (.int many), .dat (.list (ps.map prtD)), .dat (.int least), .lst (tabI (2 * many).toNat fun _ => 0), .no, .no, .no, .no] st := by
    simp [isFresh, gIn, noOwn, ownS, bin_mul2, rng1 (show 0 ≤ 2 * many by omega) (show 2 * many < 2 ^ 62 by omega), e2, okL, tabI_len, show 2 * many ≤ 16777216 by omega]
  rw [ex_seq, ea]
  simp only [Ou.seq, ex_seq, ex_sfor, evI_seq, ev_var, List.getElem?_cons_succ, List.getElem?_cons_zero, Out.bind, seqD_list, Out.ofO, Out.thn]
  rw [e]
  simp [fzE, fzS, rowD, lineOf, tabI]
end
end Pl

set_option maxHeartbeats 1000000
/-! R3: what every sheet keeps; clauses. -/
namespace Pl
open PySem Pm
def lessR (many one other side least : Int) : Row := lineOf many [(other, side, 1), (one, side, -1)] least
def baseR (many : Int) : List Row := (List.range many.toNat).flatMap fun (k : Nat) => [lineOf many [((k : Int), 0, 1)] 1, lineOf many [((k : Int), 1, 1), ((k : Int), 0, -1)] 0]
def wayR (many a b c k i j : Int) : Way := [lineOf many [(c, k, 1), (a, i, -1), (b, j, -1)] 1, lineOf many [(c, 1 - k, 1), (a, 1 - i, -1)] 1, lineOf many [(c, 1 - k, 1), (b, 1 - j, -1)] 1]
def bothR (many a b c : Int) : Clause := [wayR many a b c 0 0 0, wayR many a b c 0 0 1, wayR many a b c 0 1 0, wayR many a b c 0 1 1, wayR many a b c 1 0 0, wayR many a b c 1 0 1, wayR many a b c 1 1 0, wayR many a b c 1 1 1]
def otherR (r : Row) : Row := (r.1.map fun x => -x, 0)
def clausesR (many : Int) : Stm → List Clause
  | .on a b => [[[lessR many a b 0 1, lessR many a b 1 1]]]
  | .off a b => [[[lessR many b a 0 0], [lessR many b a 1 0]]]
  | .like a b => [[[lessR many b a 0 0, lessR many a b 0 0, lessR many b a 1 0, lessR many a b 1 0]]]
  | .unlike a b => [[[lessR many a b 0 1], [lessR many b a 0 1], [lessR many a b 1 1], [lessR many b a 1 1]]]
  | .both a b c => [bothR many a b c]
  | .notboth a b c => (bothR many a b c).map fun way => way.map fun r => [otherR r]
/-- a program's line_of, by its name -/
def SpLine (Fn : Fs) (x : Str) : Prop := ∀ (many least : Int) (ps : List Part) (st : Store), 0 ≤ many → many < 100 → ps.length < 50 → (∀ p ∈ ps, 0 ≤ place p ∧ place p < 2 * many) → Fn.call x [.dat (.int many), .dat (.list (ps.map prtD)), .dat (.int least)] st = .ok (rowD (lineOf many ps least)) st
section
variable {Fn : Fs} {wf : Nat} {st : Store} {x : Str}
theorem SpLine.one (H : SpLine Fn x) {many least a d n : Int} (h0 : 0 ≤ many) (h1 : many < 100) (p : 0 ≤ 2 * a + d ∧ 2 * a + d < 2 * many) (st : Store) : Fn.call x [.dat (.int many), .dat (.list [.tuple [.int a, .int d, .int n]]), .dat (.int least)] st = .ok (rowD (lineOf many [(a, d, n)] least)) st :=
  H many least [(a, d, n)] st h0 h1 (by simp) fun q hq => by
    rw [List.mem_singleton] at hq
    subst hq
    exact p
theorem SpLine.two (H : SpLine Fn x) {many least a d n b e m : Int} (h0 : 0 ≤ many) (h1 : many < 100) (p : 0 ≤ 2 * a + d ∧ 2 * a + d < 2 * many) (q : 0 ≤ 2 * b + e ∧ 2 * b + e < 2 * many) (st : Store) : Fn.call x [.dat (.int many), .dat (.list [.tuple [.int a, .int d, .int n], .tuple [.int b, .int e, .int m]]), .dat (.int least)] st = .ok (rowD (lineOf many [(a, d, n), (b, e, m)] least)) st :=
  H many least [(a, d, n), (b, e, m)] st h0 h1 (by simp) fun z hz => by
    rcases List.mem_cons.mp hz with rfl | hz
    · exact p
    · rw [List.mem_singleton] at hz
      subst hz
      exact q
theorem SpLine.three (H : SpLine Fn x) {many least a d n b e m c f l : Int} (h0 : 0 ≤ many) (h1 : many < 100) (p : 0 ≤ 2 * a + d ∧ 2 * a + d < 2 * many) (q : 0 ≤ 2 * b + e ∧ 2 * b + e < 2 * many) (r : 0 ≤ 2 * c + f ∧ 2 * c + f < 2 * many) (st : Store) :
    Fn.call x [.dat (.int many), .dat (.list [.tuple [.int a, .int d, .int n], .tuple [.int b, .int e, .int m], .tuple [.int c, .int f, .int l]]), .dat (.int least)] st = .ok (rowD (lineOf many [(a, d, n), (b, e, m), (c, f, l)] least)) st :=
  H many least [(a, d, n), (b, e, m), (c, f, l)] st h0 h1 (by simp) fun z hz => by
    rcases List.mem_cons.mp hz with rfl | hz
    · exact p
    · rcases List.mem_cons.mp hz with rfl | hz
      · exact q
      · rw [List.mem_singleton] at hz
        subst hz
        exact r
/-! ### what every sheet keeps -/
def baseBody (x : Str) : S := .seq (.app 1 (.call x (.cons (.var 0) (.cons (.lst (.cons (.tup (.cons (.var 2) (.cons (.lit (.int 0)) (.cons (.lit (.int 1)) .nil)))) .nil)) (.cons (.lit (.int 1)) .nil))))) (.app 1 (.call x (.cons (.var 0) (.cons (.lst (.cons (.tup (.cons (.var 2) (.cons (.lit (.int 1)) (.cons (.lit (.int 1)) .nil)))) (.cons (.tup (.cons (.var 2) (.cons (.lit (.int 0)) (.cons (.neg (.lit (.int 1))) .nil)))) .nil))) (.cons (.lit (.int 0)) .nil)))))
theorem base_loop (H : SpLine Fn x) {many : Int} (h0 : 0 ≤ many) (h1 : many < 100) : ∀ (ks : List Nat) (l : List Row) (s2 : Slot), (∀ k ∈ ks, (k : Int) < many) → l.length + 2 * ks.length < 1000 →
    ∃ s2', forL (.nm 2) (ex Fn wf (baseBody x)) (ks.map fun (k : Nat) => PyData.int (k : Int)) [.dat (.int many), .lst (l.map rowD), s2] st = .nxt [.dat (.int many), .lst ((l ++ ks.flatMap fun (k : Nat) => [lineOf many [((k : Int), 0, 1)] 1, lineOf many [((k : Int), 1, 1), ((k : Int), 0, -1)] 0]).map rowD), s2'] st
  | [], l, s2, _, _ => ⟨s2, by simp⟩
  | k :: ks, l, s2, h, hl => by
    have hk := h k List.mem_cons_self
    simp only [List.length_cons] at hl
    obtain ⟨s2', e⟩ := base_loop H h0 h1 ks (l ++ [lineOf many [((k : Int), 0, 1)] 1, lineOf many [((k : Int), 1, 1), ((k : Int), 0, -1)] 0]) (.dat (.int (k : Int))) (fun j hj => h j (List.mem_cons_of_mem _ hj)) (by simp; omega)
    refine ⟨s2', ?_⟩
    rw [List.map_cons, forL_cons, setG_nm]
    have e1 := H.one (least := 1) (a := k) (d := 0) (n := 1) h0 h1 (by omega) st
    have e2 := H.two (least := 0) (a := k) (d := 1) (n := 1) (b := k) (e := 0) (m := -1) h0 h1 (by omega) (by omega) st
    have eb : ex Fn wf (baseBody x) ([.dat (.int many), .lst (l.map rowD), s2].set 2 (.dat (.int (k : Int)))) st = .nxt [.dat (.int many), .lst ((l ++ [lineOf many [((k : Int), 0, 1)] 1, lineOf many [((k : Int), 1, 1), ((k : Int), 0, -1)] 0]).map rowD), .dat (.int (k : Int))] st := by
      simp [baseBody, isLst, e1, e2, show l.length + 1 ≤ 16777216 by omega, show l.length + 1 + 1 ≤ 16777216 by omega]
    simp only [eb]
    rw [e]
    simp
theorem base_go (H : SpLine Fn x) {many : Int} (h0 : 0 ≤ many) (h1 : many < 100) : endOf st (ex Fn wf (.seq (.asgO 1 (.lst .nil)) (.seq (.sfor (.nm 2) (.rng1 (.var 0)) (baseBody x)) (.seq (.fz [1]) (.ret (.var 1))))) [.dat (.int many), .no, .no] st) = .ok (wayD (baseR many)) st := by
  obtain ⟨s2', e⟩ := base_loop (wf := wf) (st := st) H h0 h1 (List.range many.toNat) [] .no (fun k hk => by have := List.mem_range.mp hk; omega) (by simp; omega)
  have e : forL (.nm 2) (ex Fn wf (baseBody x)) ((List.range many.toNat).map fun (k : Nat) => PyData.int (k : Int)) [.dat (.int many), .lst [], .no] st = _ := e
  simp [-ex_app, isFresh, rng1 h0 (show many < 2 ^ 62 by omega), e, fzE, fzS, wayD, baseR]
theorem base_run (H : SpLine Fn (Str.ofString "line_of")) {many : Int} (h0 : 0 ≤ many) (h1 : many < 100) : endOf st (runDef Fn wf Cd.D_base [.dat (.int many)] st) = .ok (wayD (baseR many)) st := by
  rw [runDef_eq rfl]
  exact base_go H h0 h1
theorem law_base_run (H : SpLine Fn (Str.ofString "_law_line")) {many : Int} (h0 : 0 ≤ many) (h1 : many < 100) : endOf st (runDef Fn wf Cd.D__law_base [.dat (.int many)] st) = .ok (wayD (baseR many)) st := by
  rw [runDef_eq rfl]
  exact base_go H h0 h1
theorem less_run (H : SpLine Fn (Str.ofString "line_of")) {many a b d least : Int} (h0 : 0 ≤ many) (h1 : many < 100) (ha : 0 ≤ 2 * a + d ∧ 2 * a + d < 2 * many) (hb : 0 ≤ 2 * b + d ∧ 2 * b + d < 2 * many) :
    endOf st (runDef Fn wf Cd.D_less [.dat (.int many), .dat (.int a), .dat (.int b), .dat (.int d), .dat (.int least)] st) = .ok (rowD (lessR many a b d least)) st := by
  rw [runDef_eq rfl]
  have e := H.two (least := least) (a := b) (d := d) (n := 1) (b := a) (e := d) (m := -1) h0 h1 hb ha st
  simp [Cd.D_less, Cd.c_less, startE, e, lessR]
theorem law_more_run (H : SpLine Fn (Str.ofString "_law_line")) {many a b d least : Int} (h0 : 0 ≤ many) (h1 : many < 100) (ha : 0 ≤ 2 * a + d ∧ 2 * a + d < 2 * many) (hb : 0 ≤ 2 * b + d ∧ 2 * b + d < 2 * many) :
    endOf st (runDef Fn wf Cd.D__law_more [.dat (.int many), .dat (.int b), .dat (.int a), .dat (.int d), .dat (.int least)] st) = .ok (rowD (lessR many a b d least)) st := by
  rw [runDef_eq rfl]
  have e := H.two (least := least) (a := b) (d := d) (n := 1) (b := a) (e := d) (m := -1) h0 h1 hb ha st
  simp [Cd.D__law_more, Cd.c__law_more, startE, e, lessR]
theorem other_run {r : Row} (hr : r.1.length ≤ 1000) : endOf st (runDef Fn wf Cd.D_other_line [.dat (rowD r)] st) = .ok (rowD (otherR r)) st := by
  rw [runDef_eq rfl]
  have e : lcL (lcStep Fn [.dat (.tuple [.tuple (r.1.map .int), .int r.2]), .no] [1] (.nm 1) .none (.neg (.var 1))) (r.1.map .int) st = .ok (r.1.map fun x => .int (-x)) st :=
    lcL_mapT fun z _ => by simp [lcStep, wipeE]
  have e2 : (r.1.map PyData.int).length = r.1.length := List.length_map ..
  simp only [Cd.D_other_line, Cd.c_other_line, startE, rowD, otherR]
  simp [gIn, noOwn, ownS, e, okL, show r.1.length ≤ 16777216 by omega]
end
end Pl

set_option maxHeartbeats 1000000
/-! R4: clauses. -/
namespace Pl
open PySem Pm
section
variable {Fn : Fs} {wf : Nat} {st : Store} {x : Str}
def wBody : S := .seq (.asg 8 (.call (Str.ofString "line_of") (.cons (.var 0) (.cons (.lst (.cons (.tup (.cons (.var 3) (.cons (.var 5) (.cons (.lit (.int 1)) .nil)))) (.cons (.tup (.cons (.var 1) (.cons (.var 6) (.cons (.neg (.lit (.int 1))) .nil)))) (.cons (.tup (.cons (.var 2) (.cons (.var 7) (.cons (.neg (.lit (.int 1))) .nil)))) .nil)))) (.cons (.lit (.int 1)) .nil))))) (.seq (.asg 9 (.call (Str.ofString "line_of") (.cons (.var 0) (.cons (.lst (.cons (.tup (.cons (.var 3) (.cons (.bin .sub (.lit (.int 1)) (.var 5)) (.cons (.lit (.int 1)) .nil)))) (.cons (.tup (.cons (.var 1) (.cons (.bin .sub (.lit (.int 1)) (.var 6)) (.cons (.neg (.lit (.int 1))) .nil)))) .nil))) (.cons (.lit (.int 1)) .nil))))) (.app 4 (.lst (.cons (.var 8) (.cons (.var 9) (.cons (.call (Str.ofString "line_of") (.cons (.var 0) (.cons (.lst (.cons (.tup (.cons (.var 3) (.cons (.bin .sub (.lit (.int 1)) (.var 5)) (.cons (.lit (.int 1)) .nil)))) (.cons (.tup (.cons (.var 2) (.cons (.bin .sub (.lit (.int 1)) (.var 7)) (.cons (.neg (.lit (.int 1))) .nil)))) .nil))) (.cons (.lit (.int 1)) .nil)))) .nil))))))
/-- places in range -/
structure In3 (many a b c : Int) : Prop where
  m0 : 0 ≤ many
  m1 : many < 100
  a0 : 0 ≤ a
  a1 : a < many
  b0 : 0 ≤ b
  b1 : b < many
  c0 : 0 ≤ c
  c1 : c < many
theorem w_body (H : SpLine Fn (Str.ofString "line_of")) {many a b c k i j : Int} (h : In3 many a b c) (hk : k = 0 ∨ k = 1) (hi : i = 0 ∨ i = 1) (hj : j = 0 ∨ j = 1) {l : List Way} (hl : l.length < 1000) {s8 s9 : Slot} :
    ex Fn wf wBody [.dat (.int many), .dat (.int a), .dat (.int b), .dat (.int c), .lst (l.map wayD), .dat (.int k), .dat (.int i), .dat (.int j), s8, s9] st =
      .nxt [.dat (.int many), .dat (.int a), .dat (.int b), .dat (.int c), .lst ((l ++ [wayR many a b c k i j]).map wayD), .dat (.int k), .dat (.int i), .dat (.int j), .dat (rowD (lineOf many [(c, k, 1), (a, i, -1), (b, j, -1)] 1)), .dat (rowD (lineOf many [(c, 1 - k, 1), (a, 1 - i, -1)] 1))] st := by
  obtain ⟨m0, m1, a0, a1, b0, b1, c0, c1⟩ := h
  have e1 := H.three (least := 1) (a := c) (d := k) (n := 1) (b := a) (e := i) (m := -1) (c := b) (f := j) (l := -1) m0 m1 (by omega) (by omega) (by omega) st
  have e2 := H.two (least := 1) (a := c) (d := 1 - k) (n := 1) (b := a) (e := 1 - i) (m := -1) m0 m1 (by omega) (by omega) st
  have e3 := H.two (least := 1) (a := c) (d := 1 - k) (n := 1) (b := b) (e := 1 - j) (m := -1) m0 m1 (by omega) (by omega) st
  simp [wBody, isLst, e1, e2, e3, show l.length + 1 ≤ 16777216 by omega, wayR, wayD]
theorem w_loopj (H : SpLine Fn (Str.ofString "line_of")) {many a b c k i : Int} (h : In3 many a b c) (hk : k = 0 ∨ k = 1) (hi : i = 0 ∨ i = 1) {l : List Way} (hl : l.length < 900) {s7 s8 s9 : Slot} :
    ∃ s7' s8' s9', ex Fn wf (.sfor (.nm 7) (.seq (.tup (.cons (.lit (.int 0)) (.cons (.lit (.int 1)) .nil)))) wBody) [.dat (.int many), .dat (.int a), .dat (.int b), .dat (.int c), .lst (l.map wayD), .dat (.int k), .dat (.int i), s7, s8, s9] st =
      .nxt [.dat (.int many), .dat (.int a), .dat (.int b), .dat (.int c), .lst ((l ++ [wayR many a b c k i 0, wayR many a b c k i 1]).map wayD), .dat (.int k), .dat (.int i), s7', s8', s9'] st := by
  refine ⟨.dat (.int 1), .dat (rowD (lineOf many [(c, k, 1), (a, i, -1), (b, 1, -1)] 1)), .dat (rowD (lineOf many [(c, 1 - k, 1), (a, 1 - i, -1)] 1)), ?_⟩
  rw [two_loop, forL_cons, setG_nm]
  simp only [List.set]
  rw [w_body H h hk hi (.inl rfl) (by omega)]
  simp only []
  rw [forL_cons, setG_nm]
  simp only [List.set]
  rw [w_body H h hk hi (.inr rfl) (by simp; omega)]
  simp only [forL_nil, List.append_assoc, List.cons_append, List.nil_append]
theorem w_loopi (H : SpLine Fn (Str.ofString "line_of")) {many a b c k : Int} (h : In3 many a b c) (hk : k = 0 ∨ k = 1) {l : List Way} (hl : l.length < 800) {s6 s7 s8 s9 : Slot} :
    ∃ s6' s7' s8' s9', ex Fn wf (.sfor (.nm 6) (.seq (.tup (.cons (.lit (.int 0)) (.cons (.lit (.int 1)) .nil)))) (.sfor (.nm 7) (.seq (.tup (.cons (.lit (.int 0)) (.cons (.lit (.int 1)) .nil)))) wBody)) [.dat (.int many), .dat (.int a), .dat (.int b), .dat (.int c), .lst (l.map wayD), .dat (.int k), s6, s7, s8, s9] st =
      .nxt [.dat (.int many), .dat (.int a), .dat (.int b), .dat (.int c), .lst ((l ++ [wayR many a b c k 0 0, wayR many a b c k 0 1, wayR many a b c k 1 0, wayR many a b c k 1 1]).map wayD), .dat (.int k), s6', s7', s8', s9'] st := by
  obtain ⟨t7, t8, t9, e1⟩ := w_loopj (wf := wf) (st := st) H h hk (i := 0) (.inl rfl) (l := l) (by omega) (s7 := s7) (s8 := s8) (s9 := s9)
  obtain ⟨u7, u8, u9, e2⟩ := w_loopj (wf := wf) (st := st) H h hk (i := 1) (.inr rfl) (l := l ++ [wayR many a b c k 0 0, wayR many a b c k 0 1]) (by simp; omega) (s7 := t7) (s8 := t8) (s9 := t9)
  refine ⟨.dat (.int 1), u7, u8, u9, ?_⟩
  rw [two_loop, forL_cons, setG_nm]
  simp only [List.set]
  rw [e1]
  simp only []
  rw [forL_cons, setG_nm]
  simp only [List.set]
  rw [e2]
  simp only [forL_nil, List.append_assoc, List.cons_append, List.nil_append]
theorem both_ways_run (H : SpLine Fn (Str.ofString "line_of")) {many a b c : Int} (h : In3 many a b c) : endOf st (runDef Fn wf Cd.D_both_ways [.dat (.int many), .dat (.int a), .dat (.int b), .dat (.int c)] st) = .ok (clauseD (bothR many a b c)) st := by
  rw [runDef_eq rfl]
  obtain ⟨t6, t7, t8, t9, e1⟩ := w_loopi (wf := wf) (st := st) H h (k := 0) (.inl rfl) (l := []) (by simp) (s6 := .no) (s7 := .no) (s8 := .no) (s9 := .no)
  obtain ⟨u6, u7, u8, u9, e2⟩ := w_loopi (wf := wf) (st := st) H h (k := 1) (.inr rfl) (l := [wayR many a b c 0 0 0, wayR many a b c 0 0 1, wayR many a b c 0 1 0, wayR many a b c 0 1 1]) (by simp) (s6 := t6) (s7 := t7) (s8 := t8) (s9 := t9)
  show endOf st (ex Fn wf (.seq (.asgO 4 (.lst .nil)) (.seq (.sfor (.nm 5) (.seq (.tup (.cons (.lit (.int 0)) (.cons (.lit (.int 1)) .nil)))) (.sfor (.nm 6) (.seq (.tup (.cons (.lit (.int 0)) (.cons (.lit (.int 1)) .nil)))) (.sfor (.nm 7) (.seq (.tup (.cons (.lit (.int 0)) (.cons (.lit (.int 1)) .nil)))) wBody))) (.seq (.fz [4]) (.ret (.var 4))))) [.dat (.int many), .dat (.int a), .dat (.int b), .dat (.int c), .no, .no, .no, .no, .no, .no] st) = _
  have ea : ex Fn wf (.asgO 4 (.lst .nil)) [.dat (.int many), .dat (.int a), .dat (.int b), .dat (.int c), .no, .no, .no, .no, .no, .no] st = .nxt [.dat (.int many), .dat (.int a), .dat (.int b), .dat (.int c), .lst ([].map wayD), .no, .no, .no, .no, .no] st := by simp [isFresh]
  rw [ex_seq, ea]
  simp only [Ou.seq]
  rw [ex_seq, two_loop, forL_cons, setG_nm]
  simp only [List.set]
  rw [e1]
  simp only [List.nil_append]
  rw [forL_cons, setG_nm]
  simp only [List.set]
  rw [e2]
  simp [fzE, fzS, clauseD, bothR]
end
end Pl

set_option maxHeartbeats 1000000
/-! R5: a statement's clauses. -/
namespace Pl
open PySem Pm
section
variable {Fn : Fs} {wf : Nat} {st : Store}
def SpLess (Fn : Fs) : Prop := ∀ (many a b d least : Int) (st : Store), 0 ≤ many → many < 100 → 0 ≤ a → a < many → 0 ≤ b → b < many → (d = 0 ∨ d = 1) → Fn.call (Str.ofString "less") [.dat (.int many), .dat (.int a), .dat (.int b), .dat (.int d), .dat (.int least)] st = .ok (rowD (lessR many a b d least)) st
theorem lc_single (env : Pm.Env) (l : List Row) (n : Nat) (hn : n < env.length) (he : env[n]? = some .no) : lcL (lcStep Fn env [n] (.nm n) .none (.lst (.cons (.var n) .nil))) (l.map rowD) st = .ok (l.map fun r => wayD [r]) st :=
  lcL_mapT fun r _ => by
    simp [lcStep, wipeE, hn, wayD]
theorem pair_on (H : SpLess Fn) {many a b : Int} (h0 : 0 ≤ many) (h1 : many < 100) (a0 : 0 ≤ a) (a1 : a < many) (b0 : 0 ≤ b) (b1 : b < many) : endOf st (runDef Fn wf Cd.D_pair_clauses [.dat (.int many), .dat (.str (Str.ofString "on")), .dat (.int a), .dat (.int b)] st) = .ok (clausesD (clausesR many (.on a b))) st := by
  rw [runDef_eq rfl]
  have e1 := H many a b 0 1 st h0 h1 a0 a1 b0 b1 (.inl rfl)
  have e2 := H many a b 1 1 st h0 h1 a0 a1 b0 b1 (.inr rfl)
  simp [Cd.D_pair_clauses, Cd.c_pair_clauses, startE, e1, e2, clausesD, clausesR, clauseD, wayD]
theorem pair_off (H : SpLess Fn) {many a b : Int} (h0 : 0 ≤ many) (h1 : many < 100) (a0 : 0 ≤ a) (a1 : a < many) (b0 : 0 ≤ b) (b1 : b < many) : endOf st (runDef Fn wf Cd.D_pair_clauses [.dat (.int many), .dat (.str (Str.ofString "off")), .dat (.int a), .dat (.int b)] st) = .ok (clausesD (clausesR many (.off a b))) st := by
  rw [runDef_eq rfl]
  have e1 := H many b a 0 0 st h0 h1 b0 b1 a0 a1 (.inl rfl)
  have e2 := H many b a 1 0 st h0 h1 b0 b1 a0 a1 (.inr rfl)
  simp [Cd.D_pair_clauses, Cd.c_pair_clauses, startE, e1, e2, clausesD, clausesR, clauseD, wayD]
theorem pair_like (H : SpLess Fn) {many a b : Int} (h0 : 0 ≤ many) (h1 : many < 100) (a0 : 0 ≤ a) (a1 : a < many) (b0 : 0 ≤ b) (b1 : b < many) : endOf st (runDef Fn wf Cd.D_pair_clauses [.dat (.int many), .dat (.str (Str.ofString "like")), .dat (.int a), .dat (.int b)] st) = .ok (clausesD (clausesR many (.like a b))) st := by
  rw [runDef_eq rfl]
  have e1 := H many b a 0 0 st h0 h1 b0 b1 a0 a1 (.inl rfl)
  have e2 := H many b a 1 0 st h0 h1 b0 b1 a0 a1 (.inr rfl)
  have e3 := H many a b 0 0 st h0 h1 a0 a1 b0 b1 (.inl rfl)
  have e4 := H many a b 1 0 st h0 h1 a0 a1 b0 b1 (.inr rfl)
  simp [Cd.D_pair_clauses, Cd.c_pair_clauses, startE, e1, e2, e3, e4, clausesD, clausesR, clauseD, wayD]
theorem pair_unlike (H : SpLess Fn) {many a b : Int} (h0 : 0 ≤ many) (h1 : many < 100) (a0 : 0 ≤ a) (a1 : a < many) (b0 : 0 ≤ b) (b1 : b < many) : endOf st (runDef Fn wf Cd.D_pair_clauses [.dat (.int many), .dat (.str (Str.ofString "unlike")), .dat (.int a), .dat (.int b)] st) = .ok (clausesD (clausesR many (.unlike a b))) st := by
  rw [runDef_eq rfl]
  have e1 := H many b a 0 1 st h0 h1 b0 b1 a0 a1 (.inl rfl)
  have e2 := H many b a 1 1 st h0 h1 b0 b1 a0 a1 (.inr rfl)
  have e3 := H many a b 0 1 st h0 h1 a0 a1 b0 b1 (.inl rfl)
  have e4 := H many a b 1 1 st h0 h1 a0 a1 b0 b1 (.inr rfl)
  simp [Cd.D_pair_clauses, Cd.c_pair_clauses, startE, e1, e2, e3, e4, clausesD, clausesR, clauseD, wayD, gIn, noOwn, ownS, lcL, lcStep, wipeE, okL]
structure SpPair (Fn : Fs) : Prop where
  on : ∀ (many a b : Int) (st : Store), 0 ≤ many → many < 100 → 0 ≤ a → a < many → 0 ≤ b → b < many → Fn.call (Str.ofString "pair_clauses") [.dat (.int many), .dat (.str (Str.ofString "on")), .dat (.int a), .dat (.int b)] st = .ok (clausesD (clausesR many (.on a b))) st
  off : ∀ (many a b : Int) (st : Store), 0 ≤ many → many < 100 → 0 ≤ a → a < many → 0 ≤ b → b < many → Fn.call (Str.ofString "pair_clauses") [.dat (.int many), .dat (.str (Str.ofString "off")), .dat (.int a), .dat (.int b)] st = .ok (clausesD (clausesR many (.off a b))) st
  like : ∀ (many a b : Int) (st : Store), 0 ≤ many → many < 100 → 0 ≤ a → a < many → 0 ≤ b → b < many → Fn.call (Str.ofString "pair_clauses") [.dat (.int many), .dat (.str (Str.ofString "like")), .dat (.int a), .dat (.int b)] st = .ok (clausesD (clausesR many (.like a b))) st
  unlike : ∀ (many a b : Int) (st : Store), 0 ≤ many → many < 100 → 0 ≤ a → a < many → 0 ≤ b → b < many → Fn.call (Str.ofString "pair_clauses") [.dat (.int many), .dat (.str (Str.ofString "unlike")), .dat (.int a), .dat (.int b)] st = .ok (clausesD (clausesR many (.unlike a b))) st
def SpOther (Fn : Fs) : Prop := ∀ (r : Row) (st : Store), r.1.length ≤ 1000 → Fn.call (Str.ofString "other_line") [.dat (rowD r)] st = .ok (rowD (otherR r)) st
def SpWays (Fn : Fs) : Prop := ∀ (many a b c : Int) (st : Store), In3 many a b c → Fn.call (Str.ofString "both_ways") [.dat (.int many), .dat (.int a), .dat (.int b), .dat (.int c)] st = .ok (clauseD (bothR many a b c)) st
theorem line_len (many least : Int) (ps : List Part) : (lineOf many ps least).1.length = (2 * many).toNat := by simp [lineOf]
theorem way_rows {many a b c : Int} (h1 : many < 100) : ∀ w ∈ bothR many a b c, w.length = 3 ∧ ∀ r ∈ w, r.1.length ≤ 1000 := by
  intro w hw
  have key : ∀ k i j : Int, (wayR many a b c k i j).length = 3 ∧ ∀ r ∈ wayR many a b c k i j, r.1.length ≤ 1000 := fun k i j => by
    refine ⟨rfl, fun r hr => ?_⟩
    have : ∃ ps, r = lineOf many ps 1 := by
      rcases List.mem_cons.mp hr with rfl | hr
      · exact ⟨_, rfl⟩
      · rcases List.mem_cons.mp hr with rfl | hr
        · exact ⟨_, rfl⟩
        · rw [List.mem_singleton] at hr
          exact ⟨_, hr⟩
    obtain ⟨ps, rfl⟩ := this
    rw [line_len]
    omega
  simp only [bothR, List.mem_cons, List.not_mem_nil, or_false] at hw
  rcases hw with rfl | rfl | rfl | rfl | rfl | rfl | rfl | rfl <;> exact key _ _ _
theorem clauses_run (C : SpCk Fn) (P : SpPair Fn) (B : SpWays Fn) (O : SpOther Fn) {many : Int} (h0 : 0 ≤ many) (h1 : many < 100) {s : Stm} (h : s.ok many) : endOf st (runDef Fn wf Cd.D_clauses [.dat (.int many), .dat s.d] st) = .ok (clausesD (clausesR many s)) st := by
  rw [runDef_eq rfl]
  have hc := C many s st h
  cases s with
  | on a b =>
    obtain ⟨h2, h3, h4, h5, _⟩ := h
    have e := P.on many a b st h0 h1 h2 h3 h4 h5
    simp only [d_on] at hc
    simp [Cd.D_clauses, Cd.c_clauses, startE, hc, e]
  | off a b =>
    obtain ⟨h2, h3, h4, h5, _⟩ := h
    have e := P.off many a b st h0 h1 h2 h3 h4 h5
    simp only [d_off] at hc
    simp [Cd.D_clauses, Cd.c_clauses, startE, hc, e]
  | like a b =>
    obtain ⟨h2, h3, h4, h5, _⟩ := h
    have e := P.like many a b st h0 h1 h2 h3 h4 h5
    simp only [d_like] at hc
    simp [Cd.D_clauses, Cd.c_clauses, startE, hc, e]
  | unlike a b =>
    obtain ⟨h2, h3, h4, h5, _⟩ := h
    have e := P.unlike many a b st h0 h1 h2 h3 h4 h5
    simp only [d_unlike] at hc
    simp [Cd.D_clauses, Cd.c_clauses, startE, hc, e]
  | both a b c =>
    obtain ⟨h2, h3, h4, h5, h6, h7, _⟩ := h
    have e := B many a b c st ⟨h0, h1, h2, h3, h4, h5, h6, h7⟩
    simp only [d_both] at hc
    simp [Cd.D_clauses, Cd.c_clauses, startE, hc, e, clausesD, clausesR]
  | notboth a b c =>
    obtain ⟨h2, h3, h4, h5, h6, h7, _⟩ := h
    have e := B many a b c st ⟨h0, h1, h2, h3, h4, h5, h6, h7⟩
    simp only [d_notboth] at hc
    have hw := way_rows (a := a) (b := b) (c := c) h1
    have hl : (bothR many a b c).length = 8 := rfl
    generalize hcl : bothR many a b c = cl at e hw hl
    have e2 : lcL (lcStep Fn [.dat (.int many), .dat (.tuple [.str (Str.ofString "notboth"), .int a, .int b, .int c]), .dat (.list (cl.map wayD)), .no, .no] [3] (.nm 3) .none (.lc [4] (.nm 4) (.seq (.var 3)) .none (.lst (.cons (.call (Str.ofString "other_line") (.cons (.var 4) .nil)) .nil)))) (cl.map wayD) st = .ok (cl.map fun way => clauseD (way.map fun r => [otherR r])) st := by
      refine lcL_mapT fun w hw' => ?_
      obtain ⟨hl3, hr⟩ := hw w hw'
      have e3 : lcL (lcStep Fn [.dat (.int many), .dat (.tuple [.str (Str.ofString "notboth"), .int a, .int b, .int c]), .dat (.list (cl.map wayD)), .dat (.list (w.map rowD)), .no] [4] (.nm 4) .none (.lst (.cons (.call (Str.ofString "other_line") (.cons (.var 4) .nil)) .nil))) (w.map rowD) st = .ok (w.map fun r => wayD [otherR r]) st := by
        refine lcL_mapT fun r hr' => ?_
        have := O r st (hr r hr')
        simp [lcStep, wipeE, this, wayD]
      have hE : ev Fn (.lc [4] (.nm 4) (.seq (.var 3)) .none (.lst (.cons (.call (Str.ofString "other_line") (.cons (.var 4) .nil)) .nil))) [.dat (.int many), .dat (.tuple [.str (Str.ofString "notboth"), .int a, .int b, .int c]), .dat (.list (cl.map wayD)), .dat (.list (w.map rowD)), .no] st = .ok (clauseD (w.map fun r => [otherR r])) st := by
        have e3 := e3
        generalize hw3 : w.map rowD = wd at e3 ⊢
        simp [gIn, noOwn, ownS, e3, okL, hl3, clauseD]
      generalize cl.map wayD = cd at hE
      have hE' : ev Fn (.lc [4] (.nm 4) (.seq (.var 3)) .none (.lst (.cons (.call (Str.ofString "other_line") (.cons (.var 4) .nil)) .nil))) [.dat (.int many), .dat (.tuple [.str (Str.ofString "notboth"), .int a, .int b, .int c]), .dat (.list cd), .dat (wayD w), .no] st = .ok (clauseD (w.map fun r => [otherR r])) st := hE
      generalize (E.lc [4] (.nm 4) (.seq (.var 3)) .none (.lst (.cons (.call (Str.ofString "other_line") (.cons (.var 4) .nil)) .nil))) = inner at hE'
      simp [lcStep, wipeE, hE']
    have e5 : clausesD (clausesR many (.notboth a b c)) = .list ((bothR many a b c).map fun way => clauseD (way.map fun r => [otherR r])) := by
      simp [clausesD, clausesR]
    rw [e5]
    have hcl2 : cl = bothR many a b c := hcl.symm
    rw [← hcl2]
    simp only [clauseD] at e e2 ⊢
    generalize hin : (E.lc [4] (.nm 4) (.seq (.var 3)) .none (.lst (.cons (.call (Str.ofString "other_line") (.cons (.var 4) .nil)) .nil))) = inner at e2
    simp only [Cd.D_clauses, Cd.c_clauses, hin]
    simp [startE, hc, e, gIn, noOwn, ownS, e2, okL, hl]
end
end Pl

set_option maxHeartbeats 1000000
/-! R6: the law's own clauses. -/
namespace Pl
open PySem Pm
section
variable {Fn : Fs} {wf : Nat} {st : Store} {x : Str}
def eBody : S := .seq (.par3 6 7 8 (.bin .fdiv (.var 5) (.lit (.int 4))) (.bin .mod (.bin .fdiv (.var 5) (.lit (.int 2))) (.lit (.int 2))) (.bin .mod (.var 5) (.lit (.int 2)))) (.seq (.asg 9 (.call (Str.ofString "_law_line") (.cons (.var 0) (.cons (.lst (.cons (.tup (.cons (.var 3) (.cons (.var 6) (.cons (.lit (.int 1)) .nil)))) (.cons (.tup (.cons (.var 1) (.cons (.var 7) (.cons (.neg (.lit (.int 1))) .nil)))) (.cons (.tup (.cons (.var 2) (.cons (.var 8) (.cons (.neg (.lit (.int 1))) .nil)))) .nil)))) (.cons (.lit (.int 1)) .nil))))) (.seq (.asg 10 (.call (Str.ofString "_law_line") (.cons (.var 0) (.cons (.lst (.cons (.tup (.cons (.var 3) (.cons (.bin .sub (.lit (.int 1)) (.var 6)) (.cons (.lit (.int 1)) .nil)))) (.cons (.tup (.cons (.var 1) (.cons (.bin .sub (.lit (.int 1)) (.var 7)) (.cons (.neg (.lit (.int 1))) .nil)))) .nil))) (.cons (.lit (.int 1)) .nil))))) (.app 4 (.lst (.cons (.var 9) (.cons (.var 10) (.cons (.call (Str.ofString "_law_line") (.cons (.var 0) (.cons (.lst (.cons (.tup (.cons (.var 3) (.cons (.bin .sub (.lit (.int 1)) (.var 6)) (.cons (.lit (.int 1)) .nil)))) (.cons (.tup (.cons (.var 2) (.cons (.bin .sub (.lit (.int 1)) (.var 8)) (.cons (.neg (.lit (.int 1))) .nil)))) .nil))) (.cons (.lit (.int 1)) .nil)))) .nil)))))))
theorem e_body (H : SpLine Fn (Str.ofString "_law_line")) {many a b c n k i j : Int} (h : In3 many a b c) (hk : k = 0 ∨ k = 1) (hi : i = 0 ∨ i = 1) (hj : j = 0 ∨ j = 1) (q1 : n / 4 = k) (q2 : n / 2 % 2 = i) (q3 : n % 2 = j) {l : List Way} (hl : l.length < 1000) {s6 s7 s8 s9 s10 : Slot} :
    ∃ s9' s10', ex Fn wf eBody [.dat (.int many), .dat (.int a), .dat (.int b), .dat (.int c), .lst (l.map wayD), .dat (.int n), s6, s7, s8, s9, s10] st =
      .nxt [.dat (.int many), .dat (.int a), .dat (.int b), .dat (.int c), .lst ((l ++ [wayR many a b c k i j]).map wayD), .dat (.int n), .dat (.int k), .dat (.int i), .dat (.int j), s9', s10'] st := by
  obtain ⟨m0, m1, a0, a1, b0, b1, c0, c1⟩ := h
  have e1 := H.three (least := 1) (a := c) (d := k) (n := 1) (b := a) (e := i) (m := -1) (c := b) (f := j) (l := -1) m0 m1 (by omega) (by omega) (by omega) st
  have e2 := H.two (least := 1) (a := c) (d := 1 - k) (n := 1) (b := a) (e := 1 - i) (m := -1) m0 m1 (by omega) (by omega) st
  have e3 := H.two (least := 1) (a := c) (d := 1 - k) (n := 1) (b := b) (e := 1 - j) (m := -1) m0 m1 (by omega) (by omega) st
  refine ⟨.dat (rowD (lineOf many [(c, k, 1), (a, i, -1), (b, j, -1)] 1)), .dat (rowD (lineOf many [(c, 1 - k, 1), (a, 1 - i, -1)] 1)), ?_⟩
  simp [eBody, bin_fdiv, bin_mod, q1, q2, q3, isLst, e1, e2, e3, show l.length + 1 ≤ 16777216 by omega, wayR, wayD]
theorem law_eight_run (H : SpLine Fn (Str.ofString "_law_line")) {many a b c : Int} (h : In3 many a b c) : endOf st (runDef Fn wf Cd.D__law_eight [.dat (.int many), .dat (.int a), .dat (.int b), .dat (.int c)] st) = .ok (clauseD (bothR many a b c)) st := by
  rw [runDef_eq rfl]
  have step : ∀ (n k i j : Int) (l : List Way) (s6 s7 s8 s9 s10 : Slot), (k = 0 ∨ k = 1) → (i = 0 ∨ i = 1) → (j = 0 ∨ j = 1) → n / 4 = k → n / 2 % 2 = i → n % 2 = j → l.length < 1000 → ∃ s9' s10', ex Fn wf eBody [.dat (.int many), .dat (.int a), .dat (.int b), .dat (.int c), .lst (l.map wayD), .dat (.int n), s6, s7, s8, s9, s10] st =
      .nxt [.dat (.int many), .dat (.int a), .dat (.int b), .dat (.int c), .lst ((l ++ [wayR many a b c k i j]).map wayD), .dat (.int n), .dat (.int k), .dat (.int i), .dat (.int j), s9', s10'] st := fun n k i j l s6 s7 s8 s9 s10 hk hi hj q1 q2 q3 hl => e_body H h hk hi hj q1 q2 q3 hl
  obtain ⟨t9, t10, e0⟩ := step 0 0 0 0 [] .no .no .no .no .no (.inl rfl) (.inl rfl) (.inl rfl) rfl rfl rfl (by simp)
  obtain ⟨u9, u10, e1⟩ := step 1 0 0 1 [wayR many a b c 0 0 0] (.dat (.int 0)) (.dat (.int 0)) (.dat (.int 0)) t9 t10 (.inl rfl) (.inl rfl) (.inr rfl) rfl rfl rfl (by simp)
  obtain ⟨v9, v10, e2⟩ := step 2 0 1 0 [wayR many a b c 0 0 0, wayR many a b c 0 0 1] (.dat (.int 0)) (.dat (.int 0)) (.dat (.int 1)) u9 u10 (.inl rfl) (.inr rfl) (.inl rfl) rfl rfl rfl (by simp)
  obtain ⟨w9, w10, e3⟩ := step 3 0 1 1 [wayR many a b c 0 0 0, wayR many a b c 0 0 1, wayR many a b c 0 1 0] (.dat (.int 0)) (.dat (.int 1)) (.dat (.int 0)) v9 v10 (.inl rfl) (.inr rfl) (.inr rfl) rfl rfl rfl (by simp)
  obtain ⟨x9, x10, e4⟩ := step 4 1 0 0 [wayR many a b c 0 0 0, wayR many a b c 0 0 1, wayR many a b c 0 1 0, wayR many a b c 0 1 1] (.dat (.int 0)) (.dat (.int 1)) (.dat (.int 1)) w9 w10 (.inr rfl) (.inl rfl) (.inl rfl) rfl rfl rfl (by simp)
  obtain ⟨y9, y10, e5⟩ := step 5 1 0 1 [wayR many a b c 0 0 0, wayR many a b c 0 0 1, wayR many a b c 0 1 0, wayR many a b c 0 1 1, wayR many a b c 1 0 0] (.dat (.int 1)) (.dat (.int 0)) (.dat (.int 0)) x9 x10 (.inr rfl) (.inl rfl) (.inr rfl) rfl rfl rfl (by simp)
  obtain ⟨z9, z10, e6⟩ := step 6 1 1 0 [wayR many a b c 0 0 0, wayR many a b c 0 0 1, wayR many a b c 0 1 0, wayR many a b c 0 1 1, wayR many a b c 1 0 0, wayR many a b c 1 0 1] (.dat (.int 1)) (.dat (.int 0)) (.dat (.int 1)) y9 y10 (.inr rfl) (.inr rfl) (.inl rfl) rfl rfl rfl (by simp)
  obtain ⟨p9, p10, e7⟩ := step 7 1 1 1 [wayR many a b c 0 0 0, wayR many a b c 0 0 1, wayR many a b c 0 1 0, wayR many a b c 0 1 1, wayR many a b c 1 0 0, wayR many a b c 1 0 1, wayR many a b c 1 1 0] (.dat (.int 1)) (.dat (.int 1)) (.dat (.int 0)) z9 z10 (.inr rfl) (.inr rfl) (.inr rfl) rfl rfl rfl (by simp)
  have r8 : rng1D (.int 8) = some [.int 0, .int 1, .int 2, .int 3, .int 4, .int 5, .int 6, .int 7] := rng1 (by decide) (by decide)
  show endOf st (ex Fn wf (.seq (.asgO 4 (.lst .nil)) (.seq (.sfor (.nm 5) (.rng1 (.lit (.int 8))) eBody) (.seq (.fz [4]) (.ret (.var 4))))) [.dat (.int many), .dat (.int a), .dat (.int b), .dat (.int c), .no, .no, .no, .no, .no, .no, .no] st) = _
  have ea : ex Fn wf (.asgO 4 (.lst .nil)) [.dat (.int many), .dat (.int a), .dat (.int b), .dat (.int c), .no, .no, .no, .no, .no, .no, .no] st = .nxt [.dat (.int many), .dat (.int a), .dat (.int b), .dat (.int c), .lst ([].map wayD), .no, .no, .no, .no, .no, .no] st := by simp [isFresh]
  rw [ex_seq, ea]
  simp only [Ou.seq, ex_seq, ex_sfor, evI_rng1, ev_lit, Lit.d, Out.bind, r8, Out.ofO, Out.thn]
  simp only [forL_cons, setG_nm, List.set, e0, e1, e2, e3, e4, e5, e6, e7, List.nil_append, List.cons_append, forL_nil]
  simp [fzE, fzS, clauseD, bothR]
end
end Pl

set_option maxHeartbeats 1000000
/-! R7: the law's own clauses of a statement. -/
namespace Pl
open PySem Pm
section
variable {Fn : Fs} {wf : Nat} {st : Store} {x : Str}
def SpMore (Fn : Fs) : Prop := ∀ (many a b d least : Int) (st : Store), 0 ≤ many → many < 100 → 0 ≤ a → a < many → 0 ≤ b → b < many → (d = 0 ∨ d = 1) → Fn.call (Str.ofString "_law_more") [.dat (.int many), .dat (.int b), .dat (.int a), .dat (.int d), .dat (.int least)] st = .ok (rowD (lessR many a b d least)) st
def SpEight (Fn : Fs) : Prop := ∀ (many a b c : Int) (st : Store), In3 many a b c → Fn.call (Str.ofString "_law_eight") [.dat (.int many), .dat (.int a), .dat (.int b), .dat (.int c)] st = .ok (clauseD (bothR many a b c)) st
@[simp] theorem setG_three {a b c : PyData} {env : Pm.Env} : setG (.tp (.nm 2) (.tp (.nm 3) (.tp (.nm 4) .nil))) (.tuple [a, b, c]) env = some (((env.set 2 (.dat a)).set 3 (.dat b)).set 4 (.dat c)) := by
  simp [setG, setGs]
theorem lawcl_on (H : SpMore Fn) {many a b : Int} (h0 : 0 ≤ many) (h1 : many < 100) (h : (Stm.on a b).ok many) : endOf st (runDef Fn wf Cd.D__law_clauses [.dat (.int many), .dat (Stm.on a b).d] st) = .ok (clausesD (clausesR many (.on a b))) st := by
  rw [runDef_eq rfl]
  obtain ⟨a0, a1, b0, b1, _⟩ := h
  have e1 := H many a b 0 1 st h0 h1 a0 a1 b0 b1 (.inl rfl)
  have e2 := H many a b 1 1 st h0 h1 a0 a1 b0 b1 (.inr rfl)
  simp [Cd.D__law_clauses, Cd.c__law_clauses, startE, e1, e2, clausesD, clausesR, clauseD, wayD]
theorem lawcl_off (H : SpMore Fn) {many a b : Int} (h0 : 0 ≤ many) (h1 : many < 100) (h : (Stm.off a b).ok many) : endOf st (runDef Fn wf Cd.D__law_clauses [.dat (.int many), .dat (Stm.off a b).d] st) = .ok (clausesD (clausesR many (.off a b))) st := by
  rw [runDef_eq rfl]
  obtain ⟨a0, a1, b0, b1, _⟩ := h
  have e1 := H many b a 0 0 st h0 h1 b0 b1 a0 a1 (.inl rfl)
  have e2 := H many b a 1 0 st h0 h1 b0 b1 a0 a1 (.inr rfl)
  simp [Cd.D__law_clauses, Cd.c__law_clauses, startE, e1, e2, clausesD, clausesR, clauseD, wayD]
theorem lawcl_like (H : SpMore Fn) {many a b : Int} (h0 : 0 ≤ many) (h1 : many < 100) (h : (Stm.like a b).ok many) : endOf st (runDef Fn wf Cd.D__law_clauses [.dat (.int many), .dat (Stm.like a b).d] st) = .ok (clausesD (clausesR many (.like a b))) st := by
  rw [runDef_eq rfl]
  obtain ⟨a0, a1, b0, b1, _⟩ := h
  have e1 := H many b a 0 0 st h0 h1 b0 b1 a0 a1 (.inl rfl)
  have e2 := H many b a 1 0 st h0 h1 b0 b1 a0 a1 (.inr rfl)
  have e3 := H many a b 0 0 st h0 h1 a0 a1 b0 b1 (.inl rfl)
  have e4 := H many a b 1 0 st h0 h1 a0 a1 b0 b1 (.inr rfl)
  simp [Cd.D__law_clauses, Cd.c__law_clauses, startE, e1, e2, e3, e4, bin_addL, clausesD, clausesR, clauseD, wayD]
theorem lawcl_unlike (H : SpMore Fn) {many a b : Int} (h0 : 0 ≤ many) (h1 : many < 100) (h : (Stm.unlike a b).ok many) : endOf st (runDef Fn wf Cd.D__law_clauses [.dat (.int many), .dat (Stm.unlike a b).d] st) = .ok (clausesD (clausesR many (.unlike a b))) st := by
  rw [runDef_eq rfl]
  obtain ⟨a0, a1, b0, b1, _⟩ := h
  have e1 := H many b a 0 1 st h0 h1 b0 b1 a0 a1 (.inl rfl)
  have e2 := H many b a 1 1 st h0 h1 b0 b1 a0 a1 (.inr rfl)
  have e3 := H many a b 0 1 st h0 h1 a0 a1 b0 b1 (.inl rfl)
  have e4 := H many a b 1 1 st h0 h1 a0 a1 b0 b1 (.inr rfl)
  simp [Cd.D__law_clauses, Cd.c__law_clauses, startE, e1, e2, e3, e4, bin_addL, clausesD, clausesR, clauseD, wayD]
theorem lawcl_both (H : SpEight Fn) {many a b c : Int} (h0 : 0 ≤ many) (h1 : many < 100) (h : (Stm.both a b c).ok many) : endOf st (runDef Fn wf Cd.D__law_clauses [.dat (.int many), .dat (Stm.both a b c).d] st) = .ok (clausesD (clausesR many (.both a b c))) st := by
  rw [runDef_eq rfl]
  obtain ⟨a0, a1, b0, b1, c0, c1, _⟩ := h
  have e := H many a b c st ⟨h0, h1, a0, a1, b0, b1, c0, c1⟩
  simp [Cd.D__law_clauses, Cd.c__law_clauses, startE, e, clausesD, clausesR]
def nbElt : E := .lst (.cons (.tup (.cons (.blt .tuple (.cons (.lc [10] (.nm 10) (.seq (.idx (.var 9) (.lit (.int 0)))) .none (.neg (.var 10))) .nil)) (.cons (.lit (.int 0)) .nil))) .nil)
theorem nb_elt {s0 s1 s2 s3 s4 s5 s6 s8 : Slot} {fs : List PyData} {r : Row} (hr : r.1.length ≤ 1000) : ev Fn nbElt [s0, s1, s2, s3, s4, s5, s6, .lst fs, s8, .dat (rowD r), .no] st = .ok (wayD [otherR r]) st := by
  have e : lcL (lcStep Fn [s0, s1, s2, s3, s4, s5, s6, .lst fs, s8, .dat (.tuple [.tuple (r.1.map .int), .int r.2]), .no] [10] (.nm 10) .none (.neg (.var 10))) (r.1.map .int) st = .ok (r.1.map fun x => .int (-x)) st :=
    lcL_mapT fun z _ => by simp [lcStep, wipeE]
  simp [nbElt, rowD, gIn, noOwn, ownS, e, okL, show r.1.length ≤ 16777216 by omega, wayD, otherR]
def nbBody : S := .app 7 (.lc [9] (.nm 9) (.seq (.var 8)) .none nbElt)
theorem nb_body {s0 s1 s2 s3 s4 s5 s6 : Slot} {fs : List PyData} {w : Way} (hw : w.length = 3) (hr : ∀ r ∈ w, r.1.length ≤ 1000) (hf : fs.length < 1000) : ex Fn wf nbBody [s0, s1, s2, s3, s4, s5, s6, .lst fs, .dat (wayD w), .no, .no] st = .nxt [s0, s1, s2, s3, s4, s5, s6, .lst (fs ++ [clauseD (w.map fun r => [otherR r])]), .dat (wayD w), .no, .no] st := by
  have e : lcL (lcStep Fn [s0, s1, s2, s3, s4, s5, s6, .lst fs, .dat (.list (w.map rowD)), .no, .no] [9] (.nm 9) .none nbElt) (w.map rowD) st = .ok (w.map fun r => wayD [otherR r]) st :=
    lcL_mapT fun r h => by simp [lcStep, wipeE, nb_elt (hr r h)]
  generalize hwd : w.map rowD = wd at e
  simp [nbBody, isLst, wayD, hwd, gIn, noOwn, ownS, e, okL, hw, show fs.length + 1 ≤ 16777216 by omega, clauseD]
theorem nb_loop {s0 s1 s2 s3 s4 s5 s6 : Slot} : ∀ (cl : List Way) (fs : List PyData) (s8 : Slot), (∀ w ∈ cl, w.length = 3 ∧ ∀ r ∈ w, r.1.length ≤ 1000) → fs.length + cl.length < 1000 →
    ∃ s8', forL (.nm 8) (ex Fn wf nbBody) (cl.map wayD) [s0, s1, s2, s3, s4, s5, s6, .lst fs, s8, .no, .no] st = .nxt [s0, s1, s2, s3, s4, s5, s6, .lst (fs ++ cl.map fun w => clauseD (w.map fun r => [otherR r])), s8', .no, .no] st
  | [], fs, s8, _, _ => ⟨s8, by simp⟩
  | w :: cl, fs, s8, h, hl => by
    simp only [List.length_cons] at hl
    obtain ⟨h3, hr⟩ := h w List.mem_cons_self
    obtain ⟨s8', e⟩ := nb_loop cl (fs ++ [clauseD (w.map fun r => [otherR r])]) (.dat (wayD w)) (fun v hv => h v (List.mem_cons_of_mem _ hv)) (by simp; omega)
    refine ⟨s8', ?_⟩
    rw [List.map_cons, forL_cons, setG_nm]
    simp only [List.set, nb_body h3 hr (show fs.length < 1000 by omega)]
    rw [e]
    simp
theorem lawcl_notboth (H : SpEight Fn) {many a b c : Int} (h0 : 0 ≤ many) (h1 : many < 100) (h : (Stm.notboth a b c).ok many) : endOf st (runDef Fn wf Cd.D__law_clauses [.dat (.int many), .dat (Stm.notboth a b c).d] st) = .ok (clausesD (clausesR many (.notboth a b c))) st := by
  rw [runDef_eq rfl]
  obtain ⟨a0, a1, b0, b1, c0, c1, _⟩ := h
  have e := H many a b c st ⟨h0, h1, a0, a1, b0, b1, c0, c1⟩
  obtain ⟨s8, e2⟩ := nb_loop (Fn := Fn) (wf := wf) (st := st) (s0 := .dat (.int many)) (s1 := .dat (Stm.notboth a b c).d) (s2 := .dat (.str (Str.ofString "notboth"))) (s3 := .dat (.int a)) (s4 := .dat (.int b)) (s5 := .no) (s6 := .dat (clauseD (bothR many a b c))) (bothR many a b c) [] .no (way_rows h1) (show (0 : Nat) + 8 < 1000 by omega)
  have e5 : clausesD (clausesR many (.notboth a b c)) = .list ((bothR many a b c).map fun way => clauseD (way.map fun r => [otherR r])) := by
    simp [clausesD, clausesR]
  rw [e5]
  simp only [d_notboth, clauseD] at e e2 ⊢
  generalize bothR many a b c = cl at e e2 ⊢
  simp only [nbBody, nbElt, List.nil_append] at e2
  simp [-ex_app, Cd.D__law_clauses, Cd.c__law_clauses, startE, e, isFresh, e2, fzE, fzS]
end
end Pl

set_option maxHeartbeats 1000000
/-! R8: equal data are alike. -/
namespace Pl
open PySem Pm
section
variable {Fn : Fs} {wf : Nat} {st : Store}
/-- data of ints, tuples, lists, down to a depth -/
inductive Pln : Nat → PyData → Prop
  | int (n : Nat) (i : Int) : Pln n (.int i)
  | tup {n : Nat} {ds : List PyData} : (∀ d ∈ ds, Pln n d) → ds.length ≤ 1000 → Pln (n + 1) (.tuple ds)
  | lst {n : Nat} {ds : List PyData} : (∀ d ∈ ds, Pln n d) → ds.length ≤ 1000 → Pln (n + 1) (.list ds)
def SpLike (Fn : Fs) (n : Nat) : Prop := ∀ (d : PyData) (st : Store), Pln n d → Fn.call (Str.ofString "_law_like") [.dat d, .dat d] st = .ok (.bool true) st
def likeBody : S := .ife (.not (.e (.call (Str.ofString "_law_like") (.cons (.idx (.var 0) (.var 2)) (.cons (.idx (.var 1) (.var 2)) .nil))))) (.ret (.lit (.bl false))) .skip
theorem like_loop {n : Nat} (H : SpLike Fn n) {x : PyData} {ds : List PyData} (hx : x = .tuple ds ∨ x = .list ds) (hd : ∀ d ∈ ds, Pln n d) {s3 : Slot} : ∀ (ks : List Nat) (s2 : Slot), (∀ k ∈ ks, k < ds.length) → ∃ s2', forL (.nm 2) (ex Fn wf likeBody) (ks.map fun (k : Nat) => PyData.int (k : Int)) [.dat x, .dat x, s2, s3] st = .nxt [.dat x, .dat x, s2', s3] st
  | [], s2, _ => ⟨s2, rfl⟩
  | k :: ks, s2, h => by
    have hk := h k List.mem_cons_self
    obtain ⟨s2', e⟩ := like_loop H hx hd ks (.dat (.int (k : Int))) fun j hj => h j (List.mem_cons_of_mem _ hj)
    refine ⟨s2', ?_⟩
    rw [List.map_cons, forL_cons, setG_nm]
    have e1 : idxD x (.int (k : Int)) = some ds[k] := by
      have : atD ds (k : Int) = some ds[k] := by rw [at_nat, List.getElem?_eq_getElem hk]
      rcases hx with rfl | rfl
      · exact this
      · exact this
    have e2 := H ds[k] st (hd _ (List.getElem_mem hk))
    have eb : ex Fn wf likeBody ([.dat x, .dat x, s2, s3].set 2 (.dat (.int (k : Int)))) st = .nxt [.dat x, .dat x, .dat (.int (k : Int)), s3] st := by
      simp [likeBody, e1, e2]
    simp only [eb]
    exact e

def likeTail : S := .seq (.sfor (.nm 2) (.rng1 (.blt .len (.cons (.var 1) .nil))) likeBody) (.ret (.lit (.bl true)))
theorem like_tail {n : Nat} (H : SpLike Fn n) {x : PyData} {ds : List PyData} (hx : x = .tuple ds ∨ x = .list ds) (hd : ∀ d ∈ ds, Pln n d) (hl : ds.length ≤ 1000) : endOf st (ex Fn wf likeTail [.dat x, .dat x, .no, .no] st) = .ok (.bool true) st := by
  obtain ⟨s2', e⟩ := like_loop (wf := wf) (st := st) H hx hd (s3 := .no) (List.range ds.length) .no fun k hk => List.mem_range.mp hk
  have r := rng1 (i := (ds.length : Int)) (by omega) (by omega)
  rw [Int.toNat_natCast] at r
  have hlen : bltD .len [x] = some (.int ds.length) := by rcases hx with rfl | rfl <;> rfl
  have e1 : evI Fn (.rng1 (.blt .len (.cons (.var 1) .nil))) [.dat x, .dat x, .no, .no] st = .ok ((List.range ds.length).map fun (k : Nat) => PyData.int (k : Int)) st := by
    have e0 : ev Fn (.blt .len (.cons (.var 1) .nil)) [.dat x, .dat x, .no, .no] st = .ok (.int ds.length) st := by
      simp only [ev_blt, evs_cons, evs_nil, ev_var, List.getElem?_cons_succ, List.getElem?_cons_zero, Out.bind, hlen, Out.ofO]
    rw [evI_rng1, e0, Out.bind, r]
    rfl
  rw [likeTail, ex_seq, ex_sfor, e1]
  simp only [Out.thn]
  rw [e]
  simp
theorem like_code : Cd.c__law_like = (.seq (.ife (.e (.isi (.var 1) .dict)) (.seq (.ife (.or (.not (.e (.isi (.var 0) .dict))) (.e (.cmp .ne (.blt .list (.cons (.var 0) .nil)) (.blt .list (.cons (.var 1) .nil))))) (.ret (.lit (.bl false))) .skip) (.ret (.blt .all (.cons (.lc [3] (.nm 3) (.seq (.var 1)) .none (.call (Str.ofString "_law_like") (.cons (.idx (.var 0) (.var 3)) (.cons (.idx (.var 1) (.var 3)) .nil)))) .nil)))) .skip) (.seq (.ife (.e (.isN (.var 1))) (.ret (.isN (.var 0))) .skip) (.seq (.ife (.e (.isi (.var 1) .bool)) (.ret (.and (.isi (.var 0) .bool) (.cmp .eq (.var 0) (.var 1)))) .skip) (.seq (.ife (.e (.isi (.var 1) .int)) (.ret (.and (.isi (.var 0) .int) (.and (.not (.isi (.var 0) .bool)) (.cmp .eq (.var 0) (.var 1))))) .skip) (.seq (.ife (.e (.isi (.var 1) .str)) (.ret (.and (.isi (.var 0) .str) (.cmp .eq (.var 0) (.var 1)))) .skip) (.seq (.ife (.e (.isi (.var 1) .tuple)) (.ife (.or (.not (.e (.isi (.var 0) .tuple))) (.e (.cmp .ne (.blt .len (.cons (.var 0) .nil)) (.blt .len (.cons (.var 1) .nil))))) (.ret (.lit (.bl false))) .skip) (.ife (.or (.not (.e (.isi (.var 0) .list))) (.e (.cmp .ne (.blt .len (.cons (.var 0) .nil)) (.blt .len (.cons (.var 1) .nil))))) (.ret (.lit (.bl false))) .skip)) likeTail)))))) := rfl
theorem like_int {i : Int} : endOf st (runDef Fn wf Cd.D__law_like [.dat (.int i), .dat (.int i)] st) = .ok (.bool true) st := by
  rw [runDef_eq rfl]
  show endOf st (ex Fn wf Cd.c__law_like [.dat (.int i), .dat (.int i), .no, .no] st) = _
  rw [like_code]
  simp [isiD, isNoneD]
theorem like_run {n : Nat} (H : SpLike Fn n) {d : PyData} (h : Pln (n + 1) d) : endOf st (runDef Fn wf Cd.D__law_like [.dat d, .dat d] st) = .ok (.bool true) st := by
  rw [runDef_eq rfl]
  show endOf st (ex Fn wf Cd.c__law_like [.dat d, .dat d, .no, .no] st) = _
  rw [like_code]
  cases h with
  | int _ i => simp [isiD, isNoneD]
  | tup hd hl =>
    rename_i ds
    have e := like_tail (Fn := Fn) (wf := wf) (st := st) H (.inl rfl) hd hl
    generalize likeTail = tl at e ⊢
    simpa [isiD, isNoneD] using e
  | lst hd hl =>
    rename_i ds
    have e := like_tail (Fn := Fn) (wf := wf) (st := st) H (.inr rfl) hd hl
    generalize likeTail = tl at e ⊢
    simpa [isiD, isNoneD] using e
end
end Pl

set_option maxHeartbeats 1000000
/-! R9: what rows say of sides; a statement holds just where its clauses are met. -/
namespace Pl
open PySem Pm
open Sx (ga Si)
def sidesOf (sz : Sz) : List Int := sz.flatMap fun p => [p.1, p.2]
def dotR (r : Row) (x : List Int) : Int := (List.zipWith (fun a b => a * b) r.1 x).sum
def keptB (r : Row) (x : List Int) : Bool := decide (r.2 ≤ dotR r x)
def wayB (w : Way) (x : List Int) : Bool := w.all fun r => keptB r x
def metB (c : Clause) (x : List Int) : Bool := c.any fun w => wayB w x
def metAll (cs : List Clause) (x : List Int) : Bool := cs.all fun c => metB c x
theorem sides_len (sz : Sz) : (sidesOf sz).length = 2 * sz.length := by
  induction sz with
  | nil => rfl
  | cons p sz ih => simp only [sidesOf, List.flatMap_cons, List.length_append, List.length_cons, List.length_nil] at ih ⊢; omega
theorem sides_ga : ∀ (sz : Sz) (a : Nat), a < sz.length → ga (sidesOf sz) (2 * a) = (sz[a]?.getD (0, 0)).1 ∧ ga (sidesOf sz) (2 * a + 1) = (sz[a]?.getD (0, 0)).2
  | [], a, h => absurd h (by simp)
  | p :: sz, 0, _ => ⟨rfl, rfl⟩
  | p :: sz, a + 1, h => by
    have := sides_ga sz a (by simpa using h)
    have e1 : ∀ j, ga (sidesOf (p :: sz)) (j + 2) = ga (sidesOf sz) j := fun j => rfl
    rw [show 2 * (a + 1) = 2 * a + 2 by omega, show 2 * a + 2 + 1 = 2 * a + 1 + 2 by omega, e1, e1, List.getElem?_cons_succ]
    exact this
theorem sides_sel {sz : Sz} {a k : Int} (h0 : 0 ≤ a) (h1 : a < sz.length) (hk : k = 0 ∨ k = 1) : ga (sidesOf sz) (2 * a + k).toNat = sel (sz0 sz a) k := by
  obtain ⟨e1, e2⟩ := sides_ga sz a.toNat (by omega)
  unfold sz0 sel
  rcases hk with rfl | rfl
  · rw [show (2 * a + 0).toNat = 2 * a.toNat by omega, e1]
    rfl
  · rw [show (2 * a + 1).toNat = 2 * a.toNat + 1 by omega, e2]
    rfl
def pSum (x : List Int) : List Part → Int
  | [] => 0
  | p :: ps => p.2.2 * ga x (place p).toNat + pSum x ps
theorem dot_line {many least : Int} {x : List Int} (hx : x.length = (2 * many).toNat) : ∀ (ps : List Part), (∀ p ∈ ps, 0 ≤ place p ∧ place p < 2 * many) → dotR (lineOf many ps least) x = pSum x ps := by
  intro ps
  have e : ∀ ps : List Part, dotR (lineOf many ps least) x = Si (2 * many).toNat (fun j => accP ps (j : Int) * ga x j) := fun ps => by
    unfold dotR
    rw [Sx.sum_zip _ _ (by rw [line_len, hx]), line_len]
    refine Sx.Si_congr fun j hj => ?_
    congr 1
    unfold lineOf ga
    rw [List.getElem?_map, List.getElem?_range hj]
    rfl
  induction ps with
  | nil =>
    intro _
    rw [e]
    exact Sx.Si_eq0 fun j _ => by simp [accP]
  | cons p ps ih =>
    intro h
    have hp := h p List.mem_cons_self
    have h2 := ih fun q hq => h q (List.mem_cons_of_mem _ hq)
    rw [e] at h2 ⊢
    have e2 : (fun j : Nat => accP (p :: ps) (j : Int) * ga x j) = fun j : Nat => (if place p = (j : Int) then p.2.2 else 0) * ga x j + accP ps (j : Int) * ga x j := by
      funext j
      show ((if place p = (j : Int) then p.2.2 else 0) + accP ps (j : Int)) * ga x j = _
      rw [Int.add_mul]
    rw [e2, Sx.Si_add, h2, Sx.Si_single (f := fun j : Nat => (if place p = (j : Int) then p.2.2 else 0) * ga x j) (show (place p).toNat < (2 * many).toNat by omega) fun i _ hn => by
      show (if place p = (i : Int) then p.2.2 else 0) * ga x i = 0
      rw [if_neg (by omega)]; simp]
    show (if place p = ((place p).toNat : Int) then p.2.2 else 0) * _ + _ = _
    rw [if_pos (by omega)]
    rfl
section
variable {many : Int} {sz : Sz}
theorem k_one {a k n least : Int} (hm : (sz.length : Int) = many) (a0 : 0 ≤ a) (a1 : a < many) (hk : k = 0 ∨ k = 1) : keptB (lineOf many [(a, k, n)] least) (sidesOf sz) = decide (least ≤ n * sel (sz0 sz a) k) := by
  unfold keptB
  rw [dot_line (by rw [sides_len]; omega) _ (by intro p hp; rw [List.mem_singleton] at hp; subst hp; unfold place; show 0 ≤ 2 * a + k ∧ _; constructor <;> (first | omega | (show 2 * a + k < _; omega)))]
  have : pSum (sidesOf sz) [(a, k, n)] = n * sel (sz0 sz a) k := by
    rw [← sides_sel a0 (by omega) hk]
    exact Int.add_zero _
  rw [this]
  rfl
theorem k_two {a k n b j l least : Int} (hm : (sz.length : Int) = many) (a0 : 0 ≤ a) (a1 : a < many) (hk : k = 0 ∨ k = 1) (b0 : 0 ≤ b) (b1 : b < many) (hj : j = 0 ∨ j = 1) : keptB (lineOf many [(a, k, n), (b, j, l)] least) (sidesOf sz) = decide (least ≤ n * sel (sz0 sz a) k + l * sel (sz0 sz b) j) := by
  unfold keptB
  rw [dot_line (by rw [sides_len]; omega) _ (by
    intro p hp
    have : p = (a, k, n) ∨ p = (b, j, l) := by simpa using hp
    rcases this with rfl | rfl
    · show 0 ≤ 2 * a + k ∧ 2 * a + k < _; omega
    · show 0 ≤ 2 * b + j ∧ 2 * b + j < _; omega)]
  have : pSum (sidesOf sz) [(a, k, n), (b, j, l)] = n * sel (sz0 sz a) k + l * sel (sz0 sz b) j := by
    rw [← sides_sel a0 (by omega) hk, ← sides_sel b0 (by omega) hj]
    show _ + (_ + 0) = _
    rw [Int.add_zero]
    rfl
  rw [this]
  rfl
theorem k_three {a k n b j l c i o least : Int} (hm : (sz.length : Int) = many) (a0 : 0 ≤ a) (a1 : a < many) (hk : k = 0 ∨ k = 1) (b0 : 0 ≤ b) (b1 : b < many) (hj : j = 0 ∨ j = 1) (c0 : 0 ≤ c) (c1 : c < many) (hi : i = 0 ∨ i = 1) : keptB (lineOf many [(a, k, n), (b, j, l), (c, i, o)] least) (sidesOf sz) = decide (least ≤ n * sel (sz0 sz a) k + (l * sel (sz0 sz b) j + o * sel (sz0 sz c) i)) := by
  unfold keptB
  rw [dot_line (by rw [sides_len]; omega) _ (by
    intro p hp
    have : p = (a, k, n) ∨ p = (b, j, l) ∨ p = (c, i, o) := by simpa using hp
    rcases this with rfl | rfl | rfl
    · show 0 ≤ 2 * a + k ∧ 2 * a + k < _; omega
    · show 0 ≤ 2 * b + j ∧ 2 * b + j < _; omega
    · show 0 ≤ 2 * c + i ∧ 2 * c + i < _; omega)]
  have : pSum (sidesOf sz) [(a, k, n), (b, j, l), (c, i, o)] = n * sel (sz0 sz a) k + (l * sel (sz0 sz b) j + o * sel (sz0 sz c) i) := by
    rw [← sides_sel a0 (by omega) hk, ← sides_sel b0 (by omega) hj, ← sides_sel c0 (by omega) hi]
    show _ + (_ + (_ + 0)) = _
    rw [Int.add_zero]
    rfl
  rw [this]
  rfl
theorem k_less {a b d least : Int} (hm : (sz.length : Int) = many) (a0 : 0 ≤ a) (a1 : a < many) (b0 : 0 ≤ b) (b1 : b < many) (hd : d = 0 ∨ d = 1) : keptB (lessR many a b d least) (sidesOf sz) = decide (least ≤ sel (sz0 sz b) d - sel (sz0 sz a) d) := by
  unfold lessR
  rw [k_two hm b0 b1 hd a0 a1 hd]
  rw [Bool.eq_iff_iff, decide_eq_true_eq, decide_eq_true_eq]
  omega
theorem k_way {a b c k i j : Int} (hm : (sz.length : Int) = many) (h : In3 many a b c) (hk : k = 0 ∨ k = 1) (hi : i = 0 ∨ i = 1) (hj : j = 0 ∨ j = 1) : wayB (wayR many a b c k i j) (sidesOf sz) = fitC (sz0 sz a) (sz0 sz b) (sz0 sz c) k i j := by
  obtain ⟨m0, m1, a0, a1, b0, b1, c0, c1⟩ := h
  have hk' : 1 - k = 0 ∨ 1 - k = 1 := by omega
  have hi' : 1 - i = 0 ∨ 1 - i = 1 := by omega
  have hj' : 1 - j = 0 ∨ 1 - j = 1 := by omega
  unfold wayB wayR fitC
  rw [List.all_cons, List.all_cons, List.all_cons, List.all_nil, k_three hm c0 c1 hk a0 a1 hi b0 b1 hj, k_two hm c0 c1 hk' a0 a1 hi', k_two hm c0 c1 hk' b0 b1 hj', Bool.and_true, Bool.eq_iff_iff]
  simp only [Bool.and_eq_true, decide_eq_true_eq]
  omega
theorem dot_neg (r : Row) (x : List Int) (h : r.1.length = x.length) : dotR (otherR r) x = -dotR r x := by
  unfold dotR otherR
  rw [Sx.sum_zip _ _ (by simp [h]), Sx.sum_zip _ _ h, List.length_map]
  have : (fun j => ga (r.1.map fun x => -x) j * ga x j) = fun j => -1 * (ga r.1 j * ga x j) := by
    funext j
    rw [Sx.ga_map (f := fun x => -x) (by simp)]
    grind
  rw [this, Sx.Si_mul]
  omega
theorem k_other {r : Row} {x : List Int} (h : r.1.length = x.length) (hl : r.2 = 1) : keptB (otherR r) x = !keptB r x := by
  unfold keptB
  rw [dot_neg r x h, hl, Bool.eq_iff_iff, Bool.not_eq_true', decide_eq_true_eq, decide_eq_false_iff_not]
  show 0 ≤ _ ↔ _
  omega
theorem k_notway {a b c k i j : Int} (hm : (sz.length : Int) = many) (h : In3 many a b c) (hk : k = 0 ∨ k = 1) (hi : i = 0 ∨ i = 1) (hj : j = 0 ∨ j = 1) : metB ((wayR many a b c k i j).map fun r => [otherR r]) (sidesOf sz) = !fitC (sz0 sz a) (sz0 sz b) (sz0 sz c) k i j := by
  rw [← k_way hm h hk hi hj]
  have hr : ∀ r ∈ wayR many a b c k i j, keptB (otherR r) (sidesOf sz) = !keptB r (sidesOf sz) := fun r hr => by
    have : r.1.length = (2 * many).toNat ∧ r.2 = 1 := by
      unfold wayR at hr
      simp only [List.mem_cons, List.not_mem_nil, or_false] at hr
      rcases hr with rfl | rfl | rfl <;> exact ⟨line_len _ _ _, rfl⟩
    exact k_other (by rw [this.1, sides_len]; omega) this.2
  unfold metB wayB
  rw [List.any_map]
  generalize wayR many a b c k i j = w at hr
  induction w with
  | nil => rfl
  | cons r w ih =>
    rw [List.any_cons, List.all_cons, ih fun q hq => hr q (List.mem_cons_of_mem _ hq), Bool.not_and]
    show (([otherR r].all fun q => keptB q (sidesOf sz)) || _) = _
    rw [List.all_cons, List.all_nil, Bool.and_true, hr r List.mem_cons_self]
/-- a statement holds just where its clauses are met -/
theorem hold_met {s : Stm} (hm : (sz.length : Int) = many) (h1 : many < 100) (h : s.ok many) : metAll (clausesR many s) (sidesOf sz) = s.hold sz := by
  have z0 : (0 : Int) = 0 ∨ (0 : Int) = 1 := .inl rfl
  have z1 : (1 : Int) = 0 ∨ (1 : Int) = 1 := .inr rfl
  have e0 : ∀ a, sel (sz0 sz a) 0 = (sz0 sz a).1 := fun _ => rfl
  have e1 : ∀ a, sel (sz0 sz a) 1 = (sz0 sz a).2 := fun _ => rfl
  cases s with
  | on a b =>
    obtain ⟨a0, a1, b0, b1, _⟩ := h
    simp only [metAll, clausesR, metB, wayB, List.all_cons, List.all_nil, List.any_cons, List.any_nil, Bool.and_true, Bool.or_false, k_less hm a0 a1 b0 b1 z0, k_less hm a0 a1 b0 b1 z1, Stm.hold, e0, e1]
    rw [Bool.eq_iff_iff]
    simp only [Bool.and_eq_true, decide_eq_true_eq]
    omega
  | off a b =>
    obtain ⟨a0, a1, b0, b1, _⟩ := h
    simp only [metAll, clausesR, metB, wayB, List.all_cons, List.all_nil, List.any_cons, List.any_nil, Bool.and_true, Bool.or_false, k_less hm b0 b1 a0 a1 z0, k_less hm b0 b1 a0 a1 z1, Stm.hold, e0, e1]
    rw [Bool.eq_iff_iff]
    simp only [Bool.or_eq_true, Bool.not_eq_true', Bool.and_eq_false_iff, decide_eq_true_eq, decide_eq_false_iff_not]
    omega
  | like a b =>
    obtain ⟨a0, a1, b0, b1, _⟩ := h
    simp only [metAll, clausesR, metB, wayB, List.all_cons, List.all_nil, List.any_cons, List.any_nil, Bool.and_true, Bool.or_false, k_less hm b0 b1 a0 a1 z0, k_less hm b0 b1 a0 a1 z1, k_less hm a0 a1 b0 b1 z0, k_less hm a0 a1 b0 b1 z1, Stm.hold, e0, e1]
    rw [Bool.eq_iff_iff]
    simp only [Bool.and_eq_true, decide_eq_true_eq, Prod.ext_iff]
    omega
  | unlike a b =>
    obtain ⟨a0, a1, b0, b1, _⟩ := h
    simp only [metAll, clausesR, metB, wayB, List.all_cons, List.all_nil, List.any_cons, List.any_nil, Bool.and_true, Bool.or_false, k_less hm b0 b1 a0 a1 z0, k_less hm b0 b1 a0 a1 z1, k_less hm a0 a1 b0 b1 z0, k_less hm a0 a1 b0 b1 z1, Stm.hold, e0, e1]
    rw [Bool.eq_iff_iff]
    simp only [Bool.or_eq_true, Bool.not_eq_true', decide_eq_false_iff_not, decide_eq_true_eq, Prod.ext_iff]
    omega
  | both a b c =>
    obtain ⟨a0, a1, b0, b1, c0, c1, _⟩ := h
    have h3 : In3 many a b c := ⟨by omega, h1, a0, a1, b0, b1, c0, c1⟩
    simp only [metAll, clausesR, metB, bothR, List.all_cons, List.all_nil, List.any_cons, List.any_nil, Bool.and_true, Bool.or_false, k_way hm h3 z0 z0 z0, k_way hm h3 z0 z0 z1, k_way hm h3 z0 z1 z0, k_way hm h3 z0 z1 z1, k_way hm h3 z1 z0 z0, k_way hm h3 z1 z0 z1, k_way hm h3 z1 z1 z0, k_way hm h3 z1 z1 z1, Stm.hold, fitB]
  | notboth a b c =>
    obtain ⟨a0, a1, b0, b1, c0, c1, _⟩ := h
    have h3 : In3 many a b c := ⟨by omega, h1, a0, a1, b0, b1, c0, c1⟩
    simp only [metAll, clausesR, bothR, List.map_cons, List.map_nil, List.all_cons, List.all_nil, Bool.and_true, k_notway hm h3 z0 z0 z0, k_notway hm h3 z0 z0 z1, k_notway hm h3 z0 z1 z0, k_notway hm h3 z0 z1 z1, k_notway hm h3 z1 z0 z0, k_notway hm h3 z1 z0 z1, k_notway hm h3 z1 z1 z0, k_notway hm h3 z1 z1 z1, Stm.hold, fitB, Bool.not_or]
/-- the rows that all sizes keep -/
theorem base_kept (hm : (sz.length : Int) = many) (hz : ∀ p ∈ sz, okSz p) : (baseR many).all (fun r => keptB r (sidesOf sz)) = true := by
  rw [List.all_eq_true]
  intro r hr
  unfold baseR at hr
  obtain ⟨k, hk, hr⟩ := List.mem_flatMap.mp hr
  have hk := List.mem_range.mp hk
  have hok : okSz (sz0 sz (k : Int)) := by
    unfold sz0
    rw [Int.toNat_natCast, List.getElem?_eq_getElem (by omega)]
    exact hz _ (List.getElem_mem _)
  obtain ⟨p0, p1⟩ := hok
  simp only [List.mem_cons, List.not_mem_nil, or_false] at hr
  rcases hr with rfl | rfl
  · rw [k_one hm (by omega) (by omega) (.inl rfl), decide_eq_true_eq]
    show 1 ≤ 1 * (sz0 sz (k : Int)).1
    omega
  · rw [k_two hm (by omega) (by omega) (.inr rfl) (by omega) (by omega) (.inl rfl), decide_eq_true_eq]
    show 0 ≤ 1 * (sz0 sz (k : Int)).2 + -1 * (sz0 sz (k : Int)).1
    omega
/-- .. and that only sizes keep -/
theorem base_sizes (hm : (sz.length : Int) = many) (h : (baseR many).all (fun r => keptB r (sidesOf sz)) = true) : ∀ p ∈ sz, okSz p := by
  rw [List.all_eq_true] at h
  intro p hp
  obtain ⟨k, hk, rfl⟩ := List.mem_iff_getElem.mp hp
  have e : sz0 sz (k : Int) = sz[k] := by
    unfold sz0
    rw [Int.toNat_natCast, List.getElem?_eq_getElem hk]
    rfl
  have m1 : lineOf many [((k : Int), 0, 1)] 1 ∈ baseR many := List.mem_flatMap.mpr ⟨k, List.mem_range.mpr (by omega), by simp⟩
  have m2 : lineOf many [((k : Int), 1, 1), ((k : Int), 0, -1)] 0 ∈ baseR many := List.mem_flatMap.mpr ⟨k, List.mem_range.mpr (by omega), by simp⟩
  have h1 := h _ m1
  have h2 := h _ m2
  rw [k_one hm (by omega) (by omega) (.inl rfl), decide_eq_true_eq] at h1
  rw [k_two hm (by omega) (by omega) (.inr rfl) (by omega) (by omega) (.inl rfl), decide_eq_true_eq] at h2
  have h1 : 1 ≤ 1 * (sz0 sz (k : Int)).1 := h1
  have h2 : 0 ≤ 1 * (sz0 sz (k : Int)).2 + -1 * (sz0 sz (k : Int)).1 := h2
  rw [e] at h1 h2
  unfold okSz
  omega
end
end Pl

set_option maxHeartbeats 1000000
/-! K1: rules for walking through a def's code: what is to be shown is a property of how it ends. -/
namespace Pl
open PySem Pm
open Sx (ga Si)
/-- how a body of a loop may end -/
def Bd (Q : Pm.Env → Store → Prop) (k : Pm.Env → Store → Ou) (P : Ou → Prop) : Ou → Prop
  | .nxt env st => Q env st
  | .cnt env st => Q env st
  | .brk env st => P (k env st)
  | .ret d st => P (.ret d st)
  | .ex x env st => P (.ex x env st)
  | .no => False
section
variable {Q : Pm.Env → Store → Prop} {k : Pm.Env → Store → Ou} {P : Ou → Prop} {env : Pm.Env} {st : Store} {d : PyData}
@[simp] theorem Bd_nxt : Bd Q k P (.nxt env st) = Q env st := rfl
@[simp] theorem Bd_ret : Bd Q k P (.ret d st) = P (.ret d st) := rfl
end
/-- a def returns -/
def Rt (st0 : Store) (v : PyData) (st1 : Store) (o : Ou) : Prop := endOf st0 o = .ok v st1
@[simp] theorem Rt_ret {st0 st1 st : Store} {v d : PyData} : Rt st0 v st1 (.ret d st) = ((Out.ok d (st.take st0.length) : Out PyData) = .ok v st1) := rfl
@[simp] theorem Rt_nxt {st0 st1 st : Store} {v : PyData} {env : Pm.Env} : Rt st0 v st1 (.nxt env st) = ((Out.ok .none (st.take st0.length) : Out PyData) = .ok v st1) := rfl
theorem Rt_of {Fn : Fs} {wf : Nat} {d : Def} {as : List Pm.Arg} {st st1 : Store} {v : PyData} (h : as.length = d.ps) (H : Rt st v st1 (ex Fn wf d.body (startE d as) st)) : endOf st (runDef Fn wf d as st) = .ok v st1 := by
  rw [runDef_eq h]
  exact H
section
variable {Fn : Fs} {wf : Nat} {α : Type} {g : Tg} {it : I} {b : S} {env : Pm.Env} {st st1 : Store} {e : α → PyData} {k : Pm.Env → Store → Ou} {P : Ou → Prop}
theorem P_forL (Inv : List α → Pm.Env → Store → Prop) {f : Pm.Env → Store → Ou} (step : ∀ x xs env st, Inv (x :: xs) env st → ∃ env1, setG g (e x) env = some env1 ∧ Bd (Inv xs) k P (f env1 st)) (fin : ∀ env st, Inv [] env st → P (k env st)) :
    ∀ (xs : List α) (env : Pm.Env) (st : Store), Inv xs env st → P ((forL g f (xs.map e) env st).seq k)
  | [], env, st, h => fin env st h
  | x :: xs, env, st, h => by
    obtain ⟨env1, e1, h1⟩ := step x xs env st h
    rw [List.map_cons, forL_cons, e1]
    cases q : f env1 st with
    | nxt env2 st2 => rw [q] at h1; simp only [q]; exact P_forL Inv step fin xs env2 st2 h1
    | cnt env2 st2 => rw [q] at h1; simp only [q]; exact P_forL Inv step fin xs env2 st2 h1
    | brk env2 st2 => rw [q] at h1; simp only [q]; exact h1
    | ret d st2 => rw [q] at h1; simp only [q]; exact h1
    | ex x env2 st2 => rw [q] at h1; simp only [q]; exact h1
    | no => rw [q] at h1; exact h1.elim
/-- a loop, followed by k; the invariant tells of what is left -/
theorem P_forS (xs : List α) (e : α → PyData) (Inv : List α → Pm.Env → Store → Prop) (hi : evI Fn it env st = .ok (xs.map e) st1) (h0 : Inv xs env st1) (step : ∀ x xs env st, Inv (x :: xs) env st → ∃ env1, setG g (e x) env = some env1 ∧ Bd (Inv xs) k P (ex Fn wf b env1 st)) (fin : ∀ env st, Inv [] env st → P (k env st)) : P ((ex Fn wf (.sfor g it b) env st).seq k) := by
  rw [ex_sfor, hi]
  exact P_forL Inv step fin xs env st1 h0
theorem seq_nxt (o : Ou) : o.seq (fun env st => .nxt env st) = o := by cases o <;> rfl
/-- a loop at the end -/
theorem P_forSE (xs : List α) (e : α → PyData) (Inv : List α → Pm.Env → Store → Prop) (hi : evI Fn it env st = .ok (xs.map e) st1) (h0 : Inv xs env st1) (step : ∀ x xs env st, Inv (x :: xs) env st → ∃ env1, setG g (e x) env = some env1 ∧ Bd (Inv xs) (fun env st => .nxt env st) P (ex Fn wf b env1 st)) (fin : ∀ env st, Inv [] env st → P (.nxt env st)) : P (ex Fn wf (.sfor g it b) env st) := by
  rw [← seq_nxt (ex Fn wf (.sfor g it b) env st)]
  exact P_forS xs e Inv hi h0 step fin
/-- .. the store stays as it is -/
theorem P_for (xs : List α) (e : α → PyData) (Inv : List α → Pm.Env → Prop) (hi : evI Fn it env st = .ok (xs.map e) st) (h0 : Inv xs env) (step : ∀ x xs env, Inv (x :: xs) env → ∃ env1, setG g (e x) env = some env1 ∧ Bd (fun env st2 => st2 = st ∧ Inv xs env) k P (ex Fn wf b env1 st)) (fin : ∀ env, Inv [] env → P (k env st)) : P ((ex Fn wf (.sfor g it b) env st).seq k) :=
  P_forS xs e (fun xs env st2 => st2 = st ∧ Inv xs env) hi ⟨rfl, h0⟩ (fun x xs env st2 ⟨h, h2⟩ => by rw [h]; exact step x xs env h2) (fun env st2 ⟨h, h2⟩ => by rw [h]; exact fin env h2)
theorem P_forE (xs : List α) (e : α → PyData) (Inv : List α → Pm.Env → Prop) (hi : evI Fn it env st = .ok (xs.map e) st) (h0 : Inv xs env) (step : ∀ x xs env, Inv (x :: xs) env → ∃ env1, setG g (e x) env = some env1 ∧ Bd (fun env st2 => st2 = st ∧ Inv xs env) (fun env st => .nxt env st) P (ex Fn wf b env1 st)) (fin : ∀ env, Inv [] env → P (.nxt env st)) : P (ex Fn wf (.sfor g it b) env st) := by
  rw [← seq_nxt (ex Fn wf (.sfor g it b) env st)]
  exact P_for xs e Inv hi h0 step fin
/-! ### comprehensions -/
variable {vs : List Nat} {h : E} {c : C}
theorem ev_lc_map (xs : List α) (e r : α → PyData) (h1 : (gIn vs g && noOwn env vs) = true) (hi : evI Fn it env st = .ok (xs.map e) st) (hl : xs.length ≤ 16777216) (hs : ∀ x ∈ xs, lcStep Fn env vs g c h (e x) st = .ok [r x] st) : ev Fn (.lc vs g it c h) env st = .ok (.list (xs.map r)) st := by
  rw [ev_lc, if_pos h1, hi]
  show (okL (lcL _ (xs.map e) st)).bind _ = _
  rw [lcL_mapT hs, okL, if_pos (by rw [okLen_1000, List.length_map]; exact hl)]
  rfl
theorem ev_lc_filter (xs : List α) (e r : α → PyData) (p : α → Bool) (h1 : (gIn vs g && noOwn env vs) = true) (hi : evI Fn it env st = .ok (xs.map e) st) (hl : xs.length ≤ 16777216) (hs : ∀ x ∈ xs, lcStep Fn env vs g c h (e x) st = .ok (if p x = true then [r x] else []) st) : ev Fn (.lc vs g it c h) env st = .ok (.list ((xs.filter p).map r)) st := by
  rw [ev_lc, if_pos h1, hi]
  show (okL (lcL _ (xs.map e) st)).bind _ = _
  rw [lcL_filterT hs, okL, if_pos (by
    rw [okLen_1000, List.length_map]
    exact Nat.le_trans (List.length_filter_le _ _) hl)]
  rfl
end
/-! ### ranges -/
section
variable {Fn : Fs} {env : Pm.Env} {st st1 : Store} {a : E}
def natD (k : Nat) : PyData := .int (k : Int)
theorem rng1_nat {n : Nat} (h : n < 2 ^ 60) : rng1D (.int (n : Int)) = some ((List.range n).map natD) := by
  have := rng1 (i := (n : Int)) (by omega) (by omega)
  rw [Int.toNat_natCast] at this
  exact this
theorem evI_rng1_ok {i : Int} (h : ev Fn a env st = .ok (.int i) st1) (h0 : 0 ≤ i) (h1 : i < 2 ^ 60) : evI Fn (.rng1 a) env st = .ok ((List.range i.toNat).map natD) st1 := by
  rw [evI_rng1, h]
  show Out.ofO (rng1D (.int i)) st1 = _
  rw [rng1 h0 (by omega)]
  rfl
theorem evI_rng1_nat {n : Nat} (h : ev Fn a env st = .ok (.int (n : Int)) st1) (h1 : n < 2 ^ 60) : evI Fn (.rng1 a) env st = .ok ((List.range n).map natD) st1 := by
  have := evI_rng1_ok h (by omega) (by omega)
  rw [Int.toNat_natCast] at this
  exact this
theorem evI_seq_list {xs : List PyData} (h : ev Fn a env st = .ok (.list xs) st1) : evI Fn (.seq a) env st = .ok xs st1 := by
  rw [evI_seq, h]
  rfl
theorem evI_seq_tup {xs : List PyData} (h : ev Fn a env st = .ok (.tuple xs) st1) : evI Fn (.seq a) env st = .ok xs st1 := by
  rw [evI_seq, h]
  rfl
theorem ev_var_at {i : Nat} {d : PyData} (h : env[i]? = some (.dat d)) : ev Fn (.var i) env st = .ok d st := by
  rw [ev_var, h]
end
/-! ### a walk by simp, loops and comprehensions left alone -/
theorem sum_range (n : Nat) (f : Nat → Int) : ((List.range n).map f).sum = Si n f := by
  induction n with
  | zero => rfl
  | succ n ih =>
    rw [List.range_succ, List.map_append, List.sum_append, ih]
    simp [Si]
theorem at_ga {l : List Int} {k : Nat} (h : k < l.length) : atD (l.map .int) (k : Int) = some (.int (ga l k)) := by
  rw [at_nat, List.getElem?_map]
  unfold ga
  rw [List.getElem?_eq_getElem h]
  rfl
theorem mem_small {l : List Int} (h : ∀ x ∈ l, x.natAbs ≤ 1) (k : Nat) : (ga l k).natAbs ≤ 1 := by
  by_cases q : k < l.length
  · exact h _ (Sx.ga_mem q)
  · rw [Sx.ga_out (by omega)]; decide
theorem mul_small {i j : Int} (h : i.natAbs ≤ 1) : binD .mul (.int i) (.int j) = some (.int (i * j)) := bin_mul (okMul_l (by omega) (by omega))
end Pl

set_option maxHeartbeats 1000000
/-! R10: rows kept and clauses met, by the laws. -/
namespace Pl
open PySem Pm
open Sx (ga Si)
section
variable {Fn : Fs} {wf : Nat} {st : Store}
def rowOk (n : Nat) (r : Row) : Prop := r.1.length = n ∧ (∀ x ∈ r.1, x.natAbs ≤ 1)
theorem law_kept_run {r : Row} {sz : Sz} (hz : sz.length ≤ 100) (hr : rowOk (2 * sz.length) r) : endOf st (runDef Fn wf Cd.D__law_kept [.dat (rowD r), .dat (sizesD sz)] st) = .ok (.bool (keptB r (sidesOf sz))) st := by
  refine Rt_of rfl ?_
  have hsl := sides_len sz
  simp only [Cd.D__law_kept, Cd.c__law_kept]
  simp [-ev_lc, -ev_lenDc, -ex_sfor, -ex_swhile, startE]
  refine P_for sz pairD (fun xs env => ∃ (l : List Int) (s3 : Slot), env = [.dat (rowD r), .dat (sizesD sz), .dat (.list (l.map .int)), s3, .no] ∧ l ++ sidesOf xs = sidesOf sz) (by simp [-ev_lc, -ev_lenDc, -ex_sfor, -ex_swhile, startE, sizesD]) ⟨[], .no, rfl, rfl⟩ ?_ ?_
  · rintro x xs env ⟨l, s3, rfl, hl⟩
    refine ⟨_, setG_nm, ?_⟩
    have hlen := congrArg List.length hl
    rw [List.length_append, sides_len, sides_len] at hlen
    have := bin_addL (xs := l.map PyData.int) (ys := [.int x.1, .int x.2]) (by simp at hlen ⊢; omega)
    simp [-ev_lc, -ev_lenDc, -ex_sfor, -ex_swhile, startE, pairD, this]
    exact ⟨l ++ [x.1, x.2], by simp, by rw [← hl]; simp [sidesOf]⟩
  · rintro env ⟨l, s3, rfl, hl⟩
    have hl : l = sidesOf sz := by rw [← hl]; simp [sidesOf]
    subst hl
    simp [-ev_lc, -ev_lenDc, -ex_sfor, -ex_swhile, startE]
    rw [ev_lc_map (List.range (sidesOf sz).length) natD (fun k => .int (ga r.1 k * ga (sidesOf sz) k)) rfl (evI_rng1_nat (by simp [-ev_lc, -ev_lenDc, -ex_sfor, -ex_swhile, startE]) (by omega)) (by simp; omega) (fun k hk => by
      have hk := List.mem_range.mp hk
      have a1 := at_ga (l := r.1) (k := k) (by rw [hr.1]; omega)
      have a2 := at_ga (l := sidesOf sz) (k := k) hk
      simp [-ev_lc, -ev_lenDc, -ex_sfor, -ex_swhile, startE, lcStep, wipeE, rowD, natD, a1, a2, mul_small (mem_small hr.2 k)])]
    have e3 : keptB r (sidesOf sz) = decide (r.2 ≤ ((List.range (sidesOf sz).length).map fun (k : Nat) => ga r.1 k * ga (sidesOf sz) k).sum) := by
      rw [sum_range]
      unfold keptB dotR
      rw [Sx.sum_zip _ _ (by rw [hr.1]; omega), hr.1, hsl]
    rw [e3]
    simp [-ev_lc, -ev_lenDc, -ex_sfor, -ex_swhile, startE, sum_map, rowD]
def SpLk (Fn : Fs) : Prop := ∀ (r : Row) (sz : Sz) (st : Store), sz.length ≤ 100 → rowOk (2 * sz.length) r → Fn.call (Str.ofString "_law_kept") [.dat (rowD r), .dat (sizesD sz)] st = .ok (.bool (keptB r (sidesOf sz))) st
theorem filter_len0 {α : Type} (p : α → Bool) (l : List α) : (((l.filter fun x => !p x).length : Int) == 0) = l.all p := by
  rw [Bool.eq_iff_iff, beq_iff_eq, List.all_eq_true]
  constructor
  · intro q s hs
    have : l.filter (fun s => !p s) = [] := List.eq_nil_of_length_eq_zero (by omega)
    have := List.filter_eq_nil_iff.mp this s hs
    simpa using this
  · intro q
    have : l.filter (fun s => !p s) = [] := List.filter_eq_nil_iff.mpr fun s hs => by simp [q s hs]
    rw [this]
    rfl
theorem law_met_run (H : SpLk Fn) {c : Clause} {sz : Sz} (hz : sz.length ≤ 100) (hc : ∀ w ∈ c, w.length ≤ 1000 ∧ ∀ r ∈ w, rowOk (2 * sz.length) r) : endOf st (runDef Fn wf Cd.D__law_met [.dat (clauseD c), .dat (sizesD sz)] st) = .ok (.bool (metB c (sidesOf sz))) st := by
  refine Rt_of rfl ?_
  simp only [Cd.D__law_met, Cd.c__law_met]
  simp [-ev_lc, -ev_lenDc, -ex_sfor, -ex_swhile, startE]
  refine P_for c wayD (fun xs env => (∃ s2, env = [.dat (clauseD c), .dat (sizesD sz), s2, .no]) ∧ (∀ w ∈ xs, w ∈ c) ∧ metB xs (sidesOf sz) = metB c (sidesOf sz)) (by simp [-ev_lc, -ev_lenDc, -ex_sfor, -ex_swhile, startE, clauseD]) ⟨⟨.no, rfl⟩, fun _ h => h, rfl⟩ ?_ ?_
  · rintro w xs env ⟨⟨s2, rfl⟩, hm, he⟩
    refine ⟨_, setG_nm, ?_⟩
    obtain ⟨hl, hr⟩ := hc w (hm w List.mem_cons_self)
    simp [-ev_lc, -ev_lenDc, -ex_sfor, -ex_swhile, startE]
    rw [ev_lc_filter w rowD rowD (fun r => !keptB r (sidesOf sz)) rfl (by simp [-ev_lc, -ev_lenDc, -ex_sfor, -ex_swhile, startE, wayD]) (by omega) (fun r h => by
      have := H r sz st hz (hr r h)
      cases q : keptB r (sidesOf sz) <;> simp [-ev_lc, -ev_lenDc, -ex_sfor, -ex_swhile, startE, lcStep, wipeE, this, q])]
    have e2 := filter_len0 (fun r => keptB r (sidesOf sz)) w
    have e3 : metB (w :: xs) (sidesOf sz) = ((w.all fun r => keptB r (sidesOf sz)) || metB xs (sidesOf sz)) := rfl
    rw [e3] at he
    cases q : (w.all fun r => keptB r (sidesOf sz))
    · rw [q] at e2 he
      simp [-ev_lc, -ev_lenDc, -ex_sfor, -ex_swhile, startE, -List.length_map, -cmp_eq_int, List.length_map, cmp_eq_int, e2]
      exact ⟨fun w hw => hm w (List.mem_cons_of_mem _ hw), he⟩
    · rw [q] at e2 he
      simp [-ev_lc, -ev_lenDc, -ex_sfor, -ex_swhile, startE, -List.length_map, -cmp_eq_int, List.length_map, cmp_eq_int, e2]
      exact he.symm
  · rintro env ⟨⟨s2, rfl⟩, hm, he⟩
    simp [-ev_lc, -ev_lenDc, -ex_sfor, -ex_swhile, startE]
    exact he.symm
def SpLm (Fn : Fs) : Prop := ∀ (c : Clause) (sz : Sz) (st : Store), sz.length ≤ 100 → (∀ w ∈ c, w.length ≤ 1000 ∧ ∀ r ∈ w, rowOk (2 * sz.length) r) → Fn.call (Str.ofString "_law_met") [.dat (clauseD c), .dat (sizesD sz)] st = .ok (.bool (metB c (sidesOf sz))) st
end
end Pl

set_option maxHeartbeats 1000000
/-! R11: the rows of statements are small; how many there are. -/
namespace Pl
open PySem Pm
open Sx (ga Si)
theorem acc_small1 (a : Part) (h : a.2.2.natAbs ≤ 1) (k : Int) : (accP [a] k).natAbs ≤ 1 := by
  simp only [accP]
  split <;> simp <;> omega
theorem acc_small2 {a b : Part} (ha : a.2.2 = 1) (hb : b.2.2 = -1) (k : Int) : (accP [a, b] k).natAbs ≤ 1 := by
  simp only [accP]
  rw [ha, hb]
  split <;> split <;> decide
theorem acc_small3 {a b c : Part} (ha : a.2.2 = 1) (hb : b.2.2 = -1) (hc : c.2.2 = -1) (hn : place b ≠ place c) (k : Int) : (accP [a, b, c] k).natAbs ≤ 1 := by
  simp only [accP]
  rw [ha, hb, hc]
  by_cases h1 : place b = k
  · have h2 : ¬ place c = k := by omega
    rw [if_pos h1, if_neg h2]
    split <;> decide
  · rw [if_neg h1]
    split <;> split <;> decide
theorem line_ok {many least : Int} {ps : List Part} (h : ∀ k, (accP ps k).natAbs ≤ 1) (hl : least = 0 ∨ least = 1) : Sx.RowOk (2 * many).toNat (lineOf many ps least) :=
  ⟨line_len _ _ _, fun x hx => by
    obtain ⟨k, _, rfl⟩ := List.mem_map.mp hx
    exact h _, hl⟩
theorem RowOk.rowOk {n : Nat} {r : Row} (h : Sx.RowOk n r) : rowOk n r := ⟨h.1, h.2.1⟩
theorem less_ok {many a b d least : Int} (hl : least = 0 ∨ least = 1) : Sx.RowOk (2 * many).toNat (lessR many a b d least) := line_ok (acc_small2 rfl rfl) hl
theorem base_ok {many : Int} : ∀ r ∈ baseR many, Sx.RowOk (2 * many).toNat r := by
  intro r hr
  unfold baseR at hr
  obtain ⟨k, hk, hr⟩ := List.mem_flatMap.mp hr
  simp only [List.mem_cons, List.not_mem_nil, or_false] at hr
  rcases hr with rfl | rfl
  · exact line_ok (acc_small1 _ (show (1 : Int).natAbs ≤ 1 by decide)) (.inr rfl)
  · exact line_ok (acc_small2 rfl rfl) (.inl rfl)
theorem base_len {many : Int} : (baseR many).length = 2 * many.toNat := by
  unfold baseR
  rw [List.length_flatMap]
  generalize many.toNat = n
  have : ∀ l : List Nat, (l.map fun (k : Nat) => ([lineOf many [((k : Int), 0, 1)] 1, lineOf many [((k : Int), 1, 1), ((k : Int), 0, -1)] 0] : List Row).length).sum = 2 * l.length := fun l => by
    induction l with
    | nil => rfl
    | cons x l ih => rw [List.map_cons, List.sum_cons, ih]; simp only [List.length_cons, List.length_nil]; omega
  rw [this, List.length_range]
theorem other_ok {n : Nat} {r : Row} (h : Sx.RowOk n r) : Sx.RowOk n (otherR r) :=
  ⟨by simp [otherR, h.1], fun x hx => by
    obtain ⟨y, hy, rfl⟩ := List.mem_map.mp hx
    have := h.2.1 y hy
    omega, .inl rfl⟩
theorem way_ok {many a b c k i j : Int} (hab : a ≠ b) (hi : i = 0 ∨ i = 1) (hj : j = 0 ∨ j = 1) : ∀ r ∈ wayR many a b c k i j, Sx.RowOk (2 * many).toNat r := by
  intro r hr
  unfold wayR at hr
  simp only [List.mem_cons, List.not_mem_nil, or_false] at hr
  rcases hr with rfl | rfl | rfl
  · exact line_ok (acc_small3 rfl rfl rfl (by unfold place; show 2 * a + i ≠ 2 * b + j; omega)) (.inr rfl)
  · exact line_ok (acc_small2 rfl rfl) (.inr rfl)
  · exact line_ok (acc_small2 rfl rfl) (.inr rfl)
/-- a clause as statements have them -/
structure ClOk (n : Nat) (c : Clause) : Prop where
  rows : ∀ w ∈ c, ∀ r ∈ w, Sx.RowOk n r
  ways : c.length ≤ 8
  len : ∀ w ∈ c, w.length ≤ 4
theorem both_mem {many a b c : Int} {w : Way} (h : w ∈ bothR many a b c) : ∃ k i j : Int, (k = 0 ∨ k = 1) ∧ (i = 0 ∨ i = 1) ∧ (j = 0 ∨ j = 1) ∧ w = wayR many a b c k i j := by
  unfold bothR at h
  simp only [List.mem_cons, List.not_mem_nil, or_false] at h
  rcases h with rfl | rfl | rfl | rfl | rfl | rfl | rfl | rfl
  · exact ⟨0, 0, 0, .inl rfl, .inl rfl, .inl rfl, rfl⟩
  · exact ⟨0, 0, 1, .inl rfl, .inl rfl, .inr rfl, rfl⟩
  · exact ⟨0, 1, 0, .inl rfl, .inr rfl, .inl rfl, rfl⟩
  · exact ⟨0, 1, 1, .inl rfl, .inr rfl, .inr rfl, rfl⟩
  · exact ⟨1, 0, 0, .inr rfl, .inl rfl, .inl rfl, rfl⟩
  · exact ⟨1, 0, 1, .inr rfl, .inl rfl, .inr rfl, rfl⟩
  · exact ⟨1, 1, 0, .inr rfl, .inr rfl, .inl rfl, rfl⟩
  · exact ⟨1, 1, 1, .inr rfl, .inr rfl, .inr rfl, rfl⟩
theorem clauses_ok {many : Int} {s : Stm} (h : s.ok many) : ∀ c ∈ clausesR many s, ClOk (2 * many).toNat c := by
  intro c hc
  have z : (0 : Int) = 0 ∨ (0 : Int) = 1 := .inl rfl
  have o : (1 : Int) = 0 ∨ (1 : Int) = 1 := .inr rfl
  cases s with
  | on a b =>
    simp only [clausesR, List.mem_singleton] at hc
    subst hc
    refine ⟨fun w hw r hr => ?_, by simp, fun w hw => ?_⟩
    · simp only [List.mem_singleton] at hw
      subst hw
      simp only [List.mem_cons, List.not_mem_nil, or_false] at hr
      rcases hr with rfl | rfl <;> exact less_ok o
    · simp only [List.mem_singleton] at hw
      subst hw
      simp
  | off a b =>
    simp only [clausesR, List.mem_singleton] at hc
    subst hc
    refine ⟨fun w hw r hr => ?_, by simp, fun w hw => ?_⟩
    · simp only [List.mem_cons, List.not_mem_nil, or_false] at hw
      rcases hw with rfl | rfl <;> (simp only [List.mem_singleton] at hr; subst hr; exact less_ok z)
    · simp only [List.mem_cons, List.not_mem_nil, or_false] at hw
      rcases hw with rfl | rfl <;> simp
  | like a b =>
    simp only [clausesR, List.mem_singleton] at hc
    subst hc
    refine ⟨fun w hw r hr => ?_, by simp, fun w hw => ?_⟩
    · simp only [List.mem_singleton] at hw
      subst hw
      simp only [List.mem_cons, List.not_mem_nil, or_false] at hr
      rcases hr with rfl | rfl | rfl | rfl <;> exact less_ok z
    · simp only [List.mem_singleton] at hw
      subst hw
      simp
  | unlike a b =>
    simp only [clausesR, List.mem_singleton] at hc
    subst hc
    refine ⟨fun w hw r hr => ?_, by simp, fun w hw => ?_⟩
    · simp only [List.mem_cons, List.not_mem_nil, or_false] at hw
      rcases hw with rfl | rfl | rfl | rfl <;> (simp only [List.mem_singleton] at hr; subst hr; exact less_ok o)
    · simp only [List.mem_cons, List.not_mem_nil, or_false] at hw
      rcases hw with rfl | rfl | rfl | rfl <;> simp
  | both a b c' =>
    obtain ⟨_, _, _, _, _, _, hab, _⟩ := h
    simp only [clausesR, List.mem_singleton] at hc
    subst hc
    refine ⟨fun w hw r hr => ?_, by simp [bothR], fun w hw => ?_⟩
    · obtain ⟨k, i, j, hk, hi, hj, rfl⟩ := both_mem hw
      exact way_ok hab hi hj r hr
    · obtain ⟨k, i, j, hk, hi, hj, rfl⟩ := both_mem hw
      simp [wayR]
  | notboth a b c' =>
    obtain ⟨_, _, _, _, _, _, hab, _⟩ := h
    simp only [clausesR] at hc
    obtain ⟨w0, hw0, rfl⟩ := List.mem_map.mp hc
    obtain ⟨k, i, j, hk, hi, hj, rfl⟩ := both_mem hw0
    refine ⟨fun w hw r hr => ?_, by simp [wayR], fun w hw => ?_⟩
    · obtain ⟨r0, hr0, rfl⟩ := List.mem_map.mp hw
      simp only [List.mem_singleton] at hr
      subst hr
      exact other_ok (way_ok hab hi hj r0 hr0)
    · obtain ⟨r0, hr0, rfl⟩ := List.mem_map.mp hw
      simp
theorem clauses_len {many : Int} (s : Stm) : (clausesR many s).length ≤ 8 := by
  cases s <;> simp [clausesR, bothR]
/-- data all the way -/
theorem pln_row {n : Nat} {r : Row} (h : r.1.length ≤ 1000) : Pln (n + 2) (rowD r) := by
  refine .tup (fun d hd => ?_) (by simp)
  simp only [List.mem_cons, List.not_mem_nil, or_false] at hd
  rcases hd with rfl | rfl
  · refine .tup (fun d hd => ?_) (by simpa using h)
    obtain ⟨x, _, rfl⟩ := List.mem_map.mp hd
    exact .int _ _
  · exact .int _ _
theorem pln_rows {n : Nat} {l : List Row} (h : ∀ r ∈ l, r.1.length ≤ 1000) (hl : l.length ≤ 1000) : Pln (n + 3) (wayD l) := by
  refine .lst (fun d hd => ?_) (by simpa using hl)
  obtain ⟨r, hr, rfl⟩ := List.mem_map.mp hd
  exact pln_row (h r hr)
theorem pln_clauses {m n : Nat} {cs : List Clause} (hm : m ≤ 1000) (h : ∀ c ∈ cs, ClOk m c) (hl : cs.length ≤ 1000) : Pln (n + 5) (clausesD cs) := by
  refine .lst (fun d hd => ?_) (by simpa using hl)
  obtain ⟨c, hc, rfl⟩ := List.mem_map.mp hd
  obtain ⟨h1, h2, h3⟩ := h c hc
  refine .lst (fun d hd => ?_) (by simp; omega)
  obtain ⟨w, hw, rfl⟩ := List.mem_map.mp hd
  exact pln_rows (fun r hr => by rw [(h1 w hw r hr).1]; exact hm) (by have := h3 w hw; omega)
abbrev SpLks (Fn : Fs) : Prop := ∀ (sz : Sz) (l : List Stm) (st : Store), (∀ s ∈ l, s.ok sz.length) → l.length ≤ 1000 → Fn.call (Str.ofString "_law_keeps") [.dat (factsD l), .dat (sizesD sz)] st = .ok (.bool (l.all fun s => s.hold sz)) st
def SpBase (Fn : Fs) (x : Str) : Prop := ∀ (many : Int) (st : Store), 0 ≤ many → many < 100 → Fn.call x [.dat (.int many)] st = .ok (wayD (baseR many)) st
def SpCl (Fn : Fs) (x : Str) : Prop := ∀ (many : Int) (s : Stm) (st : Store), 0 ≤ many → many < 100 → s.ok many → Fn.call x [.dat (.int many), .dat s.d] st = .ok (clausesD (clausesR many s)) st
theorem lawcl_run {Fn : Fs} {wf : Nat} {st : Store} (M : SpMore Fn) (E : SpEight Fn) {many : Int} {s : Stm} (h0 : 0 ≤ many) (h1 : many < 100) (h : s.ok many) : endOf st (runDef Fn wf Cd.D__law_clauses [.dat (.int many), .dat s.d] st) = .ok (clausesD (clausesR many s)) st := by
  cases s with
  | on a b => exact lawcl_on M h0 h1 h
  | off a b => exact lawcl_off M h0 h1 h
  | like a b => exact lawcl_like M h0 h1 h
  | unlike a b => exact lawcl_unlike M h0 h1 h
  | both a b c => exact lawcl_both E h0 h1 h
  | notboth a b c => exact lawcl_notboth E h0 h1 h
end Pl

set_option maxHeartbeats 1000000
namespace Pl
open PySem Pm
section
variable {wf : Nat}

theorem tabS : ∀ n, TabS (fsOf Lw.pg wf n)
  | 0 => ⟨rfl⟩
  | _ + 1 => ⟨rfl⟩
theorem F_is_number (n : Nat) : SpNum (fsOf Lw.pg wf (n + 1)) := fun d many st => (call_at Lw.nd Lw.at_is_number _ _).trans (is_number_run d many)
theorem F_is_statement (n : Nat) : SpSt (fsOf Lw.pg wf (n + 2)) := fun many s st h => (call_at Lw.nd Lw.at_is_statement _ _).trans (is_statement_run (tabS _) (F_is_number (n + 0)) h)
theorem F_check_statement (n : Nat) : SpCk (fsOf Lw.pg wf (n + 3)) := fun many s st h => (call_at Lw.nd Lw.at_check_statement _ _).trans (check_statement_run (F_is_statement (n + 0)) h)
theorem F_line_of (n : Nat) : SpLine (fsOf Lw.pg wf (n + 1)) (Str.ofString "line_of") := fun many least ps st h0 h1 hp hq => (call_at Lw.nd Lw.at_line_of _ _).trans (line_of_run h0 h1 hp)
theorem F_base (n : Nat) : SpBase (fsOf Lw.pg wf (n + 2)) (Str.ofString "base") := fun many st h0 h1 => (call_at Lw.nd Lw.at_base _ _).trans (base_run (F_line_of (n + 0)) h0 h1)
theorem F_less (n : Nat) : SpLess (fsOf Lw.pg wf (n + 2)) := fun many a b d least st h0 h1 a0 a1 b0 b1 hd => (call_at Lw.nd Lw.at_less _ _).trans (less_run (F_line_of (n + 0)) h0 h1 (by omega) (by omega))
theorem F_both_ways (n : Nat) : SpWays (fsOf Lw.pg wf (n + 2)) := fun many a b c st h => (call_at Lw.nd Lw.at_both_ways _ _).trans (both_ways_run (F_line_of (n + 0)) h)
theorem F_other_line (n : Nat) : SpOther (fsOf Lw.pg wf (n + 1)) := fun r st h => (call_at Lw.nd Lw.at_other_line _ _).trans (other_run h)
theorem F_pair_clauses (n : Nat) : SpPair (fsOf Lw.pg wf (n + 3)) := ⟨fun many a b st h0 h1 a0 a1 b0 b1 => (call_at Lw.nd Lw.at_pair_clauses _ _).trans (pair_on (F_less (n + 0)) h0 h1 a0 a1 b0 b1), fun many a b st h0 h1 a0 a1 b0 b1 => (call_at Lw.nd Lw.at_pair_clauses _ _).trans (pair_off (F_less (n + 0)) h0 h1 a0 a1 b0 b1),
  fun many a b st h0 h1 a0 a1 b0 b1 => (call_at Lw.nd Lw.at_pair_clauses _ _).trans (pair_like (F_less (n + 0)) h0 h1 a0 a1 b0 b1), fun many a b st h0 h1 a0 a1 b0 b1 => (call_at Lw.nd Lw.at_pair_clauses _ _).trans (pair_unlike (F_less (n + 0)) h0 h1 a0 a1 b0 b1)⟩
theorem F_clauses (n : Nat) : SpCl (fsOf Lw.pg wf (n + 4)) (Str.ofString "clauses") := fun many s st h0 h1 h => (call_at Lw.nd Lw.at_clauses _ _).trans (clauses_run (F_check_statement (n + 0)) (F_pair_clauses (n + 0)) (F_both_ways (n + 1)) (F_other_line (n + 2)) h0 h1 h)
theorem F__law_draw (n : Nat) : SpDraw (fsOf Lw.pg wf (n + 1)) := fun size st h1 h2 hs => by
  obtain ⟨r, st', e, h⟩ := draw_run (fsOf Lw.pg wf _) wf size h1 h2 hs
  exact ⟨r, st', by rw [call_at Lw.nd Lw.at__law_draw, e], h⟩
theorem F__law_words (n : Nat) : SpWords (fsOf Lw.pg wf (n + 1)) := fun st => (call_at Lw.nd Lw.at__law_words _ _).trans (words_run)
theorem F__law_statement (n : Nat) : SpDrawn (fsOf Lw.pg wf (n + 2)) := fun many st hm hs => by
  obtain ⟨s, st', e, h⟩ := statement_run (wf := wf) (F__law_draw (n + 0)) (F__law_words (n + 0)) hm hs
  exact ⟨s, st', by rw [call_at Lw.nd Lw.at__law_statement, e], h⟩
theorem F__law_facts (n : Nat) : SpFacts (fsOf Lw.pg wf (n + 3)) := fun many size st hm h0 h1 hs => by
  obtain ⟨l, st', e, h⟩ := facts_run (wf := wf) (F__law_statement (n + 0)) hm h0 h1 hs
  exact ⟨l, st', by rw [call_at Lw.nd Lw.at__law_facts, e], h⟩
theorem F__law_turn (n : Nat) : SpTurn (fsOf Lw.pg wf (n + 1)) := fun s st => (call_at Lw.nd Lw.at__law_turn _ _).trans (turn_run s)
theorem F__law_holds (n : Nat) : SpLh (fsOf Lw.pg wf (n + 1)) := fun sz s st h => (call_at Lw.nd Lw.at__law_holds _ _).trans (lawholds_run h)
theorem F__law_keeps (n : Nat) : SpLks (fsOf Lw.pg wf (n + 2)) := fun sz l st h hl => (call_at Lw.nd Lw.at__law_keeps _ _).trans (lawkeeps_run (F__law_holds (n + 0)) h hl)
theorem F__law_drawn (n : Nat) : SpSizes (fsOf Lw.pg wf (n + 2)) := fun many top st h0 hm h1 h2 hs => by
  obtain ⟨sz, st', e, h⟩ := drawn_run (wf := wf) (F__law_draw (n + 0)) h0 hm h1 h2 hs
  exact ⟨sz, st', by rw [call_at Lw.nd Lw.at__law_drawn, e], h⟩
theorem F__law_line (n : Nat) : SpLine (fsOf Lw.pg wf (n + 1)) (Str.ofString "_law_line") := fun many least ps st h0 h1 hp hq => (call_at Lw.nd Lw.at__law_line _ _).trans (law_line_run h0 h1 hq)
theorem F__law_base (n : Nat) : SpBase (fsOf Lw.pg wf (n + 2)) (Str.ofString "_law_base") := fun many st h0 h1 => (call_at Lw.nd Lw.at__law_base _ _).trans (law_base_run (F__law_line (n + 0)) h0 h1)
theorem F__law_more (n : Nat) : SpMore (fsOf Lw.pg wf (n + 2)) := fun many a b d least st h0 h1 a0 a1 b0 b1 hd => (call_at Lw.nd Lw.at__law_more _ _).trans (law_more_run (F__law_line (n + 0)) h0 h1 (by omega) (by omega))
theorem F__law_eight (n : Nat) : SpEight (fsOf Lw.pg wf (n + 2)) := fun many a b c st h => (call_at Lw.nd Lw.at__law_eight _ _).trans (law_eight_run (F__law_line (n + 0)) h)
theorem F__law_clauses (n : Nat) : SpCl (fsOf Lw.pg wf (n + 3)) (Str.ofString "_law_clauses") := fun many s st h0 h1 h => (call_at Lw.nd Lw.at__law_clauses _ _).trans (lawcl_run (F__law_more (n + 0)) (F__law_eight (n + 0)) h0 h1 h)
theorem F__law_kept (n : Nat) : SpLk (fsOf Lw.pg wf (n + 1)) := fun r sz st h hr => (call_at Lw.nd Lw.at__law_kept _ _).trans (law_kept_run h hr)
theorem F__law_met (n : Nat) : SpLm (fsOf Lw.pg wf (n + 2)) := fun c sz st h hc => (call_at Lw.nd Lw.at__law_met _ _).trans (law_met_run (F__law_kept (n + 0)) h hc)
end
end Pl

set_option maxHeartbeats 1000000
/-! L02: the law k02, plain. -/
namespace Pl
open PySem Pm
open Sx (ga Si)
def Tr (o : Ou) : Prop := ∃ st', o = .ret (.bool true) st'
@[simp] theorem Tr_ret {d : PyData} {st : Store} : Tr (.ret d st) = (d = .bool true) := by
  apply propext
  constructor
  · rintro ⟨_, h⟩
    cases h
    rfl
  · rintro rfl
    exact ⟨_, rfl⟩
theorem F_like {wf : Nat} : ∀ k n : Nat, SpLike (fsOf Lw.pg wf (n + k + 1)) k
  | 0, n => fun d st h => by
    cases h with
    | int _ i => exact (call_at Lw.nd Lw.at__law_like _ _).trans like_int
  | k + 1, n => fun d st h => (call_at Lw.nd Lw.at__law_like _ _).trans (like_run (F_like k n) h)
theorem law_run {Fn : Fs} {wf : Nat} (dr : SpDraw Fn) (ds : SpDrawn Fn) (dz : SpSizes Fn) (bs : SpBase Fn (Str.ofString "base")) (lb : SpBase Fn (Str.ofString "_law_base")) (cl : SpCl Fn (Str.ofString "clauses")) (lc : SpCl Fn (Str.ofString "_law_clauses")) (lh : SpLh Fn) (lk : SpLk Fn) (lm : SpLm Fn) (like : SpLike Fn 9) (ns : List Int) : Tr (ex Fn wf Lw.c_law (lawEnv 11) (lawSt ns)) := by
  obtain ⟨a, st1, e1, a0, a1, hs1⟩ := dr 3 (lawSt ns) (by decide) (by decide) (.start ns)
  have hm : 2 + a = 2 ∨ 2 + a = 3 ∨ 2 + a = 4 := by omega
  have b1 := bs (2 + a) st1 (by omega) (by omega)
  have b2 := lb (2 + a) st1 (by omega) (by omega)
  have b3 := like _ st1 (pln_rows (n := 6) (l := baseR (2 + a)) (fun r hr => by rw [(base_ok r hr).1]; omega) (by rw [base_len]; omega))
  simp only [Lw.c_law]
  simp [-ev_lc, -ev_lenDc, -ex_sfor, -ex_swhile, startE, lawEnv, argOf, e1, b1, b2, b3]
  refine P_forS (List.range 6) natD (fun xs env st => DrawSt st ∧ ∃ s3 s4 s5 s6 s7 s8 : Slot, env = [.no, .obj 0, .dat (.int (2 + a)), s3, s4, s5, s6, s7, s8, .no, .no] ∧ True) (evI_rng1_nat (by simp [-ev_lc, -ev_lenDc, -ex_sfor, -ex_swhile, startE]) (by decide)) ⟨hs1, _, _, _, _, _, _, rfl, trivial⟩ ?_ ?_
  · rintro x xs env st ⟨hs, s3, s4, s5, s6, s7, s8, rfl, _⟩
    refine ⟨_, setG_nm, ?_⟩
    obtain ⟨s, st2, e2, hok, hs2⟩ := ds (2 + a) st hm hs
    have c1 := cl (2 + a) s st2 (by omega) (by omega) hok
    have c2 := lc (2 + a) s st2 (by omega) (by omega) hok
    have hcs := clauses_ok hok
    have hcl := clauses_len (many := 2 + a) s
    have c3 := like _ st2 (pln_clauses (n := 4) (by omega) hcs (by omega))
    simp [-ev_lc, -ev_lenDc, -ex_sfor, -ex_swhile, startE, argOf, e2, c1, c2, c3]
    refine P_forSE (List.range 4) natD (fun xs env st => DrawSt st ∧ ∃ s6 s7 s8 : Slot, env = [.no, .obj 0, .dat (.int (2 + a)), .dat (natD x), .dat s.d, .dat (clausesD (clausesR (2 + a) s)), s6, s7, s8, .no, .no]) (evI_rng1_nat (by simp [-ev_lc, -ev_lenDc, -ex_sfor, -ex_swhile, startE]) (by decide)) ⟨hs2, _, _, _, rfl⟩ ?_ ?_
    · rintro y ys env st3 ⟨hs3, s6, s7, s8, rfl⟩
      refine ⟨_, setG_nm, ?_⟩
      obtain ⟨sz, st4, e4, hz, hzo, hs4⟩ := dz (2 + a) 6 st3 (by omega) (by omega) (by decide) (by decide) hs3
      have hz' : (sz.length : Int) = 2 + a := by omega
      have hok' : s.ok sz.length := by rw [hz']; exact hok
      have h1 := lh sz s st4 hok'
      have hmet := hold_met hz' (by omega) hok
      have b4 := bs (2 + a) st4 (by omega) (by omega)
      have hbk := base_kept hz' hzo
      simp [-ev_lc, -ev_lenDc, -ex_sfor, -ex_swhile, startE, argOf, e4]
      rw [ev_lc_filter (clausesR (2 + a) s) clauseD clauseD (fun c => !metB c (sidesOf sz)) rfl (by simp [-ev_lc, -ev_lenDc, -ex_sfor, -ex_swhile, startE, clausesD]) (by omega) (fun c hc => by
        obtain ⟨q1, q2, q3⟩ := hcs c hc
        have := lm c sz st4 (by omega) (fun w hw => ⟨by have := q3 w hw; omega, fun r hr => by
          have := q1 w hw r hr
          rw [show (2 * (2 + a)).toNat = 2 * sz.length by omega] at this
          exact RowOk.rowOk this⟩)
        cases q : metB c (sidesOf sz) <;> simp [-ev_lc, -ev_lenDc, -ex_sfor, -ex_swhile, startE, lcStep, wipeE, this, q])]
      have e5 := filter_len0 (fun c => metB c (sidesOf sz)) (clausesR (2 + a) s)
      have e6 : ((clausesR (2 + a) s).all fun c => metB c (sidesOf sz)) = s.hold sz := hmet
      rw [e6] at e5
      simp [-ev_lc, -ev_lenDc, -ex_sfor, -ex_swhile, startE, -List.length_map, -cmp_eq_int, List.length_map, cmp_eq_int, e5, h1]
      rw [ev_lc_filter (baseR (2 + a)) rowD rowD (fun r => !keptB r (sidesOf sz)) rfl (by simp [-ev_lc, -ev_lenDc, -ex_sfor, -ex_swhile, startE, b4, wayD]) (by rw [base_len]; omega) (fun r hr => by
        have := lk r sz st4 (by omega) (by
          have := base_ok r hr
          rw [show (2 * (2 + a)).toNat = 2 * sz.length by omega] at this
          exact RowOk.rowOk this)
        cases q : keptB r (sidesOf sz) <;> simp [-ev_lc, -ev_lenDc, -ex_sfor, -ex_swhile, startE, lcStep, wipeE, this, q])]
      have e7 := filter_len0 (fun r => keptB r (sidesOf sz)) (baseR (2 + a))
      rw [hbk, beq_iff_eq] at e7
      simp [-ev_lc, -ev_lenDc, -ex_sfor, -ex_swhile, startE, -List.length_map, List.length_map, e7]
      exact hs4
    · rintro env st3 ⟨hs3, s6, s7, s8, rfl⟩
      simp [-ev_lc, -ev_lenDc, -ex_sfor, -ex_swhile, startE]
      exact hs3
  · rintro env st ⟨hs, s3, s4, s5, s6, s7, s8, rfl, _⟩
    simp [-ev_lc, -ev_lenDc, -ex_sfor, -ex_swhile, startE]
theorem law_ok {wf : Nat} (ns : List Int) : ∃ st', ex (fsOf Lw.pg wf 15) wf Lw.c_law (lawEnv 11) (lawSt ns) = .ret (.bool true) st' :=
  law_run (F__law_draw 14) (F__law_statement 13) (F__law_drawn 13) (F_base 13) (F__law_base 13) (F_clauses 11) (F__law_clauses 12) (F__law_holds 14) (F__law_kept 14) (F__law_met 13) (F_like 9 5) ns
end Pl

theorem PySem.Challenge.cw_sheetsfit_k02_whole_rows_holds : PySem.Challenge.rw_sheetsfit_k02_whole_rows.Holds := by
  exact Lw.holds (m := 14) (wf := 0) ⟨rfl, by decide, by decide⟩ (fun ns _ => Pl.law_ok ns)
