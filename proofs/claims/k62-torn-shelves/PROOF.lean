import PyProof.Rows.All
import Wide.All
import OpenK.AllK
import Wide.FinOn
import PyProof.ReprReads
import KE.IntTextLaws
import KE.SortData
import HandS.TupSets
import HandS.SetBool
import KE.KeyNested
import HandS.ForMost
import HandS.Exc
import HandS.TryOnly
import HandS.ExcOwn
import HandS.WordsExc
import HandS.HeadEnd
import HandS.Flow
import HandS.IsInst
import HandS.TupAny
import HandS.TupLe
import HandS.Deep
import PyProof.ListMulRight
import HandS.Text
import HandS.Style
import HandS.RaiseMore
import HandS.Conv
import HandS.Codes
import HandS.Iter
import HandS.Zip
import KE.GoesEnum
import KE.GoesEnumKw
import HandS.Star
import HandS.Comp
import HandS.Wide
import HandS.Dict
import HandS.Ends
import KE.KExcSuper
import KE.KSuper
import HandS.ExcInit
import HandS.HeadHook1
import HandS.HeadHook2
import HandS.HeadHook3
import Wide.Once
import KE.KStateDown
import HandS.Defaults
import HandS.Head0
import HandS.Head1
import HandS.Head2
import PyProof.StrLawsRepr
import PySem.Challenge.RW_oncestream_k62_whole_torn_shelves
section
set_option linter.all false
set_option Elab.async false
/-! OCore: plain data, the IR of the Python used, its evaluator (by value). -/
namespace O
open PySem

/-- plain data; a text is the list of its codes -/
inductive D where
  | non | bl (b : Bool) | int (i : Int) | str (s : List Nat) | tup (ds : List D) | lst (ds : List D)
  | dct (kvs : List (D × D)) | set (ds : List D) | fn (n : Nat) (cs : List D) | src
  deriving Inhabited

/-- the drawn source: the cells in the order of their taking -/
structure OS where
  cells : List Int
  left : Int
  mixed : Int
  turn : Int

inductive R (α : Type) where
  | ok (a : α) (o : OS)
  | ex (c : Nat) (o : OS)
  | bad

def R.bind {α β : Type} (x : R α) (f : α → OS → R β) : R β :=
  match x with
  | .ok a o => f a o
  | .ex c o => .ex c o
  | .bad => .bad
@[simp] theorem R.bind_ok {α β : Type} (a : α) (o : OS) (f : α → OS → R β) : (R.ok a o).bind f = f a o := rfl
@[simp] theorem R.bind_ex {α β : Type} (c : Nat) (o : OS) (f : α → OS → R β) : (R.ex c o : R α).bind f = .ex c o := rfl
@[simp] theorem R.bind_bad {α β : Type} (f : α → OS → R β) : (R.bad : R α).bind f = .bad := rfl
/-- nothing may be raised here -/
def R.nox {α : Type} (x : R α) : R α :=
  match x with
  | .ok a o => .ok a o
  | .ex _ _ => .bad
  | .bad => .bad
@[simp] theorem R.nox_ok {α : Type} (a : α) (o : OS) : (R.ok a o).nox = .ok a o := rfl
def R.of {α : Type} (x : Option α) (o : OS) : R α :=
  match x with
  | some a => .ok a o
  | none => .bad
@[simp] theorem R.of_some {α : Type} (a : α) (o : OS) : R.of (some a) o = .ok a o := rfl
@[simp] theorem R.of_none {α : Type} (o : OS) : (R.of none o : R α) = .bad := rfl

/-! ### data -/
abbrev lid : Nat := 16777216
def truthy : D → Bool
  | .non => false
  | .bl b => b
  | .int i => decide (i ≠ 0)
  | .str s => !s.isEmpty
  | .tup ds => !ds.isEmpty
  | .lst ds => !ds.isEmpty
  | .dct kvs => !kvs.isEmpty
  | .set ds => !ds.isEmpty
  | _ => true

mutual
def eqD : D → D → Bool
  | .non, .non => true
  | .bl a, .bl b => a == b
  | .bl a, .int j => (if a then 1 else 0) == j
  | .int i, .bl b => i == (if b then 1 else 0)
  | .int i, .int j => i == j
  | .str x, .str y => x == y
  | .lst xs, .lst ys => eqL xs ys
  | .tup xs, .tup ys => eqL xs ys
  | .dct xs, .dct ys => xs.length == ys.length && eqK xs ys
  | _, _ => false
def eqL : List D → List D → Bool
  | [], [] => true
  | x :: xs, y :: ys => eqD x y && eqL xs ys
  | [], _ :: _ => false
  | _ :: _, [] => false
def eqK : List (D × D) → List (D × D) → Bool
  | [], _ => true
  | (k, v) :: r, ys => (ys.any fun p => eqD k p.1 && eqD v p.2) && eqK r ys
end
mutual
/-- flat or nested data without dicts, sets, functions -/
def pure : D → Bool
  | .non | .bl _ | .int _ | .str _ => true
  | .tup xs | .lst xs => pureL xs
  | _ => false
def pureL : List D → Bool
  | [] => true
  | x :: xs => pure x && pureL xs
end
mutual
def depth : D → Nat
  | .tup xs | .lst xs => depthL xs + 1
  | .dct kvs => depthK kvs + 1
  | _ => 0
def depthL : List D → Nat
  | [] => 0
  | x :: xs => max (depth x) (depthL xs)
def depthK : List (D × D) → Nat
  | [] => 0
  | (a, b) :: r => max (max (depth a) (depth b)) (depthK r)
end
mutual
/-- what two data being compared must be, the second line being the bound of depth -/
def toPy : D → PyData
  | .non => .none
  | .bl b => .bool b
  | .int i => .int i
  | .str s => .str ⟨s.toArray⟩
  | .tup xs => .tuple (toPyL xs)
  | .lst xs => .list (toPyL xs)
  | .dct kvs => .dict (toPyK kvs)
  | _ => .none
def toPyL : List D → List PyData
  | [] => []
  | x :: xs => toPy x :: toPyL xs
def toPyK : List (D × D) → List (PyData × PyData)
  | [] => []
  | (a, b) :: r => (toPy a, toPy b) :: toPyK r
end
def numT (i : Int) : List Nat := (toString i).toList.map Char.toNat
def reprT (d : D) : List Nat := (toPy d).shown.cps.toList
inductive Cop where | eq | ne | lt | le | gt | ge | is | isnot | inn | notin
  deriving DecidableEq
/-- what an order asks of two numbers; of two texts; of two lengths -/
def ordI : Cop → Int → Int → Bool
  | .lt, i, j => decide (i < j)
  | .le, i, j => decide (i ≤ j)
  | .gt, i, j => decide (j < i)
  | .ge, i, j => decide (j ≤ i)
  | _, _, _ => false
def ordS : Cop → List Nat → List Nat → Bool
  | .lt, x, y => decide (x < y)
  | .le, x, y => !decide (y < x)
  | .gt, x, y => decide (y < x)
  | .ge, x, y => !decide (x < y)
  | _, _, _ => false
mutual
/-- x op y; none where Python would refuse -/
def ordD (op : Cop) : D → D → Option Bool
  | .int i, .int j => some (ordI op i j)
  | .str x, .str y => some (ordS op x y)
  | .tup xs, .tup ys => ordL op xs ys
  | _, _ => none
def ordL (op : Cop) : List D → List D → Option Bool
  | [], ys => some (ordI op 0 ys.length)
  | x :: xs, [] => some (ordI op (xs.length + 1) 0)
  | x :: xs, y :: ys => if eqD x y then ordL op xs ys else ordD op x y
end
/-- can two data be compared with == here -/
def cmpOk (x y : D) : Bool := pure x && pure y && (decide (depth x ≤ 60) || decide (depth y ≤ 60))

/-- a module's table asked for a text -/
def keyG : D → D → Option (Option D)
  | .dct kvs, .str s => some ((kvs.find? fun p => eqD p.1 (.str s)).map (·.2))
  | _, _ => none

/-! ### operators -/
inductive Bop where | add | sub | mul | fdiv | mod | pow
  deriving DecidableEq
def rep {α : Type} (xs : List α) (k : Int) : List α := (List.replicate k.toNat xs).flatten
def binD : Bop → D → D → Option D
  | .add, .int i, .int j => some (.int (i + j))
  | .add, .str x, .str y => if x.length + y.length ≤ lid then some (.str (x ++ y)) else none
  | .add, .tup x, .tup y => if x.length + y.length ≤ lid then some (.tup (x ++ y)) else none
  | .add, .lst x, .lst y => if x.length + y.length ≤ lid then some (.lst (x ++ y)) else none
  | .sub, .int i, .int j => some (.int (i - j))
  | .mul, .int i, .int j => if (decide (-(2 ^ 64) < i) && decide (i < 2 ^ 64)) || (decide (-(2 ^ 64) < j) && decide (j < 2 ^ 64)) then some (.int (i * j)) else none
  | .mul, .int k, .str x => if x.length * k.toNat ≤ lid ∧ k < 2 ^ 62 ∧ -(2 ^ 62) < k then some (.str (rep x k)) else none
  | .fdiv, .int i, .int j => if 0 < j ∧ j < 1073741824 then some (.int (i / j)) else none
  | .mod, .int i, .int j => if 0 < j then some (.int (i % j)) else none
  | .pow, .int i, .int j => if 0 ≤ j ∧ j ≤ 1000 ∧ i.natAbs < 2 ^ 64 then some (.int (i ^ j.toNat)) else none
  | _, _, _ => none
/-- op= -/
def augD : Bop → D → D → Option D
  | .add, .int i, .int j => some (.int (i + j))
  | .add, .str x, .str y => if x.length + y.length ≤ lid then some (.str (x ++ y)) else none
  | .sub, .int i, .int j => some (.int (i - j))
  | _, _, _ => none
def isNonB : D → Bool
  | .non => true
  | _ => false
def inOk (x : D) (ds : List D) : Bool := pure x && pureL ds && decide (depth x ≤ 60)
def inD (x : D) : D → Option Bool
  | .tup ds => if inOk x ds then some (ds.any fun y => eqD y x) else none
  | .lst ds => if inOk x ds then some (ds.any fun y => eqD y x) else none
  | .str z => match x with
    | .str [c] => some (decide (c ∈ z))
    | _ => none
  | .dct kvs => if kvs.all (fun y => cmpOk y.1 x) then some (kvs.any fun y => eqD y.1 x) else none
  | _ => none
def ordOk (op : Cop) (x y : D) : Option Bool := if pure x && pure y && (decide (depth x ≤ 60) && decide (depth y ≤ 60)) then ordD op x y else none
def cmpD : Cop → D → D → Option Bool
  | .eq, x, y => if cmpOk x y then some (eqD x y) else none
  | .ne, x, y => if cmpOk x y then some (!eqD x y) else none
  | .lt, x, y => ordOk .lt x y
  | .le, x, y => ordOk .le x y
  | .gt, x, y => ordOk .gt x y
  | .ge, x, y => ordOk .ge x y
  | .is, x, .non => some (isNonB x)
  | .isnot, x, .non => some (!isNonB x)
  | .inn, x, y => inD x y
  | .notin, x, y => (inD x y).map (!·)
  | _, _, _ => none
def at? {α : Type} (xs : List α) (i : Int) : Option α :=
  if 0 ≤ i then xs[i.toNat]? else if -(xs.length : Int) ≤ i then xs[(xs.length + i).toNat]? else none
def lookD (kvs : List (D × D)) (k : D) : Option D := (kvs.find? fun p => eqD p.1 k).map (·.2)
def ixD : D → D → Option D
  | .tup ds, .int i => at? ds i
  | .lst ds, .int i => at? ds i
  | .str s, .int i => (at? s i).map fun c => .str [c]
  | .dct kvs, k => if kvs.all (fun y => cmpOk y.1 k) then lookD kvs k else none
  | _, _ => none
/-- where a slice's end comes to lie -/
def clip (n : Nat) (i : Int) : Nat := if 0 ≤ i then min n i.toNat else (n + i).toNat
def cut {α : Type} (xs : List α) (lo hi : Option Int) : List α :=
  let a := match lo with | none => 0 | some i => clip xs.length i
  let b := match hi with | none => xs.length | some i => clip xs.length i
  (xs.drop a).take (b - a)
def bnd : D → Option Int
  | .int i => if -(2 ^ 62) < i ∧ i < 2 ^ 62 then some i else none
  | _ => none
def cutD (d : D) (lo hi : Option Int) : Option D :=
  match d with
  | .tup ds => some (.tup (cut ds lo hi))
  | .lst ds => some (.lst (cut ds lo hi))
  | .str s => some (.str (cut s lo hi))
  | _ => none
def revD : D → Option D
  | .lst ds => some (.lst ds.reverse)
  | _ => none

/-! ### order -/
/-- may these be sorted here? data of one shape, tuples with an item, or no tuples -/
def isCons : D → Bool
  | .tup (_ :: _) => true
  | _ => false
def isFlat : D → Bool
  | .non | .tup _ => false
  | _ => true
def alikeL (ds : List D) : Bool := (ds.all fun x => ds.all fun y => PySem.W.alike (toPy x) (toPy y)) && (ds.all isCons || ds.all isFlat) && pureL ds && decide (depthL ds ≤ 60) && decide (ds.length ≤ lid)
def leD (a b : D) : Bool := PySem.W.dataLe false toPy a b
def sortD (ds : List D) : Option (List D) := if alikeL ds then some (ds.mergeSort leD) else none
mutual
/-- may it stand within a set's member? -/
def keyF : D → Bool
  | .non | .int _ | .str _ => true
  | .tup xs => keyFL xs
  | _ => false
def keyFL : List D → Bool
  | [] => true
  | x :: xs => keyF x && keyFL xs
end
def keyOk (d : D) : Bool := isCons d && keyF d && decide (depth d ≤ 8)
/-- each once, in the order of their first coming -/
def dedup (ds : List D) : List D := ds.foldl (fun acc d => if acc.any (fun e => eqD e d) then acc else acc ++ [d]) []
/-- a tuple of numbers -/
def isIntT : D → Bool
  | .tup xs => xs.all fun x => match x with | .int _ => true | _ => false
  | _ => false
/-- what a set of these tells when it is sorted -/
def canon (ds : List D) : Option (List D) := if decide (ds.length < 64) && ds.all keyOk && alikeL ds then some ((dedup ds).mergeSort leD) else none

/-! ### built-in functions -/
inductive Bi where
  | len | tuple | list | set | sorted | int | str | repr | ord | abs | minL | maxL | min2 | max2 | sum | all | any | join | upper | index | items | keys | values | get2 | get1 | dict | rev
  deriving DecidableEq
def itemsD : D → Option (List D)
  | .tup ds => some ds
  | .lst ds => some ds
  | .str s => some (s.map fun c => .str [c])
  | .dct kvs => some (kvs.map (·.1))
  | _ => none
def tupD : D → Option (List D)
  | .tup ds => some ds
  | .lst ds => some ds
  | _ => none
def zipD : D → D → Option (List D)
  | .tup xs, .tup ys => some ((xs.zip ys).map fun p => .tup [p.1, p.2])
  | .lst xs, .lst ys => some ((xs.zip ys).map fun p => .tup [p.1, p.2])
  | _, _ => none
def isInt : D → Option Int
  | .int i => some i
  | _ => none
def intsD : List D → Option (List Int)
  | [] => some []
  | .int i :: r => (intsD r).map (i :: ·)
  | _ :: _ => none
def bools : List D → Option (List Bool)
  | [] => some []
  | .bl b :: r => (bools r).map (b :: ·)
  | _ :: _ => none
def strsD : List D → Option (List (List Nat))
  | [] => some []
  | .str s :: r => (strsD r).map (s :: ·)
  | _ :: _ => none
def joinT (sep : List Nat) : List (List Nat) → List Nat
  | [] => []
  | [x] => x
  | x :: r => x ++ sep ++ joinT sep r
/-- digits, perhaps behind a -, as int reads them -/
def isDig (c : Nat) : Bool := decide (48 ≤ c) && decide (c ≤ 57)
def digV (s : List Nat) : Nat := s.foldl (fun n c => 10 * n + (c - 48)) 0
def digs (s : List Nat) : Option Nat := if s ≠ [] ∧ s.all isDig ∧ s.length ≤ 600 then some (digV s) else none
def intT (s : List Nat) : Option Int :=
  match s with
  | 45 :: r => (digs r).map fun n => -(n : Int)
  | s => (digs s).map fun n => (n : Int)
def biD : Bi → List D → Option D
  | .len, [.tup ds] => some (.int ds.length)
  | .len, [.lst ds] => some (.int ds.length)
  | .len, [.str s] => some (.int s.length)
  | .len, [.dct s] => some (.int s.length)
  | .len, [.set s] => some (.int s.length)
  | .tuple, [d] => (tupD d).map .tup
  | .list, [d] => (tupD d).map .lst
  | .set, [.lst ds] => if ds.all isIntT then (canon ds).map .lst else none
  | .sorted, [.lst ds] => (sortD ds).map .lst
  | .int, [.int i] => some (.int i)
  | .int, [.bl b] => some (.int (if b then 1 else 0))
  | .int, [.str s] => (intT s).map .int
  | .str, [.int i] => if i.natAbs.log2 < 1920 then some (.str (numT i)) else none
  | .repr, [d] => if pure d && (toPy d).showable && decide (depth d ≤ 60) && decide ((reprT d).length + 64 ≤ lid) then some (.str (reprT d)) else none
  | .ord, [.str [c]] => some (.int c)
  | .abs, [.int i] => some (.int i.natAbs)
  | .min2, [.int i, .int j] => some (.int (min i j))
  | .max2, [.int i, .int j] => some (.int (max i j))
  | .minL, [d] => (itemsD d).bind fun ds => (intsD ds).bind fun is => match is with | [] => none | a :: r => some (.int (r.foldl min a))
  | .maxL, [d] => (itemsD d).bind fun ds => (intsD ds).bind fun is => match is with | [] => none | a :: r => some (.int (r.foldl max a))
  | .sum, [d] => (itemsD d).bind fun ds => (intsD ds).map fun is => .int is.sum
  | .all, [.lst ds] => (bools ds).map fun bs => .bl (bs.all id)
  | .any, [.lst ds] => (bools ds).map fun bs => .bl (bs.any id)
  | .join, [.str s, .lst ds] => (strsD ds).bind fun xs => if (xs.map List.length).sum + xs.length * s.length ≤ lid then some (.str (joinT s xs)) else none
  | _, _ => none
def isiD (t : Nat) : D → Bool
  | .int _ => t == 0
  | .bl _ => t == 0 || t == 1
  | .str _ => t == 2
  | .tup _ => t == 3
  | .lst _ => t == 4
  | .dct _ => t == 5
  | .src => t == 5
  | _ => false

/-! ### the drawn source -/
def skip (left : Int) : List Int → Int × List Int
  | [] => (left, [])
  | c :: r => if left < 2 then skip c r else (left, c :: r)
def pickF (most : Int) (o : OS) : Int × OS :=
  if most < 2 then (0, o) else
  let p := skip o.left o.cells
  if 1 < p.1 then (p.1 % most, { o with cells := p.2, left := p.1 / most })
  else
    let lap := o.turn + 1
    let a := (o.mixed + lap * 104729) % 998244353
    let b := (a * a + lap * 17) % 2147483647
    (b / 16 % most, { o with cells := p.2, left := p.1, turn := lap })

/-! ### the IR -/
mutual
inductive Tg where
  | nm (i : Nat)
  | tup (ts : Tgs)
inductive Tgs where
  | nil
  | cons (t : Tg) (ts : Tgs)
end
mutual
inductive E where
  | never
  | var (i : Nat)
  | con (d : D)
  | glo (g : Nat)
  | inG (neg : Bool) (a : E) (g : Nat)
  | ixG (g : Nat) (a : E)
  | bin (o : Bop) (a b : E)
  | cmp (o : Cop) (a b : E)
  | chn (o p : Cop) (a b c : E)
  | and (a b : E)
  | or (a b : E)
  | not (a : E)
  | neg (a : E)
  | ite (c a b : E)
  | tup (es : Es)
  | lst (es : Es)
  | nn
  | ix (a b : E)
  | sl (a lo hi : E)
  | slo (a lo : E)
  | shi (a hi : E)
  | rev (a : E)
  | call (f : Nat) (es : Es)
  | star (f : Nat) (a : E)
  | bi (b : Bi) (es : Es)
  | isi (a : E) (t : Nat)
  | pick (i : Nat) (m : E)
  | lc (own : List Nat) (t : Tg) (it : It) (cs : Es) (e : E)
  | sc (own : List Nat) (t : Tg) (it : It) (cs : Es) (e : E)
inductive Es where
  | nil
  | cons (e : E) (es : Es)
inductive It where
  | e (a : E)
  | r1 (a : E)
  | r2 (a b : E)
  | en (a : E)
  | zip (a b : E)
end
def Tg.n : Tgs → Nat
  | .nil => 0
  | .cons _ ts => Tg.n ts + 1
abbrev Env := List (Option D)
mutual
def asgT : Tg → D → Env → Option Env
  | .nm i, d, env => some (env.set i (some d))
  | .tup ts, .tup ds, env => if ds.length = Tg.n ts then asgTs ts ds env else none
  | .tup _, _, _ => none
def asgTs : Tgs → List D → Env → Option Env
  | .nil, _, env => some env
  | .cons t ts, d :: ds, env => (asgT t d env).bind (asgTs ts ds)
  | .cons _ _, [], _ => none
end
def wipeE (env : Env) : List Nat → Env
  | [] => env
  | i :: r => (wipeE env r).set i none
/-- the loop of a comprehension -/
def lcGo (step : D → OS → R (Option D)) : List D → List D → OS → R (List D)
  | [], acc, o => .ok acc o
  | d :: ds, acc, o => (step d o).bind fun x o1 => match x with
    | none => lcGo step ds acc o1
    | some y => if acc.length < lid then lcGo step ds (acc ++ [y]) o1 else .bad
/-- the loop of a set's comprehension -/
def scGo (step : D → OS → R (Option D)) : List D → List D → OS → R (List D)
  | [], acc, o => .ok acc o
  | d :: ds, acc, o => (step d o).bind fun x o1 => match x with
    | none => scGo step ds acc o1
    | some y => if decide (acc.length < 62) && keyOk y then scGo step ds (acc ++ [y]) o1 else .bad
def range (a : Int) (n : Nat) : List D := (List.range n).map fun (k : Nat) => D.int (a + (k : Int))
def rngOk (a : Int) : Bool := decide (-(2 ^ 62) ≤ a) && decide (a < 2 ^ 62)

section
variable (F : Nat → List D → OS → R D) (G : Nat → D)
mutual
def evE : E → Env → OS → R D
  | .never, _, _ => .bad
  | .var i, env, o => match env[i]? with
    | some (some d) => .ok d o
    | _ => .bad
  | .con d, _, o => .ok d o
  | .glo g, _, o => .ok (G g) o
  | .inG neg a g, env, o => (evE a env o).bind fun x o1 => R.of ((keyG (G g) x).map fun r => .bl (r.isSome != neg)) o1
  | .ixG g a, env, o => (evE a env o).bind fun x o1 => R.of ((keyG (G g) x).bind fun r => r) o1
  | .bin op a b, env, o => (evE a env o).bind fun x o1 => (evE b env o1).bind fun y o2 => R.of (binD op x y) o2
  | .cmp op a b, env, o => (evE a env o).bind fun x o1 => (evE b env o1).bind fun y o2 => R.of ((cmpD op x y).map .bl) o2
  | .chn op op' a b c, env, o => (evE a env o).bind fun x o1 => (evE b env o1).bind fun y o2 => (R.of (cmpD op x y) o2).bind fun t o3 =>
      if t then (evE c env o3).bind fun z o4 => R.of ((cmpD op' y z).map .bl) o4 else .ok (.bl false) o3
  | .and a b, env, o => (evE a env o).bind fun x o1 => if truthy x then evE b env o1 else .ok x o1
  | .or a b, env, o => (evE a env o).bind fun x o1 => if truthy x then .ok x o1 else evE b env o1
  | .not a, env, o => (evE a env o).bind fun x o1 => .ok (.bl (!truthy x)) o1
  | .neg a, env, o => (evE a env o).bind fun x o1 => R.of ((isInt x).map fun i => .int (-i)) o1
  | .ite c a b, env, o => (evE c env o).bind fun x o1 => if truthy x then evE a env o1 else evE b env o1
  | .tup es, env, o => (evEs es env o).bind fun ds o1 => .ok (.tup ds) o1
  | .lst es, env, o => (evEs es env o).bind fun ds o1 => .ok (.lst ds) o1
  | .nn, _, o => .ok (.lst [.lst []]) o
  | .ix a b, env, o => (evE a env o).bind fun x o1 => (evE b env o1).bind fun y o2 => R.of (ixD x y) o2
  | .sl a lo hi, env, o => (evE a env o).bind fun x o1 => (evE lo env o1).bind fun y o2 => (R.of (bnd y) o2).bind fun i o3 => (evE hi env o3).bind fun z o4 => (R.of (bnd z) o4).bind fun j o5 => R.of (cutD x (some i) (some j)) o5
  | .slo a lo, env, o => (evE a env o).bind fun x o1 => (evE lo env o1).bind fun y o2 => (R.of (bnd y) o2).bind fun i o3 => R.of (cutD x (some i) none) o3
  | .shi a hi, env, o => (evE a env o).bind fun x o1 => (evE hi env o1).bind fun z o2 => (R.of (bnd z) o2).bind fun j o3 => R.of (cutD x none (some j)) o3
  | .rev a, env, o => (evE a env o).bind fun x o1 => R.of (revD x) o1
  | .call f es, env, o => (evEs es env o).bind fun ds o1 => F f ds o1
  | .star f a, env, o => (evE a env o).bind fun x o1 => (R.of (match x with | .tup ds => some ds | _ => none) o1).bind fun ds o2 => F f ds o2
  | .bi b es, env, o => (evEs es env o).bind fun ds o1 => R.of (biD b ds) o1
  | .isi a t, env, o => (evE a env o).bind fun x o1 => .ok (.bl (isiD t x)) o1
  | .pick i m, env, o => match env[i]? with
    | some (some .src) => (evE m env o).bind fun x o1 => (R.of (isInt x) o1).bind fun k o2 => if k < 1073741824 then .ok (.int (pickF k o2).1) (pickF k o2).2 else .bad
    | _ => .bad
  | .lc own t it cs e, env, o => (evI it env o).bind fun ds o1 =>
      (lcGo (fun d o => (R.of (asgT t d (wipeE env own)) o).bind fun env' o2 => (evC cs env' o2).nox.bind fun b o3 => if b then (evE e env' o3).nox.bind fun x o4 => .ok (some x) o4 else .ok none o3) ds [] o1).bind fun xs o2 => .ok (.lst xs) o2
  | .sc own t it cs e, env, o => (evI it env o).bind fun ds o1 =>
      (scGo (fun d o => (R.of (asgT t d (wipeE env own)) o).bind fun env' o2 => (evC cs env' o2).nox.bind fun b o3 => if b then (evE e env' o3).nox.bind fun x o4 => .ok (some x) o4 else .ok none o3) ds [] o1).bind fun xs o2 =>
        R.of ((canon xs).map .lst) o2
def evEs : Es → Env → OS → R (List D)
  | .nil, _, o => .ok [] o
  | .cons e es, env, o => (evE e env o).bind fun d o1 => (evEs es env o1).bind fun ds o2 => .ok (d :: ds) o2
/-- the tests of a comprehension, all of them -/
def evC : Es → Env → OS → R Bool
  | .nil, _, o => .ok true o
  | .cons e es, env, o => (evE e env o).bind fun d o1 => if truthy d then evC es env o1 else .ok false o1
def evI : It → Env → OS → R (List D)
  | .e a, env, o => (evE a env o).bind fun x o1 => R.of (itemsD x) o1
  | .r1 a, env, o => (evE a env o).bind fun x o1 => (R.of (isInt x) o1).bind fun i o2 => if rngOk i then .ok (range 0 i.toNat) o2 else .bad
  | .r2 a b, env, o => (evE a env o).bind fun x o1 => (evE b env o1).bind fun y o2 => (R.of (isInt x) o2).bind fun i o3 => (R.of (isInt y) o3).bind fun j o4 =>
      if rngOk i && rngOk j then .ok (range i (j - i).toNat) o4 else .bad
  | .en a, env, o => (evE a env o).bind fun x o1 => (R.of (tupD x) o1).bind fun ds o2 => .ok (ds.zipIdx.map fun p => .tup [.int p.2, p.1]) o2
  | .zip a b, env, o => (evE a env o).bind fun x o1 => (evE b env o1).bind fun y o2 => R.of (zipD x y) o2
end

/-! ### statements -/
end
inductive Fl where
  | nx (env : Env)
  | rt (d : D)
  | bk (env : Env)
  | ct (env : Env)
mutual
inductive St where
  | never
  | asg (t : Tg) (e : E)
  | par (is : List Nat) (es : Es)
  | aug (i : Nat) (o : Bop) (e : E)
  | app (i : Nat) (e : E)
  | appN (i : Nat)
  | appL (i : Nat) (e : E)
  | popT (i j : Nat) (k : Nat) (e : E)
  | setAt (i : Nat) (k e : E)
  | ret (e : E)
  | rai (c : Nat) (e : E)
  | iff (c : E) (a b : Sts)
  | forr (t : Tg) (it : It) (b : Sts)
  | whil (c : E) (b : Sts)
  | brk | cnt | pas
  | exp (e : E)
  | tryR (t : Tg) (e : E) (c : Nat) (h : Sts)
inductive Sts where
  | nil
  | cons (s : St) (ss : Sts)
end
def parE : List Nat → List D → Env → Option Env
  | [], [], env => some env
  | i :: is, d :: ds, env => parE is ds (env.set i (some d))
  | _, _, _ => none
def frGo (body : D → Env → OS → R Fl) : List D → Env → OS → R Fl
  | [], env, o => .ok (.nx env) o
  | d :: ds, env, o => (body d env o).bind fun f o1 => match f with
    | .nx env1 => frGo body ds env1 o1
    | .ct env1 => frGo body ds env1 o1
    | .bk env1 => .ok (.nx env1) o1
    | .rt v => .ok (.rt v) o1
def whGo (test : Env → OS → R Bool) (body : Env → OS → R Fl) : Nat → Env → OS → R Fl
  | 0, _, _ => .bad
  | n + 1, env, o => (test env o).bind fun b o1 => if b then (body env o1).bind fun f o2 => match f with
      | .nx env1 => whGo test body n env1 o2
      | .ct env1 => whGo test body n env1 o2
      | .bk env1 => .ok (.nx env1) o2
      | .rt v => .ok (.rt v) o2
    else .ok (.nx env) o1
def getE (env : Env) (i : Nat) : Option D := env[i]?.join
def setIx (ds : List D) (i : Int) (d : D) : Option (List D) :=
  if 0 ≤ i then (if i < ds.length then some (ds.set i.toNat d) else none) else if -(ds.length : Int) ≤ i then some (ds.set (ds.length + i).toNat d) else none
def putD : List (D × D) → D → D → List (D × D)
  | [], k, v => [(k, v)]
  | (a, b) :: r, k, v => if eqD a k then (a, v) :: r else (a, b) :: putD r k v
section
variable (F : Nat → List D → OS → R D) (G : Nat → D) (W : Nat)
mutual
def evS : St → Env → OS → R Fl
  | .never, _, _ => .bad
  | .asg t e, env, o => (evE F G e env o).bind fun d o1 => (R.of (asgT t d env) o1).bind fun env1 o2 => .ok (.nx env1) o2
  | .par is es, env, o => (evEs F G es env o).bind fun ds o1 => (R.of (parE is ds env) o1).bind fun env1 o2 => .ok (.nx env1) o2
  | .aug i op e, env, o => (R.of (getE env i) o).bind fun x o1 => (evE F G e env o1).bind fun y o2 => (R.of (augD op x y) o2).bind fun z o3 => .ok (.nx (env.set i (some z))) o3
  | .app i e, env, o => match getE env i with
      | some (.lst ds) => (evE F G e env o).bind fun d o1 => if ds.length < lid then .ok (.nx (env.set i (some (.lst (ds ++ [d]))))) o1 else .bad
      | _ => .bad
  | .appN i, env, o => match getE env i with
      | some (.lst ds) => if ds.length < lid then .ok (.nx (env.set i (some (.lst (ds ++ [.lst []]))))) o else .bad
      | _ => .bad
  | .appL i e, env, o => match getE env i with
      | some (.lst ds) => match ds.getLast? with
        | some (.lst xs) => (evE F G e env o).bind fun d o1 => if xs.length < lid then .ok (.nx (env.set i (some (.lst (ds.dropLast ++ [.lst (xs ++ [d])]))))) o1 else .bad
        | _ => .bad
      | _ => .bad
  | .popT i a b e, env, o => match getE env i with
      | some (.lst ds) => match ds.getLast? with
        | some (.lst xs) => (evE F G e (env.set i (some (.lst ds.dropLast))) o).bind fun y o1 => .ok (.nx (((env.set i (some (.lst ds.dropLast))).set a (some (.tup xs))).set b (some y))) o1
        | _ => .bad
      | _ => .bad
  | .setAt i k e, env, o => (evE F G e env o).bind fun d o1 => (evE F G k env o1).bind fun x o2 =>
      (R.of (match getE env i, x with
        | some (.lst ds), .int n => (setIx ds n d).map D.lst
        | some (.dct kvs), x => if kvs.all (fun y => cmpOk y.1 x) && decide (kvs.length < lid) then some (D.dct (putD kvs x d)) else none
        | _, _ => none) o2).bind fun z o3 => .ok (.nx (env.set i (some z))) o3
  | .ret e, env, o => (evE F G e env o).bind fun d o1 => .ok (.rt d) o1
  | .rai c e, env, o => (evE F G e env o).bind fun d o1 => (R.of (isInt d) o1).bind fun _ o2 => .ex c o2
  | .iff c a b, env, o => (evE F G c env o).bind fun x o1 => if truthy x then evSs a env o1 else evSs b env o1
  | .forr t it b, env, o => (evI F G it env o).bind fun ds o1 => frGo (fun d env o => (R.of (asgT t d env) o).bind fun env1 o1 => evSs b env1 o1) ds env o1
  | .whil c b, env, o => whGo (fun env o => (evE F G c env o).bind fun x o1 => .ok (truthy x) o1) (fun env o => evSs b env o) W env o
  | .brk, env, o => .ok (.bk env) o
  | .cnt, env, o => .ok (.ct env) o
  | .pas, env, o => .ok (.nx env) o
  | .exp e, env, o => (evE F G e env o).bind fun _ o1 => .ok (.nx env) o1
  | .tryR t e c h, env, o => match evE F G e env o with
      | .ok d o1 => (R.of (asgT t d env) o1).bind fun env1 o2 => .ok (.nx env1) o2
      | .ex c' o1 => if c' = c then evSs h env o1 else .bad
      | .bad => .bad
def evSs : Sts → Env → OS → R Fl
  | .nil, env, o => .ok (.nx env) o
  | .cons s ss, env, o => (evS s env o).bind fun f o1 => match f with
    | .nx env1 => evSs ss env1 o1
    | f => .ok f o1
end
end
/-- a def: how many parameters, how many slots, may it end without return, its body -/
structure Fn where
  np : Nat
  ns : Nat
  fall : Bool
  body : Sts
/-- a call of the f-th def, k calls within one another at most; xt: the defs that are told otherwise -/
def callF (fs : List Fn) (xt : Nat → List D → OS → R D) (G : Nat → D) (W : Nat) : Nat → Nat → List D → OS → R D
  | 0, _, _, _ => .bad
  | k + 1, f, ds, o => match fs[f]? with
    | none => xt f ds o
    | some fn => if ds.length = fn.np then
        (evSs (callF fs xt G W k) G W fn.body (ds.map some ++ List.replicate (fn.ns - fn.np) none) o).bind fun r o1 => match r with
          | .rt d => .ok d o1
          | .nx _ => if fn.fall then .ok .non o1 else .bad
          | _ => .bad
      else .bad
end O
end

section
set_option Elab.async false
set_option linter.all false
set_option maxRecDepth 100000
set_option maxHeartbeats 4000000
/-! OSetK: a set whose members are tuples of numbers, texts, None and tuples of such. -/
namespace O
open PySem PySem.Spec PyProof.Rows L2
section
variable {P : Program} {w : World} {A : Around} {E : Value → Shared → Prop} {s : Shared}
/-- the tuple at b is the key k -/
def IsQ (h : Heap) (k : NestedKey) (b : Addr) : Prop := NestedIs h k (.ref b) ∧ k.depth ≤ 8
theorem IsQ.inj {h : Heap} {x y : NestedKey} {b : Addr} (h1 : IsQ h x b) (h2 : IsQ h y b) : x = y := NestedIs.inj _ _ _ h1.1 h2.1
theorem IsQ.keep {h h' : Heap} {k : NestedKey} {b : Addr} (x : IsQ h k b) (hk : ∀ c o vs n, h.get? c = some o → o.data = .seq vs n → h'.get? c = some o) : IsQ h' k b := ⟨NestedIs.at hk _ _ x.1, x.2⟩
theorem mem_nested {h : Heap} : ∀ {ks : List NestedKey} {vs : List Value}, NestedAll h ks vs → ∀ v ∈ vs, ∃ k ∈ ks, NestedIs h k v
  | [], _, .nil, v, hv => by cases hv
  | k :: ks, _, .cons x xs, v, hv => by
    rcases List.mem_cons.mp hv with e | hv
    · rw [e]; exact ⟨k, List.mem_cons_self, x⟩
    · obtain ⟨k', h1, h2⟩ := mem_nested xs v hv
      exact ⟨k', List.mem_cons_of_mem _ h1, h2⟩
theorem nk_depth : ∀ {ks : List NestedKey} {k : NestedKey}, k ∈ ks → k.depth ≤ NestedKey.depthAll ks
  | x :: ks, k, h => by
    unfold NestedKey.depthAll
    rcases List.mem_cons.mp h with rfl | h
    · omega
    · have := nk_depth h; omega
/-- is it of a class statement? no -/
theorem ofCls_q : ∀ (n : Nat) (k : NestedKey) (v : Value) (s : Shared) (A : Around) (E : Value → Shared → Prop) (Q : Bool → Shared → Prop), NestedIs s.heap k v → k.depth ≤ n → Q false s → wpAny (model P w) A (ofAClassStatement n v) Q E s := by
  intro n
  induction n with
  | zero =>
    intro k v s A E Q x hd hq
    cases x with
    | tup _ _ _ _ => unfold NestedKey.depth at hd; omega
    | _ => exact wpAny_pure hq
  | succ n ih =>
    intro k v s A E Q x hd hq
    cases x with
    | @tup a o vs m ks ho hc hdt hall =>
      unfold NestedKey.depth at hd
      unfold ofAClassStatement
      refine wpAny_bind (wpAny_typeOf (T := "tuple") ⟨_, ho, hc⟩ ?_)
      dsimp only
      simp only [show (("tuple" : String) == "tuple") = true from rfl, if_true, Bool.not_true, Bool.false_eq_true, if_false]
      first
        | refine wpAny_bind (wpAny_pure ?_)
        | skip
      simp only [Bool.not_true, Bool.false_eq_true, if_false]
      refine wpAny_bind (wpAny_seqItems ho hdt ?_)
      dsimp only
      refine wpAny_bind ?_
      show wpAny _ _ (forIn vs _ _) _ _ s
      rw [← Array.forIn_toList]
      refine wpAny_forIn_list _ (fun rest r s' => r.1 = none ∧ s' = s ∧ ∀ v ∈ rest, ∃ k ∈ ks, NestedIs s.heap k v) _ ?_ ?_ _ _ ⟨rfl, rfl, mem_nested hall⟩
      · rintro v rest r s' ⟨hr, rfl, hm⟩
        obtain ⟨k', h1, h2⟩ := hm v List.mem_cons_self
        refine wpAny_bind (ih k' v s' A E _ h2 (by have := nk_depth h1; omega) ?_)
        simp only [Bool.false_eq_true, if_false]
        exact wpAny_pure ⟨rfl, rfl, fun u z => hm u (List.mem_cons_of_mem _ z)⟩
      · rintro ⟨r1, r2⟩ s' ⟨hr, e, _⟩
        simp only at hr
        subst hr e
        exact wpAny_pure hq
    | _ => exact wpAny_pure hq
/-- is it hashed by value? perhaps -/
theorem byVal_q : ∀ (n : Nat) (k : NestedKey) (v : Value) (s : Shared) (A : Around) (E : Value → Shared → Prop) (Q : Bool → Shared → Prop), NestedIs s.heap k v → (∀ b, Q b s) → wpAny (model P w) A (hashByValue n v) Q E s := by
  intro n
  induction n with
  | zero =>
    intro k v s A E Q x hq
    cases x <;> exact wpAny_pure (hq _)
  | succ n ih =>
    intro k v s A E Q x hq
    cases x with
    | @tup a o vs m ks ho hc hdt hall =>
      unfold hashByValue
      refine wpAny_bind (wpAny_specialOf (T := "tuple") ⟨_, ho, hc⟩ F.slot_tuple_hash.lookup ?_)
      show wpAny _ _ (seqItems? (.ref a) >>= _) _ _ s
      refine wpAny_bind (wpAny_seqItems ho hdt (wpAny_bind ?_))
      show wpAny _ _ (forIn vs _ _) _ _ s
      rw [← Array.forIn_toList]
      refine wpAny_forIn_list _ (fun rest r s' => r.1 = none ∧ s' = s ∧ ∀ v ∈ rest, ∃ k ∈ ks, NestedIs s.heap k v) _ ?_ ?_ _ _ ⟨rfl, rfl, mem_nested hall⟩
      · rintro v rest r s' ⟨hr, rfl, hm⟩
        obtain ⟨k', h1, h2⟩ := hm v List.mem_cons_self
        refine wpAny_bind (ih k' v s' A E _ h2 fun b => ?_)
        cases b with
        | true =>
          simp only [Bool.not_true, Bool.false_eq_true, if_false]
          exact wpAny_pure ⟨rfl, rfl, fun u z => hm u (List.mem_cons_of_mem _ z)⟩
        | false =>
          simp only [Bool.not_false, if_true]
          exact wpAny_pure (wpAny_pure (hq false))
      · rintro ⟨r1, r2⟩ s' ⟨hr, e, _⟩
        simp only at hr
        subst hr e
        exact wpAny_pure (hq true)
    | _ => exact wpAny_pure (hq _)
/-- a search among such tuples shows nothing -/
theorem seen_q {k : NestedKey} {b : Addr} {Q : Bool → Shared → Prop} (hk : IsQ s.heap k b) {ys : List Value} (hy : ∀ y ∈ ys, ∃ k' c, y = Value.ref c ∧ IsQ s.heap k' c) (hq : Q false s) : wpAny (model P w) A (searchCouldBeSeen (.ref b) ys) Q E s := by
  unfold searchCouldBeSeen
  refine wpAny_bind (wpAny_forIn_list _ (fun rest r s' => r.1 = none ∧ s' = s ∧ ∀ y ∈ rest, ∃ k' c, y = Value.ref c ∧ IsQ s.heap k' c) _ ?_ ?_ _ _ ⟨rfl, rfl, hy⟩)
  · rintro v rest r s' ⟨hr, e, hm⟩
    subst e
    obtain ⟨k', c, rfl, hc⟩ := hm v List.mem_cons_self
    have hm' : ∀ y ∈ rest, ∃ k' c, y = Value.ref c ∧ IsQ s'.heap k' c := fun u z => hm u (List.mem_cons_of_mem _ z)
    dsimp only
    rcases Decidable.em ((b == c || (carriedByValue (.ref b) && carriedByValue (.ref c))) = true) with hv | hv
    · exact wp_if_pos hv (wpAny_pure ⟨rfl, rfl, hm'⟩)
    · refine wp_if_neg hv (wpAny_bind ((nestedKind P w).quiet hk ?_))
      simp only [Bool.not_true, Bool.false_eq_true, if_false]
      refine wpAny_bind ((nestedKind P w).quiet hc ?_)
      simp only [Bool.not_true, Bool.false_eq_true, if_false]
      refine wpAny_bind (ofCls_q 8 k _ s' A E _ hk.1 hk.2 ?_)
      simp only [Bool.false_eq_true, if_false]
      refine wpAny_bind (ofCls_q 8 k' _ s' A E _ hc.1 hc.2 ?_)
      simp only [Bool.false_eq_true, if_false]
      exact wpAny_pure ⟨rfl, rfl, hm'⟩
  · rintro ⟨r1, r2⟩ s' ⟨hr, e, _⟩
    simp only at hr
    subst hr e
    exact wpAny_pure hq

/-! ### the set as it lies -/
abbrev Rows := List (Addr × NestedKey)
def rowQ (w : World) (L : Rows) : List (Int × Value) := L.map fun p => (p.2.hash w, Value.ref p.1)
def hashQ (w : World) (L : Rows) : List Int := L.map fun p => p.2.hash w
structure SQ (w : World) (h : Heap) (a : Addr) (L : Rows) (es : Array (Int × Value)) (ep : Nat) (t : SetTable) : Prop where
  ob : ∃ o, h.get? a = some o ∧ o.ExactSet ∧ o.data = .set es ep t
  rows : es.toList = rowQ w L
  tab : TabOk t (hashQ w L)
  nd : (L.map (·.2)).Nodup
  led : w.params.followText "set-order" = true ∨ t.led = true
  room : L.length * 5 < t.mask * 3
  few : L.length < 64
/-- the members stand where the rows say -/
def Mem (h : Heap) (L : Rows) : Prop := ∀ p ∈ L, IsQ h p.2 p.1
variable {a : Addr} {L : Rows} {es : Array (Int × Value)} {ep : Nat} {t : SetTable}
theorem rowQ_len {es : Array (Int × Value)} {L : Rows} (h : es.toList = rowQ w L) : es.size = L.length := by
  rw [← Array.length_toList, h]; unfold rowQ; rw [List.length_map]
theorem hashQ_len (L : Rows) : (hashQ w L).length = L.length := by unfold hashQ; rw [List.length_map]
theorem SQ.size (R : SQ w s.heap a L es ep t) : es.size = L.length := rowQ_len R.rows
theorem SQ.places (R : SQ w s.heap a L es ep t) : t.place.size = L.length := by rw [R.tab.sz, hashQ_len]
theorem fits_of {t : SetTable} {n : Nat} (d : t.dummies = #[]) (h1 : t.place.size = n) (h2 : n ≤ t.mask) : t.fits n = true := by
  unfold SetTable.fits SetTable.fill
  rw [d, Bool.and_eq_true, beq_iff_eq, decide_eq_true_eq]
  exact ⟨h1, by show t.place.size + 0 ≤ _; omega⟩
theorem SQ.fits (R : SQ w s.heap a L es ep t) : t.fits es.size = true := by
  have := R.room
  rw [R.size]
  exact fits_of R.tab.dm R.places (by omega)
theorem row_at {L : Rows} {es : Array (Int × Value)} {i : Nat} {p : Addr × NestedKey} (r : es.toList = rowQ w L) (h : L[i]? = some p) : es[i]? = some (p.2.hash w, Value.ref p.1) := by
  rw [← Array.getElem?_toList, r]
  unfold rowQ
  rw [List.getElem?_map, h]; rfl
theorem SQ.stay (R : SQ w s.heap a L es ep t) : ¬ t.gaveWay = true := by
  unfold SetTable.gaveWay
  rw [mask_odd R.tab.mok]
  decide
abbrev wayQ (w : World) (t : SetTable) (k : NestedKey) (c : Nat) : Nat := way t.mask (k.hash w) c
abbrev prQ (w : World) (t : SetTable) (k : NestedKey) (c : Nat) : SetTable.Probe := nth t.mask (runAt t.mask (SetTable.bits (k.hash w) % (t.mask + 1)) (SetTable.bits (k.hash w))) c
theorem prQ_add (t : SetTable) (k : NestedKey) (c q : Nat) : nth t.mask (prQ w t k c) q = prQ w t k (c + q) := (nth_add t.mask c _ q).symm
theorem prQ_j (t : SetTable) (k : NestedKey) (c q : Nat) : (nth t.mask (prQ w t k c) q).j = wayQ w t k (c + q) := by rw [prQ_add]
theorem nth_dummy (m : Nat) : ∀ (n : Nat) (p : SetTable.Probe), p.dummy = none → (nth m p n).dummy = none
  | 0, _, h => h
  | n + 1, p, h => nth_dummy m n (adv m p) (by unfold adv; split <;> exact h)
/-- where the search goes on from its c-th step -/
theorem seek_q (R : SQ w s.heap a L es ep t) (M : Mem s.heap L) {x : Addr} {k : NestedKey} (hx : IsQ s.heap k x) (hu : A.units + 8 < cLine) {K : Nat} (hKf : K < 10 * SetTable.turns t.mask) (hK : wayQ w t k K ∉ t.place.toList) (hKb : ∀ c, c < K → wayQ w t k c ∈ t.place.toList)
    {Q : SetFound → Shared → Prop} (qIn : k ∈ L.map (·.2) → Q (.there none) s) (qOut : k ∉ L.map (·.2) → Q (.free (wayQ w t k K) false) s) :
    ∀ (f c : Nat) (st : Option SetTable.Probe), st.getD (t.probeStart (k.hash w)) = prQ w t k c → c ≤ K → K - c < f → (∀ (i : Nat) p, L[i]? = some p → p.2 = k → ∃ c', c ≤ c' ∧ c' < K ∧ t.place.toList[i]? = some (wayQ w t k c')) →
      wpAny (model P w) A (setSearchFrom a (.ref x) (k.hash w) true f st) Q E s := by
  obtain ⟨o, ho, hex, hd⟩ := R.ob
  intro f
  induction f with
  | zero => intro c st _ _ z _; exact absurd z (Nat.not_lt_zero _)
  | succ f ih =>
    intro c st hst hc hf hre
    rw [setSearchFrom_succ]
    refine wpAny_bind (wpAny_setState_of ho hd R.fits ?_)
    dsimp only
    refine wp_if_neg R.stay ?_
    first
      | refine wpAny_bind (wpAny_pure ?_)
      | skip
    have hAt : ∀ (i : Nat) p, L[i]? = some p → (fun i => (es[i]?.map (·.1)).getD 0) i = p.2.hash w := fun i p hp => by
      show (es[i]?.map (·.1)).getD 0 = _
      rw [row_at R.rows hp]; rfl
    rcases go_spec t R.tab.ris R.tab.dm (fun i => (es[i]?.map (·.1)).getD 0) (k.hash w) (10 * SetTable.turns t.mask) (K - c) (prQ w t k c) (nth_dummy _ c _ rfl) (by omega) (fun q hq => by rw [prQ_j]; exact hKb _ (by omega)) (by rw [prQ_j, show c + (K - c) = K by omega]; exact hK) with
      ⟨q, i, hq, hi, hh, hno, hpr⟩ | ⟨hno, hpr⟩
    · have found : t.probe (fun i => (es[i]?.map (·.1)).getD 0) (k.hash w) (st.getD (t.probeStart (k.hash w))) = some (.candidate (wayQ w t k (c + q)) i (prQ w t k (c + (q + 1)))) := by
        rw [hst, ← prQ_j, ← prQ_add]; exact hpr
      rw [found]
      dsimp only
      rw [prQ_j] at hi
      have hil : i < L.length := by
        have := (List.getElem?_eq_some_iff.mp hi).1
        rw [Array.length_toList, R.places] at this
        exact this
      obtain ⟨p, hp⟩ : ∃ p, L[i]? = some p := ⟨_, List.getElem?_eq_getElem hil⟩
      have hpm := List.mem_of_getElem? hp
      have hpq := M p hpm
      have onward : wpAny (model P w) A (searchRest a (.ref x) (k.hash w) true f es t (wayQ w t k (c + q)) i (prQ w t k (c + (q + 1)))) Q E s := by
        unfold searchRest
        rw [row_at R.rows hp]
        dsimp only
        refine wpAny_bind (wpAny_holding ((nestedKind P w).eqBool hu hpq hx (wpAny_bind (wpAny_setState_of ho hd R.fits ?_))))
        dsimp only
        rcases Decidable.em (p.2 = k) with hkk | hkk
        · exact wp_if_pos (by simp [hkk]) (wpAny_pure (qIn (List.mem_map.mpr ⟨p, hpm, hkk⟩)))
        · refine wp_if_neg (by simp [hkk]) ?_
          first
            | refine wpAny_bind (wpAny_pure ?_)
            | skip
          rw [sameMem]
          dsimp only
          have hsl : t.slot (wayQ w t k (c + q)) = .live i := slot_live R.tab.ris hi
          simp only [if_true, hsl, row_at R.rows hp]
          refine wpAny_bind (wpAny_isSame_ref_self (wpAny_bind (wpAny_pure ?_)))
          simp only [if_true]
          refine wp_if_neg (by simp [hkk]) (ih (c + (q + 1)) _ rfl (by omega) (by omega) fun i0 p0 h0 hk0 => ?_)
          obtain ⟨c', a1, a2, a3⟩ := hre i0 p0 h0 hk0
          refine ⟨c', ?_, a2, a3⟩
          rcases Nat.lt_trichotomy c' (c + q) with z | z | z
          · refine absurd ?_ (hno (c' - c) i0 (by omega) (by rw [prQ_j, show c + (c' - c) = c' by omega]; exact a3))
            exact (hAt i0 p0 h0).trans (by rw [hk0])
          · rw [z] at a3
            have s0 := slot_live R.tab.ris a3
            rw [hsl] at s0
            injection s0 with s0
            rw [← s0, hp] at h0
            cases h0
            exact absurd hk0 hkk
          · omega
      rcases Decidable.em (t.led = true) with hl | hl
      · refine wp_if_neg (by simp [hl]) ?_
        first
          | exact wpAny_bind (wpAny_pure onward)
          | exact onward
      · refine wp_if_pos (by simp [hl]) (wpAny_bind (seen_q hx (fun y hy => ?_) ?_))
        · obtain ⟨e, he, rfl⟩ := List.mem_map.mp hy
          have he1 : e ∈ es ∧ e.1 = k.hash w := by simpa using he
          have he2 : e ∈ es.toList := by simpa using he1.1
          rw [R.rows] at he2
          obtain ⟨p2, hp2, e2⟩ := List.mem_map.mp he2
          subst e2
          exact ⟨p2.2, p2.1, rfl, M p2 hp2⟩
        · refine wp_if_neg (by decide) ?_
          first
            | exact wpAny_bind (wpAny_pure onward)
            | exact onward
    · have out : t.probe (fun i => (es[i]?.map (·.1)).getD 0) (k.hash w) (st.getD (t.probeStart (k.hash w))) = some (.empty (wayQ w t k K) none) := by
        have e2 : wayQ w t k K = (nth t.mask (prQ w t k c) (K - c)).j := by rw [prQ_j, show c + (K - c) = K by omega]
        rw [hst, e2]; exact hpr
      rw [out]
      dsimp only
      refine wpAny_pure (qOut fun hm => ?_)
      obtain ⟨p0, h0, hk0⟩ := List.mem_map.mp hm
      obtain ⟨i0, hi0⟩ := List.getElem?_of_mem h0
      obtain ⟨c', a1, a2, a3⟩ := hre i0 p0 hi0 hk0
      exact hno (c' - c) i0 (by omega) (by rw [prQ_j, show c + (c' - c) = c' by omega]; exact a3) ((hAt i0 p0 hi0).trans (by rw [hk0]))
theorem seekAll_q (R : SQ w s.heap a L es ep t) (M : Mem s.heap L) {x : Addr} {k : NestedKey} (hx : IsQ s.heap k x) (hu : A.units + 8 < cLine) {Q : SetFound → Shared → Prop} (qIn : k ∈ L.map (·.2) → Q (.there none) s)
    (qOut : ∀ K, k ∉ L.map (·.2) → wayQ w t k K ∉ t.place.toList → (∀ c, c < K → wayQ w t k c ∈ t.place.toList) → Q (.free (wayQ w t k K) false) s) : wpAny (model P w) A (setSearch a (.ref x) (k.hash w) true) Q E s := by
  have hroom := R.room
  obtain ⟨K, hKf, hK, hKb⟩ := R.tab.first (by rw [hashQ_len]; omega) (k.hash w)
  have small : 10 * SetTable.turns t.mask ≤ 1420 := by
    unfold SetTable.turns
    rcases R.tab.mok with e | e | e <;> omega
  refine seek_q R M hx hu hKf hK hKb qIn (fun hn => qOut K hn hK hKb) 100000 0 none rfl (Nat.zero_le _) (by omega) fun i p hp hk => ?_
  have hi : (hashQ w L)[i]? = some (k.hash w) := by unfold hashQ; rw [List.getElem?_map, hp, ← hk]; rfl
  have hil : i < t.place.toList.length := by
    rw [Array.length_toList, R.places]
    exact (List.getElem?_eq_some_iff.mp hp).1
  obtain ⟨c, hc, e⟩ := R.tab.before hK hi (List.getElem?_eq_getElem hil)
  exact ⟨c, Nat.zero_le _, hc, by rw [List.getElem?_eq_getElem hil]; exact congrArg some e.symm⟩

/-! ### one put in, the table laid anew -/
theorem not_set {h h' : Heap} {k : NestedKey} {b a : Addr} {o : Obj} {es : Array (Int × Value)} {ep : Nat} {t : SetTable} (hb : IsQ h k b) (ho : h.get? a = some o) (hd : o.data = .set es ep t) (sb : Heap.SameBut a h h') : IsQ h' k b :=
  hb.keep fun c u vs n e1 e2 => (sb.2 c fun z => by
    subst z
    rw [ho] at e1; cases e1
    rw [hd] at e2; cases e2).trans e1
theorem Mem.after {h h' : Heap} {a : Addr} {o : Obj} {es : Array (Int × Value)} {ep : Nat} {t : SetTable} {L : Rows} (M : Mem h L) (ho : h.get? a = some o) (hd : o.data = .set es ep t) (sb : Heap.SameBut a h h') : Mem h' L := fun p hp => not_set (M p hp) ho hd sb
theorem pick_all {α : Type} : ∀ (L : List α), (List.range L.length).filterMap (fun i => L[i]?) = L := by
  intro L
  have : ∀ n, n ≤ L.length → (List.range n).filterMap (fun i => L[i]?) = L.take n := by
    intro n
    induction n with
    | zero => intro _; simp
    | succ n ih =>
      intro hn
      rw [List.range_succ, List.filterMap_append, ih (by omega), List.take_succ, List.getElem?_eq_getElem hn]
      simp [List.getElem?_eq_getElem hn]
  rw [this _ (Nat.le_refl _), List.take_length]
theorem fm_congr {α β : Type} {f g : α → Option β} : ∀ {l : List α}, (∀ i ∈ l, f i = g i) → l.filterMap f = l.filterMap g
  | [], _ => rfl
  | i :: l, h => by
    rw [List.filterMap_cons, List.filterMap_cons, h i List.mem_cons_self, fm_congr fun j hj => h j (List.mem_cons_of_mem _ hj)]
/-- rows in another order -/
theorem reorder_q {L : Rows} {es : Array (Int × Value)} {order : Array Nat} (hr : es.toList = rowQ w L) (hp : order.toList.Perm (List.range L.length)) :
    ∃ L2 : Rows, (order.filterMap (es[·]?)).toList = rowQ w L2 ∧ L2.Perm L ∧ hashQ w L2 = order.toList.map fun i => (es.map (·.1)).getD i 0 := by
  have inR : ∀ i ∈ order.toList, i < L.length := fun i hi => List.mem_range.mp (hp.mem_iff.mp hi)
  refine ⟨order.toList.filterMap fun i => L[i]?, ?_, ?_, ?_⟩
  · have e1 : (order.filterMap (es[·]?)).toList = order.toList.filterMap fun i => es[i]? := by simp
    rw [e1]
    unfold rowQ
    rw [List.map_filterMap]
    refine fm_congr fun i hi => ?_
    rw [row_at hr (List.getElem?_eq_getElem (inR i hi)), List.getElem?_eq_getElem (inR i hi)]
    rfl
  · have := hp.filterMap fun i => L[i]?
    rw [pick_all] at this
    exact this
  · unfold hashQ
    rw [List.map_filterMap]
    generalize order.toList = l at inR
    induction l with
    | nil => rfl
    | cons i l ih =>
      have hi := inR i List.mem_cons_self
      have hz : i < (es.map (·.1)).size := by rw [Array.size_map, rowQ_len hr]; exact hi
      have e2 : (es.map (·.1)).getD i 0 = (L[i]).2.hash w := by
        rw [Array.getD_eq_getD_getElem?, Array.getElem?_map, row_at hr (List.getElem?_eq_getElem hi)]
        rfl
      rw [List.map_cons, ← ih fun j hj => inR j (List.mem_cons_of_mem _ hj), e2, List.filterMap_cons, List.getElem?_eq_getElem hi]
      rfl
theorem larger_q {o : Obj} (ho : s.heap.get? a = some o) (hex : o.ExactSet) (hd : o.data = .set es ep t) (hrows : es.toList = rowQ w L) (hsz : t.place.size = es.size) (hdm : t.dummies = #[]) (hfl : es.size ≤ t.mask) (nd : (L.map (·.2)).Nodup)
    (ld : w.params.followText "set-order" = true ∨ t.led = true) (few : L.length < 64) {wanted M : Nat} (hw : SetTable.sizeAbove wanted - 1 = M) (hM : MaskOk M) (hw2 : SetTable.sizeAbove wanted ≤ 128) (hn : L.length * 5 < M * 3) {Q : Unit → Shared → Prop}
    (hQ : ∀ h' L' es' ep' t', Heap.SameBut a s.heap h' → SQ w h' a L' es' ep' t' → L'.Perm L → Q () { s with heap := h' }) : wpAny (model P w) A (setRelay a wanted) Q E s := by
  have hsl := rowQ_len hrows
  obtain ⟨t', order, e, hp, T, em, el, _, ed⟩ := relaid_ok t (hs := es.map (·.1)) (wanted := wanted) hw hM (by rw [Array.size_map, hsl]; omega)
  rw [Array.size_map, hsl] at hp
  obtain ⟨L2, r1, r2, r3⟩ := reorder_q hrows hp
  rw [← r3] at T
  have hs2 : (order.filterMap (es[·]?)).size = es.size := by rw [rowQ_len r1, r2.length_eq, hsl]
  rw [setRelay_eq]
  refine wpAny_bind (wpAny_setState_of ho hd (fits_of hdm hsz hfl) ?_)
  dsimp only
  refine wp_if_neg (by rw [sizeLine_eq]; omega) ?_
  first
    | refine wpAny_bind (wpAny_pure ?_)
    | skip
  rw [e]
  dsimp only
  refine wpAny_bind (wp_if_neg (by rw [hs2]; simp) ?_)
  first
    | refine wpAny_bind (wpAny_pure (wpAny_pure ?_))
    | refine wpAny_pure ?_
  dsimp only
  have sb : Heap.SameBut a s.heap (s.heap.update a (Obj.putSet (order.filterMap (es[·]?)) t')) := Heap.SameBut.update ..
  exact wpAny_storeSet_of ho hd (hQ _ L2 (order.filterMap (es[·]?)) (ep + 1) t' sb ⟨⟨_, store_at ho hd, ⟨hex.1, hex.2.1, hex.2.2⟩, rfl⟩, r1, T, (r2.map (·.2)).nodup_iff.mpr nd, by rw [el]; exact ld, by rw [r2.length_eq, em]; exact hn, by rw [r2.length_eq]; exact few⟩ r2) (by rw [hs2, hsl, sizeLine_eq]; omega)
/-- one put in -/
theorem put_q (R : SQ w s.heap a L es ep t) (M : Mem s.heap L) {x : Addr} {k : NestedKey} (hx : IsQ s.heap k x) (hu : A.units + 8 < cLine) (hfew : L.length + 1 < 64) {Q : Bool → Shared → Prop}
    (hQ : ∀ b h' L' es' ep' t', Heap.SameBut a s.heap h' → SQ w h' a L' es' ep' t' → (k ∈ L.map (·.2) → L' = L) → (k ∉ L.map (·.2) → L'.Perm ((x, k) :: L)) → Q b { s with heap := h' }) : wpAny (model P w) A (setAddHashed a (.ref x) (k.hash w)) Q E s := by
  obtain ⟨o, ho, hex, hd⟩ := R.ob
  have hsl := R.size
  have hroom := R.room
  unfold setAddHashed
  rw [show (100000 : Nat) = 99999 + 1 from rfl, setAddHashedIn_succ]
  refine wpAny_holding (wpAny_bind (wpAny_setState_of ho hd R.fits ?_))
  dsimp only
  refine wp_if_neg (by simp [byScan, Value.scannable]) ?_
  first
    | refine wpAny_bind (wpAny_pure ?_)
    | skip
  refine wpAny_bind (seekAll_q R M hx hu (fun hm => ?_) fun K hm hK hb => ?_)
  · exact wpAny_pure (hQ false s.heap L es ep t (Heap.SameBut.refl a s.heap) R (fun _ => rfl) fun z => absurd hm z)
  · dsimp only
    refine wpAny_bind (wpAny_setState_of ho hd R.fits ?_)
    dsimp only
    obtain ⟨q1, q2, q3, q4, q5, q6, q7, q8, q9⟩ := R.tab.put hK hb
    generalize hpt : t.put (way t.mask (k.hash w) K) = pt at q1 q3 q4 q5 q6 q7 q8 q9 ⊢
    obtain ⟨t1, p⟩ := pt
    dsimp only at q1 q3 q4 q5 q6 q7 q8 q9 ⊢
    subst q1
    have rest : ∀ b : Bool, wpAny (model P w) A (do
        storeSet a (SetTable.insertAt es (SetTable.below t.place (way t.mask (k.hash w) K)) (k.hash w, Value.ref x)) (if b = true then t1 else { t1 with plain := false })
        if (!false && (if b = true then t1 else { t1 with plain := false }).tooFull) = true then setRelay a (SetTable.grown (es.size + 1))
        return true) Q E s := fun b => by
      have ek : ∃ t2 : SetTable, (if b = true then t1 else { t1 with plain := false }) = t2 ∧ TabOk t2 (List.take (SetTable.below t.place (way t.mask (k.hash w) K)) (hashQ w L) ++ k.hash w :: List.drop (SetTable.below t.place (way t.mask (k.hash w) K)) (hashQ w L)) ∧ t2.mask = t.mask ∧ t2.led = t.led ∧ t2.tooFull = t1.tooFull := by
        cases b with
        | true => exact ⟨t1, rfl, q3, q4, q5, rfl⟩
        | false => exact ⟨{ t1 with plain := false }, rfl, ⟨q3.ris, q3.dm, q3.sz, q3.mok, q3.bd, q3.reach⟩, q4, q5, rfl⟩
      obtain ⟨t2, e2, w3, w4, w5, w6⟩ := ek
      rw [e2]
      have hin : (SetTable.insertAt es (SetTable.below t.place (way t.mask (k.hash w) K)) (k.hash w, Value.ref x)).toList = rowQ w (L.take (SetTable.below t.place (way t.mask (k.hash w) K)) ++ (x, k) :: L.drop (SetTable.below t.place (way t.mask (k.hash w) K))) := by
        rw [SetTable.toList_insertAt, R.rows]
        simp [rowQ, List.map_take, List.map_drop]
      have hhs : hashQ w (L.take (SetTable.below t.place (way t.mask (k.hash w) K)) ++ (x, k) :: L.drop (SetTable.below t.place (way t.mask (k.hash w) K))) = List.take (SetTable.below t.place (way t.mask (k.hash w) K)) (hashQ w L) ++ k.hash w :: List.drop (SetTable.below t.place (way t.mask (k.hash w) K)) (hashQ w L) := by
        simp [hashQ, List.map_take, List.map_drop]
      rw [← hhs] at w3
      have pm := L2.put_perm L (SetTable.below t.place (way t.mask (k.hash w) K)) (x, k)
      generalize L.take (SetTable.below t.place (way t.mask (k.hash w) K)) ++ (x, k) :: L.drop (SetTable.below t.place (way t.mask (k.hash w) K)) = L1 at pm hin w3
      generalize SetTable.insertAt es (SetTable.below t.place (way t.mask (k.hash w) K)) (k.hash w, Value.ref x) = es1 at hin ⊢
      have len1 : L1.length = L.length + 1 := pm.length_eq
      have hes := rowQ_len hin
      have nd1 : (L1.map (·.2)).Nodup := (pm.map (·.2)).nodup_iff.mpr (List.nodup_cons.mpr ⟨hm, R.nd⟩)
      refine wpAny_bind (wpAny_storeSet_of ho hd ?_ (by rw [hes, sizeLine_eq]; omega))
      have sb : Heap.SameBut a s.heap (s.heap.update a (Obj.putSet es1 t2)) := Heap.SameBut.update ..
      have ho1 := store_at (es' := es1) (t' := t2) ho hd
      generalize s.heap.update a (Obj.putSet es1 t2) = h1 at sb ho1 ⊢
      have full_iff : t1.tooFull = decide ((L.length + 1) * 5 ≥ t.mask * 3) := by
        unfold SetTable.tooFull
        rw [q9, hashQ_len, q4]
      rcases Decidable.em ((L.length + 1) * 5 ≥ t.mask * 3) with hf | hf
      · have two : (t.mask = 7 ∧ L.length = 4) ∨ (t.mask = 31 ∧ L.length = 18) := by
          rcases R.tab.mok with e | e | e
          · exact .inl ⟨e, by omega⟩
          · exact .inr ⟨e, by omega⟩
          · omega
        have go : ∀ M, SetTable.sizeAbove (SetTable.grown (L.length + 1)) - 1 = M → MaskOk M → SetTable.sizeAbove (SetTable.grown (L.length + 1)) ≤ 128 → (L.length + 1) * 5 < M * 3 →
            wpAny (model P w) A (setRelay a (SetTable.grown (L.length + 1))) (fun _ s' => wpAny (model P w) A (Pure.pure true) Q E s') E { s with heap := h1 } := fun M h1' h2' h3' h4' =>
          larger_q (s := { s with heap := h1 }) ho1 ⟨hex.1, hex.2.1, hex.2.2⟩ rfl hin (by rw [w3.sz, hashQ_len, hes]) w3.dm (by rw [hes, w4]; rcases two with ⟨e, e2⟩ | ⟨e, e2⟩ <;> omega) nd1 (by rw [w5]; exact R.led) (by omega) h1' h2' h3' (by rw [len1]; exact h4') fun h2 L2 es2 ep2 t2 sb2 R2 pm2 =>
            wpAny_pure (hQ true h2 L2 es2 ep2 t2 (sb.trans sb2) R2 (fun z => absurd z hm) fun _ => pm2.trans pm)
        rw [w6, full_iff, hsl]
        first
          | (refine wpAny_bind ?_; refine wp_if_pos (by simp [hf]) ?_)
          | (refine wp_if_pos (by simp [hf]) ?_; refine wpAny_bind ?_)
        rcases two with ⟨_, e2⟩ | ⟨_, e2⟩
        · exact go 31 (by rw [e2, size_20]) (.inr (.inl rfl)) (by rw [e2, size_20]; decide) (by omega)
        · exact go 127 (by rw [e2, size_76]) (.inr (.inr rfl)) (by rw [e2, size_76]; decide) (by omega)
      · have last : wpAny (model P w) A (Pure.pure true) Q E { s with heap := h1 } :=
          wpAny_pure (hQ true h1 L1 es1 (ep + 1) t2 sb ⟨⟨_, ho1, ⟨hex.1, hex.2.1, hex.2.2⟩, rfl⟩, hin, w3, nd1, by rw [w5]; exact R.led, by rw [len1, w4]; omega, by omega⟩ (fun z => absurd z hm) fun _ => pm)
        rw [w6, full_iff]
        first
          | exact wp_if_neg (by simp [hf]) last
          | (refine wpAny_bind ?_; exact wp_if_neg (by simp [hf]) (wpAny_pure last))
    rcases Bool.eq_false_or_eq_true t1.plain with hp | hp
    · first
        | (refine wpAny_bind ?_; refine wp_if_pos hp ?_; exact byVal_q 8 k _ s A E _ hx.1 fun b => rest b)
        | exact wp_if_pos hp (wpAny_bind (byVal_q 8 k _ s A E _ hx.1 fun b => rest b))
    · first
        | (refine wpAny_bind ?_; refine wp_if_neg (by rw [hp]; decide) ?_; exact wpAny_pure (rest true))
        | exact wp_if_neg (by rw [hp]; decide) (wpAny_bind (wpAny_pure (rest true)))
        | exact wp_if_neg (by rw [hp]; decide) (rest true)
end
end O
end

section
set_option Elab.async false
set_option linter.all false
set_option maxRecDepth 100000
set_option maxHeartbeats 4000000
/-! OSetD: the order of a set's members, in plain data. -/
namespace O
open PySem PyProof.Rows PySem.W
mutual
def keyD : D → NestedKey
  | .int i => .num i
  | .str s => .text ⟨s.toArray⟩
  | .tup xs => .tup (keyDs xs)
  | _ => .none
def keyDs : List D → List NestedKey
  | [] => []
  | x :: xs => keyD x :: keyDs xs
end
mutual
theorem keyD_inj : ∀ (x y : D), keyF x = true → keyF y = true → keyD x = keyD y → x = y
  | .non, y, hx, hy, e => by cases y <;> simp_all [keyF, keyD]
  | .int i, y, hx, hy, e => by cases y <;> simp_all [keyF, keyD]
  | .str s, y, hx, hy, e => by
    cases y <;> simp_all [keyF, keyD]
  | .tup xs, y, hx, hy, e => by
    cases y with
    | tup ys =>
      simp only [keyD, NestedKey.tup.injEq] at e
      rw [keyDs_inj xs ys (by simpa [keyF] using hx) (by simpa [keyF] using hy) e]
    | _ => simp_all [keyF, keyD]
  | .bl _, _, hx, _, _ => by simp [keyF] at hx
  | .lst _, _, hx, _, _ => by simp [keyF] at hx
  | .dct _, _, hx, _, _ => by simp [keyF] at hx
  | .set _, _, hx, _, _ => by simp [keyF] at hx
  | .fn _ _, _, hx, _, _ => by simp [keyF] at hx
  | .src, _, hx, _, _ => by simp [keyF] at hx
theorem keyDs_inj : ∀ (xs ys : List D), keyFL xs = true → keyFL ys = true → keyDs xs = keyDs ys → xs = ys
  | [], ys, _, _, e => by cases ys <;> simp_all [keyDs]
  | x :: xs, [], _, _, e => by simp [keyDs] at e
  | x :: xs, y :: ys, hx, hy, e => by
    simp only [keyFL, Bool.and_eq_true] at hx hy
    simp only [keyDs, List.cons.injEq] at e
    rw [keyD_inj x y hx.1 hy.1 e.1, keyDs_inj xs ys hx.2 hy.2 e.2]
end
mutual
theorem keyD_depth : ∀ (x : D), keyF x = true → (keyD x).depth = depth x
  | .non, _ => rfl
  | .int i, _ => rfl
  | .str s, _ => rfl
  | .tup xs, h => by
    simp only [keyD, NestedKey.depth, depth]
    rw [keyDs_depth xs (by simpa [keyF] using h)]
  | .bl _, hx => by simp [keyF] at hx
  | .lst _, hx => by simp [keyF] at hx
  | .dct _, hx => by simp [keyF] at hx
  | .set _, hx => by simp [keyF] at hx
  | .fn _ _, hx => by simp [keyF] at hx
  | .src, hx => by simp [keyF] at hx
theorem keyDs_depth : ∀ (xs : List D), keyFL xs = true → NestedKey.depthAll (keyDs xs) = depthL xs
  | [], _ => rfl
  | x :: xs, h => by
    simp only [keyFL, Bool.and_eq_true] at h
    simp only [keyDs, NestedKey.depthAll, depthL]
    rw [keyD_depth x h.1, keyDs_depth xs h.2]
end
mutual
theorem eqD_key : ∀ (x y : D), keyF x = true → keyF y = true → (eqD x y = true ↔ x = y)
  | .non, y, hx, hy => by cases y <;> simp_all [keyF, eqD]
  | .int i, y, hx, hy => by cases y <;> simp_all [keyF, eqD]
  | .str s, y, hx, hy => by cases y <;> simp_all [keyF, eqD]
  | .tup xs, y, hx, hy => by
    cases y with
    | tup ys =>
      simp only [eqD, D.tup.injEq]
      exact eqL_key xs ys (by simpa [keyF] using hx) (by simpa [keyF] using hy)
    | _ => simp_all [keyF, eqD]
  | .bl _, _, hx, _ => by simp [keyF] at hx
  | .lst _, _, hx, _ => by simp [keyF] at hx
  | .dct _, _, hx, _ => by simp [keyF] at hx
  | .set _, _, hx, _ => by simp [keyF] at hx
  | .fn _ _, _, hx, _ => by simp [keyF] at hx
  | .src, _, hx, _ => by simp [keyF] at hx
theorem eqL_key : ∀ (xs ys : List D), keyFL xs = true → keyFL ys = true → (eqL xs ys = true ↔ xs = ys)
  | [], ys, _, _ => by cases ys <;> simp [eqL]
  | x :: xs, [], _, _ => by simp [eqL]
  | x :: xs, y :: ys, hx, hy => by
    simp only [keyFL, Bool.and_eq_true] at hx hy
    simp only [eqL, Bool.and_eq_true, List.cons.injEq]
    rw [eqD_key x y hx.1 hy.1, eqL_key xs ys hx.2 hy.2]
end
/-- dedup keeps the members and has no two that are one -/
theorem dedup_go : ∀ (ds acc : List D), (∀ d ∈ ds, keyF d = true) → (∀ d ∈ acc, keyF d = true) → acc.Nodup →
    let r := ds.foldl (fun acc d => if acc.any (fun e => eqD e d) then acc else acc ++ [d]) acc
    r.Nodup ∧ ∀ x, x ∈ r ↔ x ∈ acc ∨ x ∈ ds := by
  intro ds
  induction ds with
  | nil => intro acc _ _ h; exact ⟨h, fun x => by simp⟩
  | cons d ds ih =>
    intro acc hd ha hn
    have kd := hd d List.mem_cons_self
    have hany : (acc.any fun e => eqD e d) = true ↔ d ∈ acc := by
      rw [List.any_eq_true]
      constructor
      · rintro ⟨e, he, q⟩
        rw [← (eqD_key e d (ha e he) kd).mp q]; exact he
      · intro h
        exact ⟨d, h, (eqD_key d d kd kd).mpr rfl⟩
    simp only [List.foldl_cons]
    by_cases hm : d ∈ acc
    · rw [if_pos (hany.mpr hm)]
      obtain ⟨h1, h2⟩ := ih acc (fun x hx => hd x (List.mem_cons_of_mem _ hx)) ha hn
      refine ⟨h1, fun x => ?_⟩
      rw [h2 x, List.mem_cons]
      constructor
      · rintro (h | h)
        · exact .inl h
        · exact .inr (.inr h)
      · rintro (h | h | h)
        · exact .inl h
        · subst h; exact .inl hm
        · exact .inr h
    · rw [if_neg (fun z => hm (hany.mp z))]
      have n2 : (acc ++ [d]).Nodup := by
        rw [List.nodup_append]
        exact ⟨hn, by simp, fun x hx y hy => by simp at hy; subst hy; exact fun z => hm (z ▸ hx)⟩
      obtain ⟨h1, h2⟩ := ih (acc ++ [d]) (fun x hx => hd x (List.mem_cons_of_mem _ hx)) (fun x hx => by
        rcases List.mem_append.mp hx with h | h
        · exact ha x h
        · simp at h; subst h; exact kd) n2
      refine ⟨h1, fun x => ?_⟩
      rw [h2 x, List.mem_append, List.mem_singleton, List.mem_cons, or_assoc]
theorem dedup_ok {ds : List D} (h : ∀ d ∈ ds, keyF d = true) : (dedup ds).Nodup ∧ ∀ x, x ∈ dedup ds ↔ x ∈ ds := by
  obtain ⟨h1, h2⟩ := dedup_go ds [] h (fun d hd => by simp at hd) List.nodup_nil
  exact ⟨h1, fun x => (h2 x).trans (by simp)⟩
/-! ### the order is one -/
theorem lex_01 (p : List (Int ⊕ List Nat)) : PyProof.Rows.lexLt PyProof.Rows.itemOrd (p ++ [Sum.inl 0]) (p ++ [Sum.inl 1]) = true := by
  rw [lex_pre]; rfl
theorem toks_one {x y : PyData} (ha : PySem.W.alike x y = true) (e : PySem.W.keyToks x = PySem.W.keyToks y) : PyData.eqv x y = true := by
  cases h : PyData.eqv x y with
  | true => rfl
  | false =>
    have q := (PySem.W.toks_eqv x y ha).2 h [Sum.inl 0] [Sum.inl 1]
    rw [e, lex_01, lex_irrefl] at q
    cases q
theorem strK_inj {a b : List Nat} (h : ({ cps := a.toArray } : PySem.Str) = { cps := b.toArray }) : a = b := by
  have := congrArg PySem.Str.cps h
  simpa using this
mutual
theorem pyK_inj : ∀ (x y : D), keyF x = true → keyF y = true → PyData.eqv (toPy x) (toPy y) = true → x = y
  | .non, y, hx, hy, e => by cases y <;> simp_all [keyF, toPy, PyData.eqv]
  | .int i, y, hx, hy, e => by cases y <;> simp_all [keyF, toPy, PyData.eqv]
  | .str s, y, hx, hy, e => by cases y <;> simp_all [keyF, toPy, PyData.eqv]
  | .tup xs, y, hx, hy, e => by
    cases y with
    | tup ys =>
      simp only [toPy, PyData.eqv] at e
      rw [pyKL_inj xs ys (by simpa [keyF] using hx) (by simpa [keyF] using hy) e]
    | _ => simp_all [keyF, toPy, PyData.eqv]
  | .bl _, _, hx, _, _ => by simp [keyF] at hx
  | .lst _, _, hx, _, _ => by simp [keyF] at hx
  | .dct _, _, hx, _, _ => by simp [keyF] at hx
  | .set _, _, hx, _, _ => by simp [keyF] at hx
  | .fn _ _, _, hx, _, _ => by simp [keyF] at hx
  | .src, _, hx, _, _ => by simp [keyF] at hx
theorem pyKL_inj : ∀ (xs ys : List D), keyFL xs = true → keyFL ys = true → PyData.eqvAll (toPyL xs) (toPyL ys) = true → xs = ys
  | [], ys, _, _, e => by cases ys <;> simp_all [toPyL, PyData.eqvAll]
  | x :: xs, [], _, _, e => by simp [toPyL, PyData.eqvAll] at e
  | x :: xs, y :: ys, hx, hy, e => by
    simp only [keyFL, Bool.and_eq_true] at hx hy
    simp only [toPyL, PyData.eqvAll, Bool.and_eq_true] at e
    rw [pyK_inj x y hx.1 hy.1 e.1, pyKL_inj xs ys hx.2 hy.2 e.2]
end
theorem leD_total : TotalLe leD := sortLe_total (listOrd itemOrd) false fun b => keyToks (toPy b)
theorem leD_anti {x y : D} (hx : keyF x = true) (hy : keyF y = true) (ha : alike (toPy x) (toPy y) = true) (h1 : leD x y = true) (h2 : leD y x = true) : x = y := by
  refine pyK_inj x y hx hy (toks_one ha ?_)
  have a1 : (!(listOrd itemOrd).blt (keyToks (toPy y)) (keyToks (toPy x))) = true := h1
  have a2 : (!(listOrd itemOrd).blt (keyToks (toPy x)) (keyToks (toPy y))) = true := h2
  rw [Bool.not_eq_true'] at a1 a2
  exact (listOrd itemOrd).total _ _ a2 a1
/-- sorting does not see the order that was -/
theorem sortK_perm {xs ys : List D} (p : xs.Perm ys) (hk : ∀ d ∈ xs, keyF d = true) (ha : ∀ x ∈ xs, ∀ y ∈ xs, alike (toPy x) (toPy y) = true) : xs.mergeSort leD = ys.mergeSort leD := by
  have m1 : ∀ {d}, d ∈ xs.mergeSort leD → d ∈ xs := fun {d} h => (List.mergeSort_perm xs leD).mem_iff.mp h
  have m2 : ∀ {d}, d ∈ ys.mergeSort leD → d ∈ xs := fun {d} h => p.mem_iff.mpr ((List.mergeSort_perm ys leD).mem_iff.mp h)
  exact List.Perm.eq_of_pairwise (fun a b h1 h2 => leD_anti (hk a (m1 h1)) (hk b (m2 h2)) (ha a (m1 h1) b (m2 h2))) (sort_pairwise leD_total xs) (sort_pairwise leD_total ys) ((List.mergeSort_perm xs leD).trans (p.trans (List.mergeSort_perm ys leD).symm))
theorem key_ok {d : D} (h : keyOk d = true) : (∃ x r, d = .tup (x :: r)) ∧ keyF d = true ∧ (keyD d).depth ≤ 8 := by
  simp only [keyOk, Bool.and_eq_true, decide_eq_true_eq] at h
  obtain ⟨⟨h1, h2⟩, h3⟩ := h
  refine ⟨?_, h2, by rw [keyD_depth d h2]; exact h3⟩
  unfold isCons at h1
  split at h1
  · exact ⟨_, _, rfl⟩
  · cases h1
end O
end

section
set_option Elab.async false
set_option linter.all false
set_option maxRecDepth 100000
/-! OSem: what represents a datum in the heap, what an evaluation asks; defs that also know of no guards. -/
namespace O
open PySem PySem.Spec PyProof.Rows L2

/-! ### defs, no guard being set around them -/
structure FnG (P : Program) (w : World) (K : PySem.W.Frag) (mg : PySem.Str → Option Value) (base : Heap) (k : Nat) (f : Addr) (fd : FuncData) (ps : List PySem.Str) (sp : Sp) : Prop where
  len : ∀ vs H Q E, sp vs H Q E → vs.length = ps.length
  run : ∀ (A : Around) (outer : List PySem.Env) (s : Shared) (H : Hp) (args : Args) (us : List Value) (vs : List V) (Q : VK) (E : XK),
    Room k A → A.guards = some [] → Env0 P w K mg base A outer s H → BindsTo s fd args (ps.zip us) → Vals vs us → sp vs H Q E →
      codeAny (model P w) A (.call (.ref f) args) (CR (L2.CX P w) outer P w H s Q E) s
theorem FnG.of_ok {P : Program} {w : World} {K : PySem.W.Frag} {mg : PySem.Str → Option Value} {base : Heap} {k : Nat} {f : Addr} {fd : FuncData} {ps : List PySem.Str} {sp : Sp} (F : FnOk P w K mg base (L2.CX P w) k f fd ps sp) :
    FnG P w K mg base k f fd ps sp :=
  ⟨F.len, fun A outer s H args us vs Q E hr _ => F.run A outer s H args us vs Q E hr⟩
theorem FnG.mono {P : Program} {w : World} {K : PySem.W.Frag} {mg : PySem.Str → Option Value} {base : Heap} {j k : Nat} {f : Addr} {fd : FuncData} {ps : List PySem.Str} {sp : Sp} (F : FnG P w K mg base j f fd ps sp) (h : j ≤ k) :
    FnG P w K mg base k f fd ps sp :=
  ⟨F.len, fun A outer s H args us vs Q E hr hg => F.run A outer s H args us vs Q E (hr.mono h) hg⟩

theorem runG {X : Cx} {k : Nat} {f : Addr} {fd : FuncData} {ps : List PySem.Str} {sp : Sp} {W : WX} {pins : List (Addr × Obj)} {σ : L2.St} {H : Hp} {s : Shared} {Q : VK} {us : List Value} {vs : List V}
    (F : FnG X.prog X.w X.K X.mg X.base k f fd ps sp) (hr : Room k X.A) (hg : X.A.guards = some []) (hb : Binds X.K fd ps []) (tk : Takes X W) (I : Inv X pins σ H s) (r : Vals vs us) (h : sp vs H Q fun cls d H' => W cls d σ H') :
    wpAny (model X.prog X.w) X.A (PySem.call (.ref f) us) (EP X pins σ Q) X.xe s := by
  have hl : us.length = ps.length := by
    rw [← r.length]
    exact F.len _ _ _ _ h
  have hb' := hb s us I.kIn (by rw [List.append_nil]; exact hl)
  rw [List.append_nil] at hb'
  have main := F.run X.A X.stack s H ⟨us, []⟩ us vs Q _ hr hg I.env0 hb' r h
  refine wpAny_call (codeAny_mono main fun res s' hq => ?_)
  match res, hq with
  | .error e, hq => exact tk e s' (XE.of_call I (fun _ _ _ z => z) hq)
  | .ok (.ret u), hq => exact I.after hq
  | .ok .next, hq => exact hq.elim
  | .ok .brk, hq => exact hq.elim
  | .ok .cont, hq => exact hq.elim
/-- f(..), what is raised being wished for at the caller's slots -/
def tCallG (sp : Sp) (W : WX) (t : TA) : TE := fun σ H Q => t σ H fun vs H1 => sp vs H1 Q fun cls d H' => W cls d σ H'
theorem pe_callG {X : Cx} {k : Nat} {f : Addr} {fd : FuncData} {ps : List PySem.Str} {sp : Sp} {W : WX} {x : PySem.Str} {p pos : Pos} {e : Expr} {es : List Expr} {t : TA}
    (F : FnG X.prog X.w X.K X.mg X.base k f fd ps sp) (hr : Room k X.A) (hgd : X.A.guards = some []) (hg : Gl X x) (hm : X.mg x = some (.ref f)) (hk : PySem.W.keepIn X.K (.ref f) = true) (hb : Binds X.K fd ps []) (tk : Takes X W)
    (ha : PA X (e :: es) t) (hdb : (x == ("__debug__" : PySem.Str)) = false) (he : starEach (e :: es) X.env = (false, eval e X.env) :: starEach es X.env) (hpl : (backTo pos (starEach es X.env)).any (·.1) = false) :
    PE X (.Call (.Name x p) (e :: es) [] pos) (tCallG sp W t) := by
  constructor
  intro pins s σ H Q I h
  refine wpAny_Call_Name_kw (ld_glob I hg hm ?_ hdb)
  refine PySem.W.callWith_K (h₀ := X.base) I.ok.mod.kin hk (thn (ha.run pos pins s σ H _ I h) fun us s1 hq => ?_) he hpl
  obtain ⟨vs, H1, I1, r, q⟩ := hq
  exact ⟨I1.kIn, runG F hr hgd hb tk I1 r q⟩
theorem pe_callG0 {X : Cx} {k : Nat} {f : Addr} {fd : FuncData} {ps : List PySem.Str} {sp : Sp} {W : WX} {x : PySem.Str} {p pos : Pos}
    (F : FnG X.prog X.w X.K X.mg X.base k f fd ps sp) (hr : Room k X.A) (hgd : X.A.guards = some []) (hg : Gl X x) (hm : X.mg x = some (.ref f)) (hk : PySem.W.keepIn X.K (.ref f) = true) (hb : Binds X.K fd ps []) (tk : Takes X W)
    (hdb : (x == ("__debug__" : PySem.Str)) = false) : PE X (.Call (.Name x p) [] [] pos) (tCallG sp W tNil) := by
  constructor
  intro pins s σ H Q I h
  exact wpAny_Call_Name_kw (ld_glob I hg hm (PySem.W.callWith_K0 I.kIn hk (runG (us := []) (vs := []) F hr hgd hb tk I .nil h)) hdb)

/-- a def by its body -/
theorem fnG_of {P : Program} {w : World} {K : PySem.W.Frag} {mg : PySem.Str → Option Value} {base : Heap} {k : Nat} {x qual : PySem.Str} {st : Stmt} {f : Addr} {fd : FuncData} {N ps : List PySem.Str} {sp : Sp}
    (F : Fun K x qual st f fd) (S : FnScope N ps (defScope st)) (len : ∀ vs H Q E, sp vs H Q E → vs.length = ps.length)
    (body : ∀ (cdv : Value) (A : Around) (outer : List PySem.Env) (s : Shared) (H : Hp) (vs : List V) (Q : VK) (E : XK), Room k (A.deeper (envOfC qual (defScope st) s.heap.objs.size f cdv)) →
      (A.deeper (envOfC qual (defScope st) s.heap.objs.size f cdv)).guards = some [] → sp vs H Q E →
      ∃ t, PSs (cxOf (L2.CX P w) P w K mg base N qual (defScope st) f cdv A outer s H E) (defBody st) t ∧ t { nx := fun _ H' => Q .non H', rt := Q } (start N vs) H) :
    FnG P w K mg base (k + 1) f fd ps sp := by
  obtain ⟨⟨oc, od, kV, doc, pm, an, cdv, ct, osl, rfl, lk, hcd⟩, _⟩ := F
  constructor
  · exact len
  intro A outer s H args us vs Q E hr hgd e0 hb r hsp
  have hl := len _ _ _ _ hsp
  have old : ∀ b o, base.get? b = some o → s.heap.get? b = some o := fun b o e => (e0.bs b o e).1
  have KX : K.In s.heap := e0.mod.kin.keeps old
  have hkind : ∀ y ∈ ps.zip us, (defScope st).names.lookup y.1 = some .local ∨ ((defScope st).names.lookup y.1 = some .cell ∧ ((cellsFrom (s.heap.objs.size + 1) (defScope st).names []).lookup y.1).isSome = true) := by
    intro y hy
    cases S.par y.1 (List.of_mem_zip (a := y.1) (b := y.2) hy).1 with
    | inl q => exact Or.inl q
    | inr q => exact Or.inr ⟨q, PySem.W.cellsFrom_some _ _ _ (Or.inl q)⟩
  refine codeAny_call_function hr.depth (KX _ _ lk) rfl S.co S.gen rfl (PySem.W.codeRec_of KX hcd) (hb _ _ _ _ (wpAny_newFunctionEnv_cells S.kind hkind fun env he s1 inside => ?_))
  subst he
  refine ⟨(e0.mod.nolimit.keeps old).keeps inside.toInCall.keep, codeAny_func ?_⟩
  have gd : (A.deeper (envOfC qual (defScope st) s.heap.objs.size f cdv)).guards = some [] := hgd
  obtain ⟨t, ht, hq⟩ := body cdv A outer s H vs Q E (hr.deeper _) gd hsp
  refine wpAny_mono (ht.run [] s1 (start N vs) H _ (inv_start S hr.hd e0 hl r inside) hq) (fun fl s' hs => ?_) fun _ _ hs => hs
  match fl, hs with
  | .ret u, ⟨v, σ', H', J, rv, q⟩ => exact ⟨v, H', J.os, J.bare, J.base, J.hok, rv, q⟩
  | .next, ⟨σ', H', J, q⟩ => exact ⟨V.non, H', J.os, J.bare, J.base, J.hok, rfl, q⟩
  | .brk, ⟨_, _, _, q⟩ => exact q.elim
  | .cont, ⟨_, _, _, q⟩ => exact q.elim
end O
end

section
set_option Elab.async false
set_option linter.all false
set_option maxRecDepth 100000
namespace O
open PySem PySem.Spec PyProof.Rows L2

/-! ### heaps that grow -/
def ocOf (q : Option (Addr × Addr)) (b : Addr) : Prop := ∃ p, q = some p ∧ (b = p.1 ∨ b = p.2)
structure Ext (q : Option (Addr × Addr)) (H H' : Hp) : Prop where
  tup : ∀ b xs, H b = some (.tup xs) → H' b = some (.tup xs)
  frz : ∀ b o u, H b = some (.frz o u) → H' b = some (.frz o u)
  oth : ∀ b o, H b = some o → ¬ ocOf q b → H' b = some o
  dom : ∀ b, H b ≠ none → H' b ≠ none
variable {q : Option (Addr × Addr)} {H H1 H2 H' : Hp}
theorem Ext.refl : Ext q H H := ⟨fun _ _ h => h, fun _ _ _ h => h, fun _ _ h _ => h, fun _ h => h⟩
theorem Ext.trans (a : Ext q H H1) (b : Ext q H1 H2) : Ext q H H2 :=
  ⟨fun c xs h => b.tup c xs (a.tup c xs h), fun c o u h => b.frz c o u (a.frz c o u h), fun c o h n => b.oth c o (a.oth c o h n) n, fun c h => b.dom c (a.dom c h)⟩
theorem Ext.of_same (s : Same H H') : Ext q H H' := ⟨fun b _ h => s b _ h, fun b _ _ h => s b _ h, fun b o h _ => s b o h, fun b h e => by
  cases z : H b with
  | none => exact h z
  | some o => rw [s b o z] at e; cases e⟩
theorem same_upd {p : Addr} {o : HO} (n : H p = none) : Same H (upd H p o) := fun b u e => by rw [upd_ne (ne_of_none e n)]; exact e
theorem Ext.new {p : Addr} {o : HO} (n : H p = none) : Ext q H (upd H p o) := .of_same (same_upd n)
theorem Ext.free (e : Ext q H H') {p : Addr} (n : H' p = none) : H p = none := by
  cases z : H p with
  | none => rfl
  | some o => exact absurd n (e.dom p (by rw [z]; simp))

/-! ### the drawn source in the heap -/
structure OSok (o : OS) : Prop where
  cells : ∀ c ∈ o.cells, 0 ≤ c
  left : 0 ≤ o.left
  mixed : 0 ≤ o.mixed ∧ o.mixed < 2147483629
  turn : 0 ≤ o.turn
  many : o.cells.length ≤ 63
def srcD (c : Addr) (o : OS) : HO := .dK [(.inr "cells", .ref c), (.inr "left", .int o.left), (.inr "mixed", .int o.mixed), (.inr "turn", .int o.turn)]
def Or (q : Option (Addr × Addr)) (H : Hp) (o : OS) : Prop :=
  ∀ s c, q = some (s, c) → s ≠ c ∧ H s = some (srcD c o) ∧ H c = some (.lst (o.cells.reverse.map V.int)) ∧ OSok o
theorem Or.same {o : OS} (h : Or q H o) (s : Same H H') : Or q H' o := fun a c e => by
  obtain ⟨h1, h2, h3, h4⟩ := h a c e
  exact ⟨h1, s _ _ h2, s _ _ h3, h4⟩
theorem Or.notTup {o : OS} (h : Or q H o) {b : Addr} (x : ocOf q b) : ∃ u, H b = some u := by
  obtain ⟨p, e, z⟩ := x
  obtain ⟨_, h2, h3, _⟩ := h p.1 p.2 e
  rcases z with z | z <;> subst z
  · exact ⟨_, h2⟩
  · exact ⟨_, h3⟩

/-! ### what represents a datum -/
def okS (s : List Nat) : Prop := (∀ c ∈ s, c < 0x110000) ∧ s.length ≤ lid
section
variable (K : PySem.W.Frag) (q : Option (Addr × Addr)) (A : Addr → Prop)
mutual
def Rep : Nat → Hp → V → D → Prop
  | _, _, v, .non => v = .non
  | _, _, v, .bl b => v = .bl b
  | _, _, v, .int i => v = .int i
  | _, _, v, .str s => v = .str ⟨s.toArray⟩ ∧ okS s
  | k, H, v, .tup ds => ∃ a vs, v = .ref a ∧ SqT K H a vs ∧ RepL (k - 1) H vs ds
  | k, H, v, .lst ds => ∃ a vs, v = .ref a ∧ H a = some (.lst vs) ∧ ¬ ocOf q a ∧ (k = 0 → ¬ A a) ∧ RepL (k - 1) H vs ds
  | _, _, v, .src => ∃ p, q = some p ∧ v = .ref p.1
  | _, _, _, .dct _ => False
  | _, _, _, .set _ => False
  | _, _, _, .fn _ _ => False
def RepL : Nat → Hp → List V → List D → Prop
  | _, _, vs, [] => vs = []
  | k, H, vs, d :: ds => ∃ v r, vs = v :: r ∧ Rep k H v d ∧ RepL k H r ds
end
end
variable {K : PySem.W.Frag} {A A' : Addr → Prop}
theorem SqT.ext {a : Addr} {vs : List V} (e : Ext q H H') (h : SqT K H a vs) : SqT K H' a vs := by
  rcases h with (h | ⟨o, h⟩) | h
  · exact .inl (.inl (e.tup _ _ h))
  · exact .inl (.inr ⟨o, e.frz _ _ _ h⟩)
  · exact .inr h
mutual
theorem Rep.mono (e : Ext q H H') (hA : ∀ b, A' b → A b) : ∀ (d : D) (k k' : Nat) (v : V), k ≤ k' → Rep K q A k H v d → Rep K q A' k' H' v d
  | .non, _, _, _, _, h => by unfold Rep at h ⊢; exact h
  | .bl _, _, _, _, _, h => by unfold Rep at h ⊢; exact h
  | .int _, _, _, _, _, h => by unfold Rep at h ⊢; exact h
  | .str _, _, _, _, _, h => by unfold Rep at h ⊢; exact h
  | .tup ds, k, k', v, hk, h => by
    unfold Rep at h ⊢
    obtain ⟨a, vs, h1, h2, h3⟩ := h
    exact ⟨a, vs, h1, SqT.ext e h2, RepL.mono e hA ds (k - 1) (k' - 1) vs (by omega) h3⟩
  | .lst ds, k, k', v, hk, h => by
    unfold Rep at h ⊢
    obtain ⟨a, vs, h1, h2, h3, h4, h5⟩ := h
    exact ⟨a, vs, h1, e.oth _ _ h2 h3, h3, fun z => fun x => h4 (by omega) (hA _ x), RepL.mono e hA ds (k - 1) (k' - 1) vs (by omega) h5⟩
  | .dct _, _, _, _, _, h => by unfold Rep at h; exact h.elim
  | .set _, _, _, _, _, h => by unfold Rep at h; exact h.elim
  | .fn _ _, _, _, _, _, h => by unfold Rep at h; exact h.elim
  | .src, _, _, _, _, h => by unfold Rep at h ⊢; exact h
theorem RepL.mono (e : Ext q H H') (hA : ∀ b, A' b → A b) : ∀ (ds : List D) (k k' : Nat) (vs : List V), k ≤ k' → RepL K q A k H vs ds → RepL K q A' k' H' vs ds
  | [], _, _, _, _, h => by unfold RepL at h ⊢; exact h
  | d :: ds, k, k', vs, hk, h => by
    unfold RepL at h ⊢
    obtain ⟨v, r, h1, h2, h3⟩ := h
    exact ⟨v, r, h1, Rep.mono e hA d k k' v hk h2, RepL.mono e hA ds k k' r hk h3⟩
end
theorem Rep.ext {k : Nat} {v : V} {d : D} (e : Ext q H H') (h : Rep K q A k H v d) : Rep K q A k H' v d := Rep.mono e (fun _ h => h) d k k v (Nat.le_refl _) h
theorem Rep.le {k k' : Nat} {v : V} {d : D} (hk : k ≤ k') (h : Rep K q A k H v d) : Rep K q A k' H v d := Rep.mono .refl (fun _ h => h) d k k' v hk h
theorem RepL.ext {k : Nat} {v : List V} {d : List D} (e : Ext q H H') (h : RepL K q A k H v d) : RepL K q A k H' v d := RepL.mono e (fun _ h => h) d k k v (Nat.le_refl _) h
theorem RepL.le {k k' : Nat} {v : List V} {d : List D} (hk : k ≤ k') (h : RepL K q A k H v d) : RepL K q A k' H v d := RepL.mono .refl (fun _ h => h) d k k' v hk h
theorem RepL.length {k : Nat} : ∀ {ds : List D} {vs : List V}, RepL K q A k H vs ds → vs.length = ds.length
  | [], vs, h => by unfold RepL at h; rw [h]; rfl
  | d :: ds, vs, h => by
    unfold RepL at h
    obtain ⟨v, r, rfl, _, h3⟩ := h
    rw [List.length_cons, List.length_cons, RepL.length h3]
theorem RepL.nil {k : Nat} : RepL K q A k H [] [] := by unfold RepL; rfl
theorem RepL.cons {k : Nat} {v : V} {vs : List V} {d : D} {ds : List D} (h : Rep K q A k H v d) (t : RepL K q A k H vs ds) : RepL K q A k H (v :: vs) (d :: ds) := by
  unfold RepL; exact ⟨v, vs, rfl, h, t⟩
theorem RepL.append {k : Nat} {es : List D} {us : List V} : ∀ {ds : List D} {vs : List V}, RepL K q A k H vs ds → RepL K q A k H us es → RepL K q A k H (vs ++ us) (ds ++ es)
  | [], vs, h, g => by unfold RepL at h; subst h; exact g
  | d :: ds, vs, h, g => by
    unfold RepL at h
    obtain ⟨v, r, rfl, h2, h3⟩ := h
    exact .cons h2 (RepL.append h3 g)
theorem RepL.get {k : Nat} : ∀ {ds : List D} {vs : List V} {i : Nat} {d : D}, RepL K q A k H vs ds → ds[i]? = some d → ∃ v, vs[i]? = some v ∧ Rep K q A k H v d
  | [], _, _, _, _, e => by simp at e
  | d :: ds, vs, 0, x, h, e => by
    unfold RepL at h
    obtain ⟨v, r, rfl, h2, h3⟩ := h
    simp at e; subst e
    exact ⟨v, rfl, h2⟩
  | d :: ds, vs, i + 1, x, h, e => by
    unfold RepL at h
    obtain ⟨v, r, rfl, h2, h3⟩ := h
    obtain ⟨u, h4, h5⟩ := RepL.get (i := i) h3 (by simpa using e)
    exact ⟨u, by simpa using h4, h5⟩
theorem RepL.getV {k : Nat} {ds : List D} {vs : List V} {i : Nat} {v : V} (h : RepL K q A k H vs ds) (e : vs[i]? = some v) : ∃ d, ds[i]? = some d ∧ Rep K q A k H v d := by
  have hl := h.length
  have hi : i < vs.length := (List.getElem?_eq_some_iff.mp e).1
  have e2 : ds[i]? = some (ds[i]'(by omega)) := List.getElem?_eq_getElem _
  obtain ⟨u, h1, h2⟩ := h.get e2
  rw [e] at h1; cases h1
  exact ⟨_, e2, h2⟩
theorem RepL.take {k : Nat} : ∀ {ds : List D} {vs : List V} (n : Nat), RepL K q A k H vs ds → RepL K q A k H (vs.take n) (ds.take n)
  | [], vs, n, h => by unfold RepL at h; subst h; simp; exact .nil
  | d :: ds, vs, 0, h => by simp; exact .nil
  | d :: ds, vs, n + 1, h => by
    unfold RepL at h
    obtain ⟨v, r, rfl, h2, h3⟩ := h
    simpa using RepL.cons h2 (RepL.take n h3)
theorem RepL.drop {k : Nat} : ∀ {ds : List D} {vs : List V} (n : Nat), RepL K q A k H vs ds → RepL K q A k H (vs.drop n) (ds.drop n)
  | [], vs, n, h => by unfold RepL at h; subst h; simp; exact .nil
  | d :: ds, vs, 0, h => by simpa using h
  | d :: ds, vs, n + 1, h => by
    unfold RepL at h
    obtain ⟨v, r, rfl, h2, h3⟩ := h
    simpa using RepL.drop n h3
theorem RepL.reverse {k : Nat} : ∀ {ds : List D} {vs : List V}, RepL K q A k H vs ds → RepL K q A k H vs.reverse ds.reverse
  | [], vs, h => by unfold RepL at h; subst h; exact .nil
  | d :: ds, vs, h => by
    unfold RepL at h
    obtain ⟨v, r, rfl, h2, h3⟩ := h
    rw [List.reverse_cons, List.reverse_cons]
    exact (RepL.reverse h3).append (.cons h2 .nil)
theorem RepL.set {k : Nat} {x : V} {y : D} (g : Rep K q A k H x y) : ∀ {ds : List D} {vs : List V} (n : Nat), RepL K q A k H vs ds → RepL K q A k H (vs.set n x) (ds.set n y)
  | [], vs, n, h => by unfold RepL at h; subst h; exact .nil
  | d :: ds, vs, 0, h => by
    unfold RepL at h
    obtain ⟨v, r, rfl, h2, h3⟩ := h
    exact .cons g h3
  | d :: ds, vs, n + 1, h => by
    unfold RepL at h
    obtain ⟨v, r, rfl, h2, h3⟩ := h
    exact .cons h2 (RepL.set g n h3)

/-! ### towards the library's data -/
theorem okS_str {s : List Nat} (h : okS s) : PyData.strOk ⟨s.toArray⟩ = true := by
  unfold PyData.strOk
  rw [Array.all_eq_true]
  intro i hi
  simp only [decide_eq_true_eq]
  exact h.1 _ (by simp at hi ⊢)
mutual
theorem Rep.dp {k : Nat} : ∀ (d : D) (v : V) (k : Nat), pure d = true → Rep K q A k H v d → Dp K H v (toPy d) ∧ (toPy d).canLay0 = true
  | .non, v, k, _, h => by unfold Rep at h; subst h; exact ⟨.non, by simp [toPy, PyData.canLay0]⟩
  | .bl b, v, k, _, h => by unfold Rep at h; subst h; exact ⟨.bl b, by simp [toPy, PyData.canLay0]⟩
  | .int i, v, k, _, h => by unfold Rep at h; subst h; exact ⟨.int i, by simp [toPy, PyData.canLay0]⟩
  | .str s, v, k, _, h => by
    unfold Rep at h
    obtain ⟨rfl, h2⟩ := h
    exact ⟨.str _, by simp [toPy, PyData.canLay0, okS_str h2]⟩
  | .tup ds, v, k, p, h => by
    unfold Rep at h
    obtain ⟨a, vs, rfl, h2, h3⟩ := h
    obtain ⟨g1, g2⟩ := RepL.dp (k := 0) ds vs (k - 1) (by simpa [pure] using p) h3
    exact ⟨.tup h2 g1, by simpa [toPy, PyData.canLay0] using g2⟩
  | .lst ds, v, k, p, h => by
    unfold Rep at h
    obtain ⟨a, vs, rfl, h2, _, _, h3⟩ := h
    obtain ⟨g1, g2⟩ := RepL.dp (k := 0) ds vs (k - 1) (by simpa [pure] using p) h3
    exact ⟨.lst (SqL.of h2) g1, by simpa [toPy, PyData.canLay0] using g2⟩
  | .dct _, _, _, p, h => by simp [pure] at p
  | .set _, _, _, p, h => by simp [pure] at p
  | .fn _ _, _, _, p, h => by simp [pure] at p
  | .src, _, _, p, h => by simp [pure] at p
theorem RepL.dp {k : Nat} : ∀ (ds : List D) (vs : List V) (k : Nat), pureL ds = true → RepL K q A k H vs ds → DpAll K H vs (toPyL ds) ∧ PyData.canLayAll0 (toPyL ds) = true
  | [], vs, k, _, h => by unfold RepL at h; subst h; exact ⟨.nil, by simp [toPyL, PyData.canLayAll0]⟩
  | d :: ds, vs, k, p, h => by
    unfold RepL at h
    obtain ⟨v, r, rfl, h2, h3⟩ := h
    have p' : pure d = true ∧ pureL ds = true := by simpa [pureL] using p
    obtain ⟨g1, g2⟩ := Rep.dp (k := 0) d v k p'.1 h2
    obtain ⟨g3, g4⟩ := RepL.dp (k := 0) ds r k p'.2 h3
    exact ⟨.cons g1 g3, by simp [toPyL, PyData.canLayAll0, g2, g4]⟩
end
mutual
theorem toPy_eqv : ∀ (d e : D), pure d = true → pure e = true → PyData.eqv (toPy d) (toPy e) = eqD d e
  | d, e, p, r => by
    cases d <;> cases e <;> first
      | (simp [pure] at p; done)
      | (simp [pure] at r; done)
      | (simp [toPy, PyData.eqv, eqD]; done)
      | skip
    case str.str x y =>
      simp only [toPy, PyData.eqv, eqD]
      by_cases h : x = y
      · subst h; simp
      · have h2 : ¬ (⟨x.toArray⟩ : PySem.Str) = ⟨y.toArray⟩ := fun z => h (by simpa using congrArg (fun t => t.cps.toList) z)
        rw [beq_eq_false_iff_ne.mpr h2, beq_eq_false_iff_ne.mpr h]
    case tup.tup x y =>
      simp only [toPy, PyData.eqv, eqD]
      exact toPy_eqvL x y (by simpa [pure] using p) (by simpa [pure] using r)
    case lst.lst x y =>
      simp only [toPy, PyData.eqv, eqD]
      exact toPy_eqvL x y (by simpa [pure] using p) (by simpa [pure] using r)
theorem toPy_eqvL : ∀ (d e : List D), pureL d = true → pureL e = true → PyData.eqvAll (toPyL d) (toPyL e) = eqL d e
  | [], [], _, _ => by simp [toPyL, PyData.eqvAll, eqL]
  | [], _ :: _, _, _ => by simp [toPyL, PyData.eqvAll, eqL]
  | _ :: _, [], _, _ => by simp [toPyL, PyData.eqvAll, eqL]
  | x :: xs, y :: ys, p, r => by
    have p' : pure x = true ∧ pureL xs = true := by simpa [pureL] using p
    have r' : pure y = true ∧ pureL ys = true := by simpa [pureL] using r
    simp only [toPyL, PyData.eqvAll, eqL, toPy_eqv x y p'.1 r'.1, toPy_eqvL xs ys p'.2 r'.2]
end
mutual
theorem toPy_depth : ∀ (d : D), (toPy d).depth = depth d ∨ pure d = false
  | .non | .bl _ | .int _ | .str _ => by left; simp [toPy, PyData.depth, depth]
  | .tup xs => by
    rcases toPyL_depth xs with h | h
    · left; simp [toPy, PyData.depth, depth, h]
    · right; simpa [pure] using h
  | .lst xs => by
    rcases toPyL_depth xs with h | h
    · left; simp [toPy, PyData.depth, depth, h]
    · right; simpa [pure] using h
  | .dct _ | .set _ | .fn _ _ | .src => by right; simp [pure]
theorem toPyL_depth : ∀ (d : List D), PyData.depthAll (toPyL d) = depthL d ∨ pureL d = false
  | [] => by left; simp [toPyL, PyData.depthAll, depthL]
  | x :: xs => by
    rcases toPy_depth x with h | h
    · rcases toPyL_depth xs with g | g
      · left; simp [toPyL, PyData.depthAll, depthL, h, g]
      · right; simp [pureL, g]
    · right; simp [pureL, h]
end
theorem depth_py {d : D} (p : pure d = true) : (toPy d).depth = depth d := by
  rcases toPy_depth d with h | h
  · exact h
  · rw [p] at h; cases h

mutual
/-- more places to be kept away from, all of them free so far -/
theorem Rep.grow (hA : ∀ b, A' b → A b ∨ H b = none) : ∀ (d : D) (k : Nat) (v : V), Rep K q A k H v d → Rep K q A' k H v d
  | .non, _, _, h => by unfold Rep at h ⊢; exact h
  | .bl _, _, _, h => by unfold Rep at h ⊢; exact h
  | .int _, _, _, h => by unfold Rep at h ⊢; exact h
  | .str _, _, _, h => by unfold Rep at h ⊢; exact h
  | .tup ds, k, v, h => by
    unfold Rep at h ⊢
    obtain ⟨a, vs, h1, h2, h3⟩ := h
    exact ⟨a, vs, h1, h2, RepL.grow' hA ds (k - 1) vs h3⟩
  | .lst ds, k, v, h => by
    unfold Rep at h ⊢
    obtain ⟨a, vs, h1, h2, h3, h4, h5⟩ := h
    refine ⟨a, vs, h1, h2, h3, fun z x => ?_, RepL.grow' hA ds (k - 1) vs h5⟩
    rcases hA _ x with y | y
    · exact h4 z y
    · rw [h2] at y; cases y
  | .dct _, _, _, h => by unfold Rep at h; exact h.elim
  | .set _, _, _, h => by unfold Rep at h; exact h.elim
  | .fn _ _, _, _, h => by unfold Rep at h; exact h.elim
  | .src, _, _, h => by unfold Rep at h ⊢; exact h
theorem RepL.grow' (hA : ∀ b, A' b → A b ∨ H b = none) : ∀ (ds : List D) (k : Nat) (vs : List V), RepL K q A k H vs ds → RepL K q A' k H vs ds
  | [], _, _, h => by unfold RepL at h ⊢; exact h
  | d :: ds, k, vs, h => by
    unfold RepL at h ⊢
    obtain ⟨v, r, h1, h2, h3⟩ := h
    exact ⟨v, r, h1, Rep.grow hA d k v h2, RepL.grow' hA ds k r h3⟩
end
theorem RepL.grow {k : Nat} {vs : List V} {ds : List D} (hA : ∀ b, A' b → A b ∨ H b = none) (h : RepL K q A k H vs ds) : RepL K q A' k H vs ds := RepL.grow' hA ds k vs h
/-- a heap in which some lists (at M) have changed -/
structure Chg (q : Option (Addr × Addr)) (M : Addr → Prop) (H H' : Hp) : Prop where
  tup : ∀ b xs, H b = some (.tup xs) → H' b = some (.tup xs)
  frz : ∀ b o u, H b = some (.frz o u) → H' b = some (.frz o u)
  oth : ∀ b o, H b = some o → ¬ ocOf q b → ¬ M b → H' b = some o
  dom : ∀ b, H b ≠ none → H' b ≠ none
theorem Ext.chg {M : Addr → Prop} (e : Ext q H H') : Chg q M H H' := ⟨e.tup, e.frz, fun b o h n _ => e.oth b o h n, e.dom⟩
theorem Chg.trans {M : Addr → Prop} (a : Chg q M H H1) (b : Chg q M H1 H2) : Chg q M H H2 :=
  ⟨fun c xs h => b.tup c xs (a.tup c xs h), fun c o u h => b.frz c o u (a.frz c o u h), fun c o h n m => b.oth c o (a.oth c o h n m) n m, fun c h => b.dom c (a.dom c h)⟩
theorem Chg.mono {M M' : Addr → Prop} (h : ∀ b, M b → M' b) (a : Chg q M H H') : Chg q M' H H' := ⟨a.tup, a.frz, fun b o e n m => a.oth b o e n fun z => m (h b z), a.dom⟩
/-- what was changed was not there yet -/
theorem Chg.ext {M : Addr → Prop} (h : ∀ b, M b → H b = none) (a : Chg q M H H') : Ext q H H' := ⟨a.tup, a.frz, fun b o e n => a.oth b o e n fun z => (by rw [h b z] at e; cases e), a.dom⟩
theorem Chg.set {M : Addr → Prop} {p : Addr} {vs us : List V} (m : M p) (e : H p = some (.lst vs)) : Chg q M H (upd H p (.lst us)) := by
  have ne : ∀ {b o}, H b = some o → (∀ w, o ≠ .lst w) → b ≠ p := fun {b o} h n z => by subst z; rw [e] at h; cases h; exact n _ rfl
  refine ⟨fun b xs h => by rw [upd_ne (ne h fun w z => nomatch z)]; exact h, fun b o u h => by rw [upd_ne (ne h fun w z => nomatch z)]; exact h, fun b o h _ nm => ?_, fun b h => ?_⟩
  · rw [upd_ne fun z => nm (by rw [z]; exact m)]; exact h
  · by_cases z : b = p
    · subst z; rw [upd_same]; simp
    · rw [upd_ne z]; exact h
mutual
theorem Rep.chg {M : Addr → Prop} (c : Chg q M H H') : ∀ (d : D) (k : Nat) (v : V), (∀ b, M b → (k = 0 ∧ A b) ∨ H b = none) → Rep K q A k H v d → Rep K q A k H' v d
  | .non, _, _, _, h => by unfold Rep at h ⊢; exact h
  | .bl _, _, _, _, h => by unfold Rep at h ⊢; exact h
  | .int _, _, _, _, h => by unfold Rep at h ⊢; exact h
  | .str _, _, _, _, h => by unfold Rep at h ⊢; exact h
  | .tup ds, k, v, m, h => by
    unfold Rep at h ⊢
    obtain ⟨a, vs, h1, h2, h3⟩ := h
    refine ⟨a, vs, h1, ?_, RepL.chg' c ds (k - 1) vs (fun b x => (m b x).imp_left fun z => ⟨by omega, z.2⟩) h3⟩
    rcases h2 with (h | ⟨o, h⟩) | h
    · exact .inl (.inl (c.tup _ _ h))
    · exact .inl (.inr ⟨o, c.frz _ _ _ h⟩)
    · exact .inr h
  | .lst ds, k, v, m, h => by
    unfold Rep at h ⊢
    obtain ⟨a, vs, h1, h2, h3, h4, h5⟩ := h
    refine ⟨a, vs, h1, c.oth _ _ h2 h3 fun z => ?_, h3, h4, RepL.chg' c ds (k - 1) vs (fun b x => (m b x).imp_left fun z => ⟨by omega, z.2⟩) h5⟩
    rcases m _ z with ⟨y1, y2⟩ | y
    · exact h4 y1 y2
    · rw [h2] at y; cases y
  | .dct _, _, _, _, h => by unfold Rep at h; exact h.elim
  | .set _, _, _, _, h => by unfold Rep at h; exact h.elim
  | .fn _ _, _, _, _, h => by unfold Rep at h; exact h.elim
  | .src, _, _, _, h => by unfold Rep at h ⊢; exact h
theorem RepL.chg' {M : Addr → Prop} (c : Chg q M H H') : ∀ (ds : List D) (k : Nat) (vs : List V), (∀ b, M b → (k = 0 ∧ A b) ∨ H b = none) → RepL K q A k H vs ds → RepL K q A k H' vs ds
  | [], _, _, _, h => by unfold RepL at h ⊢; exact h
  | d :: ds, k, vs, m, h => by
    unfold RepL at h ⊢
    obtain ⟨v, r, h1, h2, h3⟩ := h
    exact ⟨v, r, h1, Rep.chg c d k v m h2, RepL.chg' c ds k r m h3⟩
end
end O
end

section
set_option Elab.async false
set_option linter.all false
set_option maxRecDepth 100000
namespace O
open PySem PySem.Spec PyProof.Rows L2

/-! ### an evaluation's answer, as what is wanted -/
def Post {α : Type} (x : R α) (P : α → OS → Prop) (E : Nat → OS → Prop) : Prop :=
  match x with
  | .ok a o => P a o
  | .ex c o => E c o
  | .bad => False
theorem Post.bind {α β : Type} {x : R α} {f : α → OS → R β} {P : β → OS → Prop} {E : Nat → OS → Prop} (h : Post (x.bind f) P E) : Post x (fun a o => Post (f a o) P E) E := by
  cases x with
  | ok a o => exact h
  | ex c o => exact h
  | bad => exact h
theorem Post.mono {α : Type} {x : R α} {P P' : α → OS → Prop} {E E' : Nat → OS → Prop} (h : Post x P E) (hP : ∀ a o, P a o → P' a o) (hE : ∀ c o, E c o → E' c o) : Post x P' E' := by
  cases x with
  | ok a o => exact hP _ _ h
  | ex c o => exact hE _ _ h
  | bad => exact h
theorem Post.of {α : Type} {x : Option α} {o : OS} {P : α → OS → Prop} {E : Nat → OS → Prop} (h : Post (R.of x o) P E) : ∃ a, x = some a ∧ P a o := by
  cases x with
  | none => exact h.elim
  | some a => exact ⟨a, rfl, h⟩
theorem Post.ofb {α β : Type} {x : Option α} {o : OS} {f : α → OS → R β} {P : β → OS → Prop} {E : Nat → OS → Prop} (h : Post ((R.of x o).bind f) P E) : ∃ a, x = some a ∧ Post (f a o) P E := by
  cases x with
  | none => exact h.elim
  | some a => exact ⟨a, rfl, h⟩
/-- what is fixed: the written part, the source's places, the exceptions' classes, the wish about them -/
structure Gx where
  K : PySem.W.Frag
  q : Option (Addr × Addr)
  ct : Nat → Value
/-- how deep it may be lent, how deep it is new -/
structure Ty where
  k : Nat
  fr : Nat
mutual
def OwnR : Nat → Hp → V → D → List Addr → Prop
  | m, H, v, .lst ds, O => match m with
    | 0 => O = []
    | m + 1 => ∃ p vs O', v = .ref p ∧ H p = some (.lst vs) ∧ O = p :: O' ∧ OwnL m H vs ds O'
  | m, _, _, _, O => m = 0 ∧ O = []
def OwnL : Nat → Hp → List V → List D → List Addr → Prop
  | _, _, vs, [], O => vs = [] ∧ O = []
  | m, H, vs, d :: ds, O => ∃ v r O1 O2, vs = v :: r ∧ O = O1 ++ O2 ∧ OwnR m H v d O1 ∧ OwnL m H r ds O2
end
variable (g : Gx) (W : WX)
def Ew (σ : L2.St) (H : Hp) (c : Nat) (o : OS) : Prop := ∀ dd H', Ext g.q H H' → Or g.q H' o → W (g.ct c) dd σ H'
def RepT (A : Addr → Prop) (τ : Ty) (H H' : Hp) (v : V) (d : D) : Prop :=
  Rep g.K g.q A τ.k H' v d ∧ (τ.fr ≠ 0 → ∃ O, OwnR τ.fr H' v d O ∧ O.Nodup ∧ (∀ p ∈ O, H p = none ∧ ¬ ocOf g.q p) ∧ Rep g.K g.q (fun b => A b ∨ b ∈ O) τ.fr H' v d)
structure Slots (A : Addr → Prop) (ks : Nat → Nat) (H : Hp) (σ : L2.St) (env : Env) : Prop where
  len : env.length = σ.length
  get : ∀ i d, env[i]? = some (some d) → ∃ v, σ[i]? = some (some v) ∧ Rep g.K g.q A (ks i) H v d
/-- where an evaluation begins -/
structure At (A : Addr → Prop) (ks : Nat → Nat) (σ : L2.St) (H : Hp) (env : Env) (o : OS) : Prop where
  sl : Slots g A ks H σ env
  or : Or g.q H o
  dom : ∀ p, A p → H p ≠ none
def rdE (ks : Nat → Nat) (τ : Ty) (ev : Env → OS → R D) : TE := fun σ H Q => ∃ env o A, At g A ks σ H env o ∧
  Post (ev env o) (fun d o' => ∀ v H', Ext g.q H H' → Or g.q H' o' → RepT g A τ H H' v d → Q v H') (Ew g W σ H)
def rdT (ks : Nat → Nat) (ev : Env → OS → R Bool) : TT := fun σ H Q => ∃ env o A, At g A ks σ H env o ∧
  Post (ev env o) (fun d o' => ∀ H', Ext g.q H H' → Or g.q H' o' → Q d H') (Ew g W σ H)
/-- the arguments, each with its lending -/
def RepA (A : Addr → Prop) (H' : Hp) : List Nat → List V → List D → Prop
  | [], vs, ds => vs = [] ∧ ds = []
  | k :: kl, vs, ds => ∃ v r d e, vs = v :: r ∧ ds = d :: e ∧ Rep g.K g.q A k H' v d ∧ RepA A H' kl r e
def rdA (ks : Nat → Nat) (kl : List Nat) (ev : Env → OS → R (List D)) : TA := fun σ H Q => ∃ env o A, At g A ks σ H env o ∧
  Post (ev env o) (fun ds o' => ∀ vs H', Ext g.q H H' → Or g.q H' o' → RepA g A H' kl vs ds → Q vs H') (Ew g W σ H)
variable {g : Gx} {W : WX} {ks : Nat → Nat} {σ : L2.St} {H H' : Hp} {env : Env} {o o' : OS} {A : Addr → Prop} {τ : Ty} {Q : VK}

theorem Ew.ext (e : Ext g.q H H') {c : Nat} (h : Ew g W σ H c o) : Ew g W σ H' c o := fun dd H2 e2 => h dd H2 (e.trans e2)
theorem Slots.ext (e : Ext g.q H H') (s : Slots g A ks H σ env) : Slots g A ks H' σ env := ⟨s.len, fun i d h => by
  obtain ⟨v, h1, h2⟩ := s.get i d h
  exact ⟨v, h1, h2.ext e⟩⟩
theorem At.next (a : At g A ks σ H env o) (e : Ext g.q H H') (r : Or g.q H' o') : At g A ks σ H' env o' := ⟨a.sl.ext e, r, fun p h => e.dom p (a.dom p h)⟩
/-- an evaluation, and what is done with its answer -/
theorem rdE.use {ev : Env → OS → R D} {β : Type} {f : D → OS → R β} {P : β → OS → Prop} (a : At g A ks σ H env o) (h : Post ((ev env o).bind f) P (Ew g W σ H))
    (k : ∀ d o' v H', Ext g.q H H' → At g A ks σ H' env o' → RepT g A τ H H' v d → Post (f d o') P (Ew g W σ H) → Q v H') : rdE g W ks τ ev σ H Q :=
  ⟨env, o, A, a, h.bind.mono (fun d o' z v H' e r t => k d o' v H' e (a.next e r) t z) fun _ _ z => z⟩
theorem rdE.use1 {ev : Env → OS → R D} {P : D → OS → Prop} (a : At g A ks σ H env o) (h : Post (ev env o) P (Ew g W σ H))
    (k : ∀ d o' v H', Ext g.q H H' → At g A ks σ H' env o' → RepT g A τ H H' v d → P d o' → Q v H') : rdE g W ks τ ev σ H Q :=
  ⟨env, o, A, a, h.mono (fun d o' z v H' e r t => k d o' v H' e (a.next e r) t z) fun _ _ z => z⟩
theorem rdT.use {ev : Env → OS → R Bool} {β : Type} {f : Bool → OS → R β} {P : β → OS → Prop} {Q : Bool → Hp → Prop} (a : At g A ks σ H env o) (h : Post ((ev env o).bind f) P (Ew g W σ H))
    (k : ∀ d o' H', Ext g.q H H' → At g A ks σ H' env o' → Post (f d o') P (Ew g W σ H) → Q d H') : rdT g W ks ev σ H Q :=
  ⟨env, o, A, a, h.bind.mono (fun d o' z H' e r => k d o' H' e (a.next e r) z) fun _ _ z => z⟩
theorem rdA.use {kl : List Nat} {ev : Env → OS → R (List D)} {β : Type} {f : List D → OS → R β} {P : β → OS → Prop} {Q : List V → Hp → Prop} (a : At g A ks σ H env o) (h : Post ((ev env o).bind f) P (Ew g W σ H))
    (k : ∀ d o' v H', Ext g.q H H' → At g A ks σ H' env o' → RepA g A H' kl v d → Post (f d o') P (Ew g W σ H) → Q v H') : rdA g W ks kl ev σ H Q :=
  ⟨env, o, A, a, h.bind.mono (fun d o' z v H' e r t => k d o' v H' e (a.next e r) t z) fun _ _ z => z⟩
theorem Post.ext {α : Type} {x : R α} {P P' : α → OS → Prop} (e : Ext g.q H H') (h : Post x P (Ew g W σ H)) (hP : ∀ a o, P a o → P' a o) : Post x P' (Ew g W σ H') := h.mono hP fun _ _ z => z.ext e
theorem RepT.plain {k : Nat} {v : V} {d : D} {H' : Hp} (h : Rep g.K g.q A k H' v d) : RepT g A ⟨k, 0⟩ H H' v d := ⟨h, fun z => absurd rfl z⟩

/-- a weaker reading -/
theorem _root_.L2.PE.of {X : Cx} {e : Expr} {t t' : TE} (h : PE X e t) (i : ∀ σ H Q, t' σ H Q → t σ H Q) : PE X e t' := ⟨fun pins s σ H Q I z => h.run pins s σ H Q I (i σ H Q z)⟩
theorem _root_.L2.PT.of {X : Cx} {e : Expr} {t t' : TT} (h : PT X e t) (i : ∀ σ H Q, t' σ H Q → t σ H Q) : PT X e t' := ⟨fun pins s σ H Q I z => h.run pins s σ H Q I (i σ H Q z)⟩
theorem _root_.L2.PA.of {X : Cx} {e : List Expr} {t t' : TA} (h : PA X e t) (i : ∀ σ H Q, t' σ H Q → t σ H Q) : PA X e t' := ⟨fun pos pins s σ H Q I z => h.run pos pins s σ H Q I (i σ H Q z)⟩
theorem _root_.L2.PS.of {X : Cx} {e : Stmt} {t t' : TS} (h : PS X e t) (i : ∀ D σ H, t' D σ H → t D σ H) : PS X e t' := ⟨fun pins s σ H D I z => h.run pins s σ H D I (i D σ H z)⟩
theorem _root_.L2.PSs.of {X : Cx} {e : List Stmt} {t t' : TS} (h : PSs X e t) (i : ∀ D σ H, t' D σ H → t D σ H) : PSs X e t' := ⟨fun pins s σ H D I z => h.run pins s σ H D I (i D σ H z)⟩

/-! ### names, constants -/
section
variable {X : Cx} {F : Nat → List D → OS → R D} {G : Nat → D}
theorem c_var {i : Nat} {x : PySem.Str} {pos : Pos} (hN : X.N[i]? = some x) (hv : Vis X.env.scope x) (hd : (x == ("__debug__" : PySem.Str)) = false) (hcd : (x == ("__classdict__" : PySem.Str)) = false) :
    PE X (.Name x pos) (rdE g W ks ⟨ks i, 0⟩ (evE F G (.var i))) := by
  refine (pe_var hN hv hd hcd).of fun σ H Q ⟨env, o, A, a, h⟩ => ?_
  unfold evE at h
  split at h
  · rename_i d e
    obtain ⟨v, h1, h2⟩ := a.sl.get i d e
    exact ⟨v, h1, h v H .refl a.or (.plain h2)⟩
  · exact h.elim
theorem c_con {e : Expr} {v : V} {d : D} (h : PE X e (tC v)) (r : ∀ A H, Rep g.K g.q A 0 H v d) : PE X e (rdE g W ks ⟨0, 0⟩ (evE F G (.con d))) := by
  refine h.of fun σ H Q ⟨env, o, A, a, h⟩ => ?_
  unfold evE at h
  exact h v H .refl a.or (.plain (r A H))
theorem c_never {e : Expr} : PE X e (rdE g W ks τ (evE F G .never)) := ⟨fun _ _ _ _ _ _ ⟨_, _, _, _, h⟩ => by unfold evE at h; exact h.elim⟩

/-! ### operators by values -/
/-- what an operator of values does with what represents data -/
def OpD (X : Cx) (g : Gx) (f : Value → Value → Sem Value) (op : D → D → Option D) (ty : Nat → Nat → Nat) : Prop :=
  OpR X f fun x y H Q => ∃ (A : Addr → Prop) (o : OS) (j k : Nat) (d e z : D), Rep g.K g.q A j H x d ∧ Rep g.K g.q A k H y e ∧ Or g.q H o ∧ (∀ p, A p → H p ≠ none) ∧ op d e = some z ∧
    ∀ v H', Ext g.q H H' → Or g.q H' o → Rep g.K g.q A (ty j k) H' v z → Q v H'
theorem c_bin {op : Bop} {pop : Operator} {ty : Nat → Nat → Nat} {a b : E} {ea eb : Expr} {pos : Pos} {ta tb : Ty} (ho : OpD X g (binaryOp pop) (binD op) ty)
    (ha : PE X ea (rdE g W ks ta (evE F G a))) (hb : PE X eb (rdE g W ks tb (evE F G b))) : PE X (.BinOp ea pop eb pos) (rdE g W ks ⟨ty ta.k tb.k, 0⟩ (evE F G (.bin op a b))) := by
  refine (pe_op ho ha hb).of fun σ H Q ⟨env, o, A, at_, h⟩ => ?_
  unfold evE at h
  refine rdE.use at_ h fun d o1 v H1 e1 a1 r1 h1 => rdE.use a1 (h1.ext e1 fun _ _ z => z) fun d2 o2 v2 H2 e2 a2 r2 h2 => ?_
  obtain ⟨z, hz, hq⟩ := h2.of
  exact ⟨A, o2, ta.k, tb.k, d, d2, z, r1.1.ext e2, r2.1, a2.or, a2.dom, hz, fun v H' e3 or3 r3 => hq v H' (e1.trans (e2.trans e3)) or3 (.plain r3)⟩
theorem c_cmp {op : Cop} {pop : CmpOp} {a b : E} {ea eb : Expr} {pos : Pos} {ta tb : Ty} (ho : OpD X g (compareOp pop) (fun x y => (cmpD op x y).map .bl) fun _ _ => 0) (hm : behindInMarks pop eb = false)
    (ha : PE X ea (rdE g W ks ta (evE F G a))) (hb : PE X eb (rdE g W ks tb (evE F G b))) : PE X (.Compare ea [pop] [eb] pos) (rdE g W ks ⟨0, 0⟩ (evE F G (.cmp op a b))) := by
  refine (pe_cmpR ho ha hb hm).of fun σ H Q ⟨env, o, A, at_, h⟩ => ?_
  unfold evE at h
  refine rdE.use at_ h fun d o1 v H1 e1 a1 r1 h1 => rdE.use a1 (h1.ext e1 fun _ _ z => z) fun d2 o2 v2 H2 e2 a2 r2 h2 => ?_
  obtain ⟨z, hz, hq⟩ := h2.of
  exact ⟨A, o2, ta.k, tb.k, d, d2, z, r1.1.ext e2, r2.1, a2.or, a2.dom, hz, fun v H' e3 or3 r3 => hq v H' (e1.trans (e2.trans e3)) or3 (.plain r3)⟩
theorem cmp_bl {op : Cop} {x y z : D} (h : (cmpD op x y).map D.bl = some z) : ∃ b, z = .bl b ∧ cmpD op x y = some b := by
  cases e : cmpD op x y with
  | none => rw [e] at h; cases h
  | some b => rw [e] at h; cases h; exact ⟨b, rfl, rfl⟩
theorem c_chn {op op' : Cop} {pop pop' : CmpOp} {a b c : E} {ea eb ec : Expr} {pos : Pos} {ta tb tc : Ty} (ho : OpD X g (compareOp pop) (fun x y => (cmpD op x y).map .bl) fun _ _ => 0) (ho' : OpD X g (compareOp pop') (fun x y => (cmpD op' x y).map .bl) fun _ _ => 0)
    (hm : lastMarks [pop, pop'] [eb, ec] = false)
    (ha : PE X ea (rdE g W ks ta (evE F G a))) (hb : PE X eb (rdE g W ks tb (evE F G b))) (hc : PE X ec (rdE g W ks tc (evE F G c))) : PE X (.Compare ea [pop, pop'] [eb, ec] pos) (rdE g W ks ⟨0, 0⟩ (evE F G (.chn op op' a b c))) := by
  refine (pe_chain ho ho' ha hb hc hm).of fun σ H Q ⟨env, o, A, at_, h⟩ => ?_
  unfold evE at h
  refine rdE.use at_ h fun d o1 v H1 e1 a1 r1 h1 => rdE.use a1 (h1.ext e1 fun _ _ z => z) fun d2 o2 v2 H2 e2 a2 r2 h2 => ?_
  obtain ⟨z, hz, hq⟩ := h2.bind.of
  refine ⟨A, o2, ta.k, tb.k, d, d2, .bl z, r1.1.ext e2, r2.1, a2.or, a2.dom, by show (cmpD op d d2).map D.bl = _; rw [hz]; rfl, fun v H3 e3 or3 r3 => ?_⟩
  unfold Rep at r3
  refine ⟨z, r3, ?_⟩
  cases z with
  | false =>
    simp only [Bool.false_eq_true, if_false] at hq ⊢
    exact hq (.bl false) H3 (e1.trans (e2.trans e3)) or3 (.plain (by unfold Rep; rfl))
  | true =>
    simp only [if_true] at hq ⊢
    have e123 := e1.trans (e2.trans e3)
    refine rdE.use (a2.next e3 or3) (Post.ext (e2.trans e3) hq fun _ _ z => z) fun d4 o4 v4 H4 e4 a4 r4 h4 => ?_
    obtain ⟨z, hz', hq'⟩ := h4.of
    exact ⟨A, o4, tb.k, tc.k, d2, d4, z, r2.1.ext (e3.trans e4), r4.1, a4.or, a4.dom, hz', fun v H' e5 or5 r5 => hq' v H' (e123.trans (e4.trans e5)) or5 (.plain r5)⟩
end
end O
end

section
set_option Elab.async false
set_option linter.all false
set_option maxRecDepth 100000
namespace O
open PySem PySem.Spec PyProof.Rows L2
variable {g : Gx} {W : WX} {ks : Nat → Nat} {σ : L2.St} {H H' : Hp} {env : Env} {o o' : OS} {A : Addr → Prop} {τ : Ty} {Q : VK} {X : Cx} {pins : List (Addr × Obj)} {s : Shared}
/-! ### new objects -/
def cl (j : Nat) : Nat := if j ≤ 1 then 0 else j
theorem cl_sub (j : Nat) : cl j - 1 = j - 1 := by unfold cl; split <;> omega
theorem free_not {p : Addr} (a : ∀ b, A b → H b ≠ none) (r : Or g.q H o) (n : H p = none) : ¬ A p ∧ ¬ ocOf g.q p := ⟨fun h => a p h n, fun h => by
  obtain ⟨u, e⟩ := r.notTup h
  rw [n] at e; cases e⟩
theorem Or.new {p : Addr} {u : HO} (r : Or g.q H o) (n : H p = none) : Or g.q (upd H p u) o := r.same (same_upd n)
theorem rep_lst {p : Addr} {vs : List V} {ds : List D} {k : Nat} (a : ∀ b, A b → H b ≠ none) (r : Or g.q H o) (n : H p = none) (h : RepL g.K g.q A (k - 1) H vs ds) : Rep g.K g.q A k (upd H p (.lst vs)) (.ref p) (.lst ds) := by
  unfold Rep
  obtain ⟨n1, n2⟩ := free_not a r n
  exact ⟨p, vs, rfl, upd_same, n2, fun _ => n1, h.ext (.new n)⟩
theorem rep_tup {p : Addr} {vs : List V} {ds : List D} {k : Nat} (n : H p = none) (h : RepL g.K g.q A (k - 1) H vs ds) : Rep g.K g.q A k (upd H p (.tup vs)) (.ref p) (.tup ds) := by
  unfold Rep
  exact ⟨p, vs, rfl, SqT.of upd_same, h.ext (.new n)⟩
theorem rep_int {i : Int} {k : Nat} : Rep g.K g.q A k H (.int i) (.int i) := by unfold Rep; rfl
theorem rep_bl {i : Bool} {k : Nat} : Rep g.K g.q A k H (.bl i) (.bl i) := by unfold Rep; rfl
theorem rep_non {k : Nat} : Rep g.K g.q A k H .non .non := by unfold Rep; rfl
theorem rep_str {x : List Nat} {k : Nat} (h : okS x) : Rep g.K g.q A k H (.str ⟨x.toArray⟩) (.str x) := by unfold Rep; exact ⟨rfl, h⟩
theorem okS.append {x y : List Nat} (h : okS x) (h' : okS y) (l : x.length + y.length ≤ lid) : okS (x ++ y) :=
  ⟨fun c hc => (List.mem_append.mp hc).elim (h.1 c) (h'.1 c), by rw [List.length_append]; exact l⟩
theorem okS.sub {x y : List Nat} (h : okS x) (s : ∀ c ∈ y, c ∈ x) (l : y.length ≤ x.length) : okS y := ⟨fun c hc => h.1 c (s c hc), Nat.le_trans l h.2⟩
theorem lid_eq : sizeLine = lid := sizeLine_eq
theorem Inv.tlen {a : Addr} {vs : List V} (I : Inv X pins σ H s) (h : SqT X.K H a vs) : vs.length ≤ lid := by
  obtain ⟨_, _, _, z⟩ := I.tuple h
  rw [← lid_eq]; exact z
theorem Inv.llen {a : Addr} {vs : List V} (I : Inv X pins σ H s) (h : H a = some (.lst vs)) : vs.length ≤ lid := by
  obtain ⟨_, _, _, z⟩ := I.list (SqL.of h)
  rw [← lid_eq]; exact z

/-! ### arithmetic -/
theorem app_str (x y : List Nat) : (⟨x.toArray⟩ : PySem.Str) ++ ⟨y.toArray⟩ = ⟨(x ++ y).toArray⟩ := by
  show PySem.Str.mk (x.toArray ++ y.toArray) = _
  simp
theorem len_str (x : List Nat) : (⟨x.toArray⟩ : PySem.Str).length = x.length := by
  show x.toArray.size = x.length
  simp
theorem od_add (hK : X.K = g.K) : OpD X g (binaryOp .Add) (binD .add) (fun j k => cl (max j k)) := by
  intro pins s σ H x y v u Q I rx ry ⟨A, o, j, k, d, e, z, r1, r2, r, dom, hz, hq⟩
  cases d <;> cases e <;> first | (simp [binD] at hz; done) | skip
  case int.int i i' =>
    simp only [binD, Option.some.injEq] at hz; subst hz
    unfold Rep at r1 r2; subst r1; subst r2
    exact op_add pins s σ H _ _ v u Q I rx ry ⟨i, i', rfl, rfl, hq _ H .refl r rep_int⟩
  case str.str i i' =>
    simp only [binD] at hz
    split at hz
    · rename_i hl
      cases hz
      unfold Rep at r1 r2
      obtain ⟨rfl, o1⟩ := r1
      obtain ⟨rfl, o2⟩ := r2
      refine op_add_str pins s σ H _ _ v u Q I rx ry ⟨_, _, rfl, rfl, by rw [len_str, len_str, lid_eq]; exact hl, ?_⟩
      rw [app_str]
      exact hq _ H .refl r (rep_str (o1.append o2 hl))
    · cases hz
  case tup.tup i i' =>
    simp only [binD] at hz
    split at hz
    · rename_i hl
      cases hz
      unfold Rep at r1 r2
      obtain ⟨a, vs, rfl, h1, h2⟩ := r1
      obtain ⟨b, us, rfl, h3, h4⟩ := r2
      have l1 := h2.length
      have l2 := h4.length
      have both : RepL g.K g.q A (cl (max j k) - 1) H (vs ++ us) (i ++ i') := by
        rw [cl_sub]
        exact (h2.le (by omega)).append (h4.le (by omega))
      refine op_catA pins s σ H _ _ v u Q I rx ry ⟨a, b, vs, us, rfl, rfl, hK ▸ h1, hK ▸ h3, by rw [l1, l2, lid_eq]; exact hl, fun e => ?_, fun _ e => ?_, fun _ _ p hp => ?_⟩
      · subst e
        refine hq _ H .refl r ?_
        unfold Rep
        exact ⟨b, us, rfl, h3, both⟩
      · subst e
        refine hq _ H .refl r ?_
        unfold Rep
        exact ⟨a, vs, rfl, h1, by simpa using both⟩
      · exact hq _ _ (.new hp) (r.new hp) (rep_tup hp both)
    · cases hz
  case lst.lst i i' =>
    simp only [binD] at hz
    split at hz
    · rename_i hl
      cases hz
      unfold Rep at r1 r2
      obtain ⟨a, vs, rfl, h1, _, _, h2⟩ := r1
      obtain ⟨b, us, rfl, h3, _, _, h4⟩ := r2
      have l1 := h2.length
      have l2 := h4.length
      have both : RepL g.K g.q A (cl (max j k) - 1) H (vs ++ us) (i ++ i') := by
        rw [cl_sub]
        exact (h2.le (by omega)).append (h4.le (by omega))
      refine op_cat pins s σ H _ _ v u Q I rx ry ⟨a, b, vs, us, rfl, rfl, h1, h3, by rw [l1, l2, lid_eq]; exact hl, fun p hp => ?_⟩
      exact hq _ _ (.new hp) (r.new hp) (rep_lst dom r hp both)
    · cases hz
/-- two numbers that give a number -/
theorem od_int {op : Operator} {f : D → D → Option D} {C : Int → Int → Prop} {h : Int → Int → Int} (ho : OpR X (binaryOp op) (rI C fun i j => .int (h i j)))
    (hf : ∀ d e z, f d e = some z → ∃ i j, d = .int i ∧ e = .int j ∧ C i j ∧ z = .int (h i j)) : OpD X g (binaryOp op) f (fun _ _ => 0) := by
  intro pins s σ H x y v u Q I rx ry ⟨A, o, j, k, d, e, z, r1, r2, r, dom, hz, hq⟩
  obtain ⟨i, i', rfl, rfl, c, rfl⟩ := hf d e z hz
  unfold Rep at r1 r2; subst r1; subst r2
  exact ho pins s σ H _ _ v u Q I rx ry ⟨i, i', rfl, rfl, c, hq _ H .refl r rep_int⟩
theorem od_sub : OpD X g (binaryOp .Sub) (binD .sub) (fun _ _ => 0) := by
  refine od_int (C := fun _ _ => True) (h := fun i j => i - j) (fun pins s σ H x y v u Q I rx ry ⟨i, j, e1, e2, _, q⟩ => op_sub pins s σ H x y v u Q I rx ry ⟨i, j, e1, e2, q⟩) fun d e z h => ?_
  cases d <;> cases e <;> first | (simp [binD] at h; done) | skip
  simp only [binD, Option.some.injEq] at h
  exact ⟨_, _, rfl, rfl, trivial, h.symm⟩
theorem od_mod : OpD X g (binaryOp .Mod) (binD .mod) (fun _ _ => 0) := by
  refine od_int op_mod fun d e z h => ?_
  cases d <;> cases e <;> first | (simp [binD] at h; done) | skip
  simp only [binD] at h
  split at h
  · rename_i hl; cases h; exact ⟨_, _, rfl, rfl, hl, rfl⟩
  · cases h
theorem od_fdiv : OpD X g (binaryOp .FloorDiv) (binD .fdiv) (fun _ _ => 0) := by
  refine od_int op_fdiv fun d e z h => ?_
  cases d <;> cases e <;> first | (simp [binD] at h; done) | skip
  simp only [binD] at h
  split at h
  · rename_i hl; cases h; exact ⟨_, _, rfl, rfl, hl, rfl⟩
  · cases h
theorem od_pow : OpD X g (binaryOp .Pow) (binD .pow) (fun _ _ => 0) := by
  refine od_int op_pow fun d e z h => ?_
  cases d <;> cases e <;> first | (simp [binD] at h; done) | skip
  simp only [binD] at h
  split at h
  · rename_i hl; cases h; exact ⟨_, _, rfl, rfl, ⟨hl.1, by omega, hl.2.2⟩, rfl⟩
  · cases h

/-! ### == and the like -/
theorem un_lt (hr : X.A.units + 64 < cLine) {x y : D} (h : cmpOk x y = true) : X.A.units + min (toPy x).depth (toPy y).depth < cLine := by
  unfold cmpOk at h
  simp only [Bool.and_eq_true, Bool.or_eq_true, decide_eq_true_eq] at h
  obtain ⟨⟨p1, p2⟩, h⟩ := h
  rw [depth_py p1, depth_py p2]
  rcases h with h | h
  · have := Nat.min_le_left (depth x) (depth y); omega
  · have := Nat.min_le_right (depth x) (depth y); omega
theorem cmpOk.pure {x y : D} (h : cmpOk x y = true) : pure x = true ∧ pure y = true := by
  unfold cmpOk at h
  simp only [Bool.and_eq_true] at h
  exact ⟨h.1.1, h.1.2⟩
theorem od_eq (hK : X.K = g.K) (hr : X.A.units + 64 < cLine) : OpD X g (compareOp .Eq) (fun x y => (cmpD .eq x y).map .bl) (fun _ _ => 0) := by
  intro pins s σ H x y v u Q I rx ry ⟨A, o, j, k, d, e, z, r1, r2, r, dom, hz, hq⟩
  simp only [cmpD] at hz
  split at hz
  · rename_i hc
    cases hz
    obtain ⟨p1, p2⟩ := cmpOk.pure hc
    obtain ⟨d1, c1⟩ := Rep.dp (k := 0) d x j p1 r1
    obtain ⟨d2, c2⟩ := Rep.dp (k := 0) e y k p2 r2
    obtain ⟨as, q1⟩ := Dp.reads I _ x v (hK ▸ d1) rx
    obtain ⟨bs, q2⟩ := Dp.reads I _ y u (hK ▸ d2) ry
    refine SeqAt.compareEq_reads q1 q2 c1 c2 (un_lt hr hc) ?_
    rw [toPy_eqv d e p1 p2]
    exact ⟨.bl _, H, I, rfl, hq _ H .refl r rep_bl⟩
  · cases hz
theorem od_ne (hK : X.K = g.K) (hr : X.A.units + 64 < cLine) : OpD X g (compareOp .NotEq) (fun x y => (cmpD .ne x y).map .bl) (fun _ _ => 0) := by
  intro pins s σ H x y v u Q I rx ry ⟨A, o, j, k, d, e, z, r1, r2, r, dom, hz, hq⟩
  simp only [cmpD] at hz
  split at hz
  · rename_i hc
    cases hz
    obtain ⟨p1, p2⟩ := cmpOk.pure hc
    obtain ⟨d1, c1⟩ := Rep.dp (k := 0) d x j p1 r1
    obtain ⟨d2, c2⟩ := Rep.dp (k := 0) e y k p2 r2
    obtain ⟨as, q1⟩ := Dp.reads I _ x v (hK ▸ d1) rx
    obtain ⟨bs, q2⟩ := Dp.reads I _ y u (hK ▸ d2) ry
    refine SeqAt.compareNe_reads q1 q2 c1 c2 (un_lt hr hc) ?_
    rw [toPy_eqv d e p1 p2]
    exact ⟨.bl _, H, I, rfl, hq _ H .refl r rep_bl⟩
  · cases hz
theorem isNon {x : V} {d : D} {k : Nat} (h : Rep g.K g.q A k H x d) : decide (x = .non) = isNonB d := by
  cases d <;> unfold Rep at h <;> first
    | (subst h; rfl)
    | (obtain ⟨rfl, _⟩ := h; rfl)
    | (obtain ⟨_, _, rfl, _⟩ := h; rfl)
    | (obtain ⟨_, _, rfl⟩ := h; rfl)
    | exact h.elim
theorem od_is : OpD X g (compareOp .Is) (fun x y => (cmpD .is x y).map .bl) (fun _ _ => 0) := by
  intro pins s σ H x y v u Q I rx ry ⟨A, o, j, k, d, e, z, r1, r2, r, dom, hz, hq⟩
  cases e <;> first | (simp [cmpD] at hz; done) | skip
  simp only [cmpD] at hz
  cases hz
  unfold Rep at r2; subst r2
  refine op_isN pins s σ H _ _ v u Q I rx ry ⟨rfl, ?_⟩
  rw [isNon r1]
  exact hq _ H .refl r rep_bl
theorem od_isnot : OpD X g (compareOp .IsNot) (fun x y => (cmpD .isnot x y).map .bl) (fun _ _ => 0) := by
  intro pins s σ H x y v u Q I rx ry ⟨A, o, j, k, d, e, z, r1, r2, r, dom, hz, hq⟩
  cases e <;> first | (simp [cmpD] at hz; done) | skip
  simp only [cmpD] at hz
  cases hz
  unfold Rep at r2; subst r2
  refine op_notN pins s σ H _ _ v u Q I rx ry ⟨rfl, ?_⟩
  rw [isNon r1]
  exact hq _ H .refl r rep_bl

/-! ### order -/
def cmpOf : Cop → Option CmpOp
  | .lt => some .Lt | .le => some .LtE | .gt => some .Gt | .ge => some .GtE | _ => none
theorem rc_int {op : Cop} {pop : CmpOp} (h : cmpOf op = some pop) {B : Around} (i j : Int) (t u : Tok) : Ob.RcOp pop B s (.int i t) (.int j u) (ordI op i j) := by
  cases op <;> simp only [cmpOf] at h <;> first | (cases h; done) | skip
  all_goals cases h
  · exact Ob.RcOp.lt_int i j t u
  · exact Ob.RcOp.le_int i j t u
  · exact Ob.RcOp.gt_int i j t u
  · exact Ob.RcOp.ge_int i j t u
theorem rc_str {op : Cop} {pop : CmpOp} (h : cmpOf op = some pop) {B : Around} (i j : List Nat) (t u : Tok) : Ob.RcOp pop B s (.str ⟨i.toArray⟩ t) (.str ⟨j.toArray⟩ u) (ordS op i j) := by
  cases op <;> simp only [cmpOf] at h <;> first | (cases h; done) | skip
  all_goals cases h
  · exact fun _ _ _ _ h => PyProof.Rows.lt_str (by simpa [ordS] using h)
  · exact fun _ _ _ _ h => PySem.P.le_str (by simpa [ordS] using h)
  · exact fun _ _ _ _ h => PySem.P.gt_str (by simpa [ordS] using h)
  · exact fun _ _ _ _ h => PySem.P.ge_str (by simpa [ordS] using h)
end O
end

section
set_option Elab.async false
set_option linter.all false
set_option maxRecDepth 100000
namespace O
open PySem PySem.SeqAt PySem.MeetsSeq PySem.MeetsSeq2 PySem.MeetsSeq3
/-- pairs of items, from the left: the first that differs decides, z if none does -/
inductive OrdZ (op : CmpOp) (A : Around) (s : Shared) (z : Bool) : List (Value × Value) → Bool → Prop
  | nil : OrdZ op A s z [] z
  | same {y x : Value} {r : List (Value × Value)} {b : Bool} : EqAt A s y x true → OrdZ op A s z r b → OrdZ op A s z ((y, x) :: r) b
  | other {y x : Value} {r : List (Value × Value)} {b : Bool} : EqAt A s y x false → Ob.RcOp op A s y x b → OrdZ op A s z ((y, x) :: r) b

/-- a tuple beside another: the first pair that differs decides -/
theorem tup_lt (l b : Addr) (xs ys : Array Value) (n n2 : Nat) (d1 d2 : Option Addr) (s1 s2 : Array (Option Value)) (res : Bool) :
    Meets (Builtin.«tuple.__lt__» ⟨[.ref l, .ref b], []⟩) fun A R s =>
      s.heap.get? l = some ⟨.type "tuple", d1, .seq xs n, s1⟩ ∧ s.heap.get? b = some ⟨.type "tuple", d2, .seq ys n2, s2⟩ ∧
        OrdZ .Lt A.in1 s (decide (xs.size < ys.size)) (xs.toList.zip ys.toList) res ∧ R (.ok (.ret (.bool res))) s :=
  .of_wp fun prog w A R s all => by
    obtain ⟨hp, gs, dr, tk, os⟩ := s
    obtain ⟨ho1, ho2, hz, fin⟩ := all
    have f2 := AutoSeq1.sub_tuple_tuple
    wp_walk using AutoSeq1.wpAny_loadPart' ho1, AutoSeq1.wpAny_loadPart' ho2,
      wpAny_forIn_list _ (fun left acc now => acc.1 = none ∧ now = ⟨hp, gs, dr, tk, os⟩ ∧ OrdZ .Lt A.in1 ⟨hp, gs, dr, tk, os⟩ (decide (xs.size < ys.size)) left res) _
    case turn =>
      rintro ⟨y, x⟩ left acc now ⟨e1, rfl, z⟩
      cases z with
      | same eq more =>
        refine wpAny_bind (eq prog w _ _ ?_)
        wp_walk
        exact ⟨rfl, rfl, more⟩
      | other eq rc =>
        refine wpAny_bind (eq prog w _ _ ?_)
        have rc' := rc prog w
        wp_walk using rc'
        exact ⟨_, rfl, by simpa using fin⟩
    case fin =>
      rintro ⟨b1, b2⟩ now ⟨e1, rfl, z⟩
      simp only at e1
      subst e1
      cases z
      wp_walk
      exact ⟨_, rfl, by simpa [Builtin.Tuple.tupleCompareSizes] using fin⟩
    case h => exact ⟨rfl, rfl, hz⟩
theorem rc_tup_lt {A : Around} {s : Shared} {l b : Addr} {xs ys : Array Value} {res : Bool} (h1 : s.heap.IsTuple l xs) (h2 : s.heap.IsTuple b ys) (hu : A.units < cLine)
    (z : OrdZ .Lt A.in1 s (decide (xs.size < ys.size)) (xs.toList.zip ys.toList) res) : Ob.RcOp .Lt A s (.ref l) (.ref b) res := by
  intro prog w E Q h
  obtain ⟨⟨c1, d1, t1, s1⟩, ho1, hc1, n, hd1⟩ := id h1
  obtain ⟨⟨c2, d2, t2, s2⟩, ho2, hc2, n2, hd2⟩ := id h2
  simp only at hc1 hd1 hc2 hd2
  subst hc1 hd1 hc2 hd2
  exact richCompare_meets_room (op := .Lt) ⟨_, ho1, rfl⟩ ⟨_, ho2, rfl⟩ F.slot_tuple_lt F.entry_tuple_lt (F.args_tuple_lt_2 _ _) (tup_lt l b xs ys n n2 d1 d2 s1 s2 res)
    ⟨ho1, ho2, z, (fun q => nomatch q), h⟩ hu

/-- a tuple beside another: the first pair that differs decides -/
theorem tup_le (l b : Addr) (xs ys : Array Value) (n n2 : Nat) (d1 d2 : Option Addr) (s1 s2 : Array (Option Value)) (res : Bool) :
    Meets (Builtin.«tuple.__le__» ⟨[.ref l, .ref b], []⟩) fun A R s =>
      s.heap.get? l = some ⟨.type "tuple", d1, .seq xs n, s1⟩ ∧ s.heap.get? b = some ⟨.type "tuple", d2, .seq ys n2, s2⟩ ∧
        OrdZ .LtE A.in1 s (decide (xs.size ≤ ys.size)) (xs.toList.zip ys.toList) res ∧ R (.ok (.ret (.bool res))) s :=
  .of_wp fun prog w A R s all => by
    obtain ⟨hp, gs, dr, tk, os⟩ := s
    obtain ⟨ho1, ho2, hz, fin⟩ := all
    have f2 := AutoSeq1.sub_tuple_tuple
    wp_walk using AutoSeq1.wpAny_loadPart' ho1, AutoSeq1.wpAny_loadPart' ho2,
      wpAny_forIn_list _ (fun left acc now => acc.1 = none ∧ now = ⟨hp, gs, dr, tk, os⟩ ∧ OrdZ .LtE A.in1 ⟨hp, gs, dr, tk, os⟩ (decide (xs.size ≤ ys.size)) left res) _
    case turn =>
      rintro ⟨y, x⟩ left acc now ⟨e1, rfl, z⟩
      cases z with
      | same eq more =>
        refine wpAny_bind (eq prog w _ _ ?_)
        wp_walk
        exact ⟨rfl, rfl, more⟩
      | other eq rc =>
        refine wpAny_bind (eq prog w _ _ ?_)
        have rc' := rc prog w
        wp_walk using rc'
        exact ⟨_, rfl, by simpa using fin⟩
    case fin =>
      rintro ⟨b1, b2⟩ now ⟨e1, rfl, z⟩
      simp only at e1
      subst e1
      cases z
      wp_walk
      exact ⟨_, rfl, by simpa [Builtin.Tuple.tupleCompareSizes] using fin⟩
    case h => exact ⟨rfl, rfl, hz⟩
theorem rc_tup_le {A : Around} {s : Shared} {l b : Addr} {xs ys : Array Value} {res : Bool} (h1 : s.heap.IsTuple l xs) (h2 : s.heap.IsTuple b ys) (hu : A.units < cLine)
    (z : OrdZ .LtE A.in1 s (decide (xs.size ≤ ys.size)) (xs.toList.zip ys.toList) res) : Ob.RcOp .LtE A s (.ref l) (.ref b) res := by
  intro prog w E Q h
  obtain ⟨⟨c1, d1, t1, s1⟩, ho1, hc1, n, hd1⟩ := id h1
  obtain ⟨⟨c2, d2, t2, s2⟩, ho2, hc2, n2, hd2⟩ := id h2
  simp only at hc1 hd1 hc2 hd2
  subst hc1 hd1 hc2 hd2
  exact richCompare_meets_room (op := .LtE) ⟨_, ho1, rfl⟩ ⟨_, ho2, rfl⟩ F.slot_tuple_le F.entry_tuple_le (F.args_tuple_le_2 _ _) (tup_le l b xs ys n n2 d1 d2 s1 s2 res)
    ⟨ho1, ho2, z, (fun q => nomatch q), h⟩ hu

/-- a tuple beside another: the first pair that differs decides -/
theorem tup_gt (l b : Addr) (xs ys : Array Value) (n n2 : Nat) (d1 d2 : Option Addr) (s1 s2 : Array (Option Value)) (res : Bool) :
    Meets (Builtin.«tuple.__gt__» ⟨[.ref l, .ref b], []⟩) fun A R s =>
      s.heap.get? l = some ⟨.type "tuple", d1, .seq xs n, s1⟩ ∧ s.heap.get? b = some ⟨.type "tuple", d2, .seq ys n2, s2⟩ ∧
        OrdZ .Gt A.in1 s (decide (xs.size > ys.size)) (xs.toList.zip ys.toList) res ∧ R (.ok (.ret (.bool res))) s :=
  .of_wp fun prog w A R s all => by
    obtain ⟨hp, gs, dr, tk, os⟩ := s
    obtain ⟨ho1, ho2, hz, fin⟩ := all
    have f2 := AutoSeq1.sub_tuple_tuple
    wp_walk using AutoSeq1.wpAny_loadPart' ho1, AutoSeq1.wpAny_loadPart' ho2,
      wpAny_forIn_list _ (fun left acc now => acc.1 = none ∧ now = ⟨hp, gs, dr, tk, os⟩ ∧ OrdZ .Gt A.in1 ⟨hp, gs, dr, tk, os⟩ (decide (xs.size > ys.size)) left res) _
    case turn =>
      rintro ⟨y, x⟩ left acc now ⟨e1, rfl, z⟩
      cases z with
      | same eq more =>
        refine wpAny_bind (eq prog w _ _ ?_)
        wp_walk
        exact ⟨rfl, rfl, more⟩
      | other eq rc =>
        refine wpAny_bind (eq prog w _ _ ?_)
        have rc' := rc prog w
        wp_walk using rc'
        exact ⟨_, rfl, by simpa using fin⟩
    case fin =>
      rintro ⟨b1, b2⟩ now ⟨e1, rfl, z⟩
      simp only at e1
      subst e1
      cases z
      wp_walk
      exact ⟨_, rfl, by simpa [Builtin.Tuple.tupleCompareSizes] using fin⟩
    case h => exact ⟨rfl, rfl, hz⟩
theorem rc_tup_gt {A : Around} {s : Shared} {l b : Addr} {xs ys : Array Value} {res : Bool} (h1 : s.heap.IsTuple l xs) (h2 : s.heap.IsTuple b ys) (hu : A.units < cLine)
    (z : OrdZ .Gt A.in1 s (decide (xs.size > ys.size)) (xs.toList.zip ys.toList) res) : Ob.RcOp .Gt A s (.ref l) (.ref b) res := by
  intro prog w E Q h
  obtain ⟨⟨c1, d1, t1, s1⟩, ho1, hc1, n, hd1⟩ := id h1
  obtain ⟨⟨c2, d2, t2, s2⟩, ho2, hc2, n2, hd2⟩ := id h2
  simp only at hc1 hd1 hc2 hd2
  subst hc1 hd1 hc2 hd2
  exact richCompare_meets_room (op := .Gt) ⟨_, ho1, rfl⟩ ⟨_, ho2, rfl⟩ F.slot_tuple_gt F.entry_tuple_gt (F.args_tuple_gt_2 _ _) (tup_gt l b xs ys n n2 d1 d2 s1 s2 res)
    ⟨ho1, ho2, z, (fun q => nomatch q), h⟩ hu

/-- a tuple beside another: the first pair that differs decides -/
theorem tup_ge (l b : Addr) (xs ys : Array Value) (n n2 : Nat) (d1 d2 : Option Addr) (s1 s2 : Array (Option Value)) (res : Bool) :
    Meets (Builtin.«tuple.__ge__» ⟨[.ref l, .ref b], []⟩) fun A R s =>
      s.heap.get? l = some ⟨.type "tuple", d1, .seq xs n, s1⟩ ∧ s.heap.get? b = some ⟨.type "tuple", d2, .seq ys n2, s2⟩ ∧
        OrdZ .GtE A.in1 s (decide (xs.size ≥ ys.size)) (xs.toList.zip ys.toList) res ∧ R (.ok (.ret (.bool res))) s :=
  .of_wp fun prog w A R s all => by
    obtain ⟨hp, gs, dr, tk, os⟩ := s
    obtain ⟨ho1, ho2, hz, fin⟩ := all
    have f2 := AutoSeq1.sub_tuple_tuple
    wp_walk using AutoSeq1.wpAny_loadPart' ho1, AutoSeq1.wpAny_loadPart' ho2,
      wpAny_forIn_list _ (fun left acc now => acc.1 = none ∧ now = ⟨hp, gs, dr, tk, os⟩ ∧ OrdZ .GtE A.in1 ⟨hp, gs, dr, tk, os⟩ (decide (xs.size ≥ ys.size)) left res) _
    case turn =>
      rintro ⟨y, x⟩ left acc now ⟨e1, rfl, z⟩
      cases z with
      | same eq more =>
        refine wpAny_bind (eq prog w _ _ ?_)
        wp_walk
        exact ⟨rfl, rfl, more⟩
      | other eq rc =>
        refine wpAny_bind (eq prog w _ _ ?_)
        have rc' := rc prog w
        wp_walk using rc'
        exact ⟨_, rfl, by simpa using fin⟩
    case fin =>
      rintro ⟨b1, b2⟩ now ⟨e1, rfl, z⟩
      simp only at e1
      subst e1
      cases z
      wp_walk
      exact ⟨_, rfl, by simpa [Builtin.Tuple.tupleCompareSizes] using fin⟩
    case h => exact ⟨rfl, rfl, hz⟩
theorem rc_tup_ge {A : Around} {s : Shared} {l b : Addr} {xs ys : Array Value} {res : Bool} (h1 : s.heap.IsTuple l xs) (h2 : s.heap.IsTuple b ys) (hu : A.units < cLine)
    (z : OrdZ .GtE A.in1 s (decide (xs.size ≥ ys.size)) (xs.toList.zip ys.toList) res) : Ob.RcOp .GtE A s (.ref l) (.ref b) res := by
  intro prog w E Q h
  obtain ⟨⟨c1, d1, t1, s1⟩, ho1, hc1, n, hd1⟩ := id h1
  obtain ⟨⟨c2, d2, t2, s2⟩, ho2, hc2, n2, hd2⟩ := id h2
  simp only at hc1 hd1 hc2 hd2
  subst hc1 hd1 hc2 hd2
  exact richCompare_meets_room (op := .GtE) ⟨_, ho1, rfl⟩ ⟨_, ho2, rfl⟩ F.slot_tuple_ge F.entry_tuple_ge (F.args_tuple_ge_2 _ _) (tup_ge l b xs ys n n2 d1 d2 s1 s2 res)
    ⟨ho1, ho2, z, (fun q => nomatch q), h⟩ hu
end O
end

section
set_option Elab.async false
set_option linter.all false
set_option maxRecDepth 100000
namespace O
open PySem PySem.Spec PyProof.Rows L2
variable {g : Gx} {W : WX} {ks : Nat → Nat} {σ : L2.St} {H H' : Hp} {env : Env} {o o' : OS} {A : Addr → Prop} {τ : Ty} {Q : VK} {X : Cx} {pins : List (Addr × Obj)} {s : Shared}
theorem eqAt_rep (hK : X.K = g.K) (I : Inv X pins σ H s) {B : Around} {d e : D} {x y : V} {u v : Value} {j k : Nat} (p1 : pure d = true) (p2 : pure e = true) (r1 : Rep g.K g.q A j H x d) (r2 : Rep g.K g.q A k H y e) (rx : RelV x u) (ry : RelV y v)
    (hu : B.units + depth d < cLine) : SeqAt.EqAt B s u v (eqD d e) := by
  obtain ⟨d1, c1⟩ := Rep.dp (k := 0) d x j p1 r1
  obtain ⟨d2, c2⟩ := Rep.dp (k := 0) e y k p2 r2
  obtain ⟨as, q1⟩ := Dp.reads I _ x u (hK ▸ d1) rx
  obtain ⟨bs, q2⟩ := Dp.reads I _ y v (hK ▸ d2) ry
  have z := SeqAt.eqAt_reads _ _ B s u v as bs q1 q2 c1 c2 (by
    rw [depth_py p1]
    have := Nat.min_le_left (depth d) (toPy e).depth
    omega)
  rw [toPy_eqv d e p1 p2] at z
  exact z
theorem rc_end {op : Cop} {pop : CmpOp} (h : cmpOf op = some pop) {B : Around} {l b : Addr} {xs ys : Array Value} {res : Bool} (h1 : s.heap.IsTuple l xs) (h2 : s.heap.IsTuple b ys) (hu : B.units < cLine)
    (z : OrdZ pop B.in1 s (ordI op xs.size ys.size) (xs.toList.zip ys.toList) res) : Ob.RcOp pop B s (.ref l) (.ref b) res := by
  cases op <;> simp only [cmpOf] at h <;> first | (cases h; done) | skip
  all_goals cases h
  · exact rc_tup_lt h1 h2 hu (by simpa [ordI] using z)
  · exact rc_tup_le h1 h2 hu (by simpa [ordI] using z)
  · exact rc_tup_gt h1 h2 hu (by simpa [ordI, gt_iff_lt] using z)
  · exact rc_tup_ge h1 h2 hu (by simpa [ordI, ge_iff_le] using z)
theorem ordI_shift {op : Cop} {pop : CmpOp} (h : cmpOf op = some pop) (a b : Int) : ordI op (a + 1) (b + 1) = ordI op a b := by
  cases op <;> simp only [cmpOf] at h <;> first | (cases h; done) | skip
  all_goals simp [ordI]
mutual
theorem rc_ord {op : Cop} {pop : CmpOp} (ho : cmpOf op = some pop) (hK : X.K = g.K) (I : Inv X pins σ H s) : ∀ (d e : D) (b : Bool) (x y : V) (u v : Value) (j k : Nat) (B : Around), ordD op d e = some b → pure d = true → pure e = true →
    Rep g.K g.q A j H x d → Rep g.K g.q A k H y e → RelV x u → RelV y v → B.units + depth d < cLine → Ob.RcOp pop B s u v b
  | .int i, e, b, x, y, u, v, j, k, B, h, _, _, r1, r2, rx, ry, _ => by
    cases e <;> first | (simp [ordD] at h; done) | skip
    simp only [ordD, Option.some.injEq] at h
    subst h
    unfold Rep at r1 r2; subst r1; subst r2
    obtain ⟨t, rfl⟩ := rx
    obtain ⟨t', rfl⟩ := ry
    exact rc_int ho _ _ _ _
  | .str i, e, b, x, y, u, v, j, k, B, h, _, _, r1, r2, rx, ry, _ => by
    cases e <;> first | (simp [ordD] at h; done) | skip
    simp only [ordD, Option.some.injEq] at h
    subst h
    unfold Rep at r1 r2
    obtain ⟨rfl, _⟩ := r1
    obtain ⟨rfl, _⟩ := r2
    obtain ⟨t, rfl⟩ := rx
    obtain ⟨t', rfl⟩ := ry
    exact rc_str ho _ _ _ _
  | .tup ds, e, b, x, y, u, v, j, k, B, h, p1, p2, r1, r2, rx, ry, hu => by
    cases e <;> first | (simp [ordD] at h; done) | skip
    rename_i es
    simp only [ordD] at h
    unfold Rep at r1 r2
    obtain ⟨a, vs, rfl, h1, h2⟩ := r1
    obtain ⟨c, us, rfl, h3, h4⟩ := r2
    obtain ⟨its, w1, t1, _⟩ := I.tuple (hK ▸ h1)
    obtain ⟨its', w2, t2, _⟩ := I.tuple (hK ▸ h3)
    have rx' : u = Value.ref a := rx
    have ry' : v = Value.ref c := ry
    subst rx'; subst ry'
    have e1 : depth (.tup ds) = depthL ds + 1 := by simp [depth]
    have e2 : B.in1.units = B.units + 1 := rfl
    refine rc_end ho t1 t2 (by omega) ?_
    have z := rc_ordL ho hK I ds es b vs us its its' (j - 1) (k - 1) B.in1 h (by simpa [pure] using p1) (by simpa [pure] using p2) h2 h4 w1 w2 (by omega)
    simpa [h2.length, h4.length, w1.length, w2.length, ← Vals.length w1, ← Vals.length w2] using z
  | .non, e, b, x, y, u, v, j, k, B, h, _, _, _, _, _, _, _ => by cases e <;> simp [ordD] at h
  | .bl _, e, b, x, y, u, v, j, k, B, h, _, _, _, _, _, _, _ => by cases e <;> simp [ordD] at h
  | .lst _, e, b, x, y, u, v, j, k, B, h, _, _, _, _, _, _, _ => by cases e <;> simp [ordD] at h
  | .dct _, e, b, x, y, u, v, j, k, B, h, _, _, _, _, _, _, _ => by cases e <;> simp [ordD] at h
  | .set _, e, b, x, y, u, v, j, k, B, h, _, _, _, _, _, _, _ => by cases e <;> simp [ordD] at h
  | .fn _ _, e, b, x, y, u, v, j, k, B, h, _, _, _, _, _, _, _ => by cases e <;> simp [ordD] at h
  | .src, e, b, x, y, u, v, j, k, B, h, _, _, _, _, _, _, _ => by cases e <;> simp [ordD] at h
theorem rc_ordL {op : Cop} {pop : CmpOp} (ho : cmpOf op = some pop) (hK : X.K = g.K) (I : Inv X pins σ H s) : ∀ (ds es : List D) (b : Bool) (vs us : List V) (its its' : List Value) (j k : Nat) (B : Around), ordL op ds es = some b → pureL ds = true → pureL es = true →
    RepL g.K g.q A j H vs ds → RepL g.K g.q A k H us es → Vals vs its → Vals us its' → B.units + depthL ds < cLine → OrdZ pop B s (ordI op ds.length es.length) (its.zip its') b
  | [], es, b, vs, us, its, its', j, k, B, h, _, _, r1, r2, w1, w2, _ => by
    unfold RepL at r1; subst r1
    cases w1
    simp only [ordL, Option.some.injEq] at h
    subst h
    simp only [List.zip_nil_left, List.length_nil]
    exact .nil
  | d :: ds, [], b, vs, us, its, its', j, k, B, h, _, _, r1, r2, w1, w2, _ => by
    unfold RepL at r2; subst r2
    cases w2
    simp only [ordL, Option.some.injEq] at h
    subst h
    simp only [List.zip_nil_right, List.length_nil, List.length_cons]
    have e : ((ds.length + 1 : Nat) : Int) = (ds.length : Int) + 1 := by omega
    rw [e]
    exact .nil
  | d :: ds, e :: es, b, vs, us, its, its', j, k, B, h, p1, p2, r1, r2, w1, w2, hu => by
    unfold RepL at r1 r2
    obtain ⟨x, vr, rfl, g1, g2⟩ := r1
    obtain ⟨y, ur, rfl, g3, g4⟩ := r2
    cases w1 with
    | cons c1 t1 =>
    cases w2 with
    | cons c2 t2 =>
    have p1' : pure d = true ∧ pureL ds = true := by simpa [pureL] using p1
    have p2' : pure e = true ∧ pureL es = true := by simpa [pureL] using p2
    have hd : depthL (d :: ds) = max (depth d) (depthL ds) := by simp [depthL]
    have m1 := Nat.le_max_left (depth d) (depthL ds)
    have m2 := Nat.le_max_right (depth d) (depthL ds)
    have eq := eqAt_rep (B := B) hK I p1'.1 p2'.1 g1 g3 c1 c2 (by omega)
    simp only [ordL] at h
    rw [List.zip_cons_cons]
    cases he : eqD d e with
    | true =>
      rw [he] at eq h
      simp only [if_true] at h
      refine .same eq ?_
      have z := rc_ordL ho hK I ds es b vr ur _ _ j k B h p1'.2 p2'.2 g2 g4 t1 t2 (by omega)
      have e : ordI op ((d :: ds).length : Nat) ((e :: es).length : Nat) = ordI op ds.length es.length := by
        simp only [List.length_cons]
        have := ordI_shift ho (ds.length : Int) (es.length : Int)
        rw [← this]
        congr 1 <;> omega
      rw [e]
      exact z
    | false =>
      rw [he] at eq h
      simp only [Bool.false_eq_true, if_false] at h
      exact .other eq (rc_ord ho hK I d e b x y _ _ j k B h p1'.1 p2'.1 g1 g3 c1 c2 (by omega))
end
theorem od_ord {op : Cop} {pop : CmpOp} (ho : cmpOf op = some pop) (hK : X.K = g.K) (hr : X.A.units + 64 < cLine) (hc : ∀ a b, compareOp pop a b = richCompare pop a b) : OpD X g (compareOp pop) (fun x y => (cmpD op x y).map .bl) (fun _ _ => 0) := by
  intro pins s σ H x y v u Q I rx ry ⟨A, o, j, k, d, e, z, r1, r2, r, dom, hz, hq⟩
  have hz' : (ordOk op d e).map D.bl = some z := by
    cases op <;> simp only [cmpOf] at ho <;> first | (cases ho; done) | exact hz
  unfold ordOk at hz'
  split at hz'
  · rename_i hcm
    simp only [Bool.and_eq_true, decide_eq_true_eq] at hcm
    cases e1 : ordD op d e with
    | none => rw [e1] at hz'; cases hz'
    | some b =>
      rw [e1] at hz'; cases hz'
      rw [hc]
      exact rc_ord ho hK I d e b x y v u j k X.A e1 hcm.1.1 hcm.1.2 r1 r2 rx ry (by omega) X.prog X.w X.xe _ ⟨.bl b, H, I, rfl, hq _ H .refl r rep_bl⟩
  · cases hz'
end O
end

section
set_option Elab.async false
set_option linter.all false
set_option maxRecDepth 100000
namespace O
open PySem PySem.Spec PyProof.Rows L2
variable {g : Gx} {W : WX} {ks : Nat → Nat} {σ : L2.St} {H H' : Hp} {env : Env} {o o' : OS} {A : Addr → Prop} {τ : Ty} {Q : VK} {X : Cx} {pins : List (Addr × Obj)} {s : Shared}
theorem toPy_any (x : D) (px : pure x = true) : ∀ ds : List D, pureL ds = true → (toPyL ds).any (fun z => PyData.eqv z (toPy x)) = ds.any (fun y => eqD y x)
  | [], _ => by simp [toPyL]
  | d :: ds, p => by
    have p' : pure d = true ∧ pureL ds = true := by simpa [pureL] using p
    simp only [toPyL, List.any_cons, toPy_eqv d x p'.1 px, toPy_any x px ds p'.2]
theorem in_seq (hK : X.K = g.K) (hr : X.A.units + 64 < cLine) (I : Inv X pins σ H s) {x y : V} {v u : Value} {d e : D} {b : Bool} {j k : Nat} (r1 : Rep g.K g.q A j H x d) (r2 : Rep g.K g.q A k H y e) (rx : RelV x v) (ry : RelV y u) (h : inD d e = some b)
    {E : Value → Shared → Prop} {Q Q2 : Value → Shared → Prop} (hQ : Q (.bool b) s) (hN : Q2 (.bool (!b)) s) :
    wpAny (model X.prog X.w) X.A (compareOp .In v u) Q E s ∧ wpAny (model X.prog X.w) X.A (compareOp .NotIn v u) Q2 E s := by
  cases e <;> first | (simp [inD] at h; done) | skip
  case tup ds =>
    simp only [inD] at h
    split at h
    · rename_i hc
      cases h
      unfold inOk at hc
      simp only [Bool.and_eq_true, decide_eq_true_eq] at hc
      obtain ⟨⟨p1, p2⟩, dp⟩ := hc
      obtain ⟨d1, c1⟩ := Rep.dp (k := 0) d x j p1 r1
      obtain ⟨d2, c2⟩ := Rep.dp (k := 0) (.tup ds) y k (by simpa [pure] using p2) r2
      obtain ⟨as, q1⟩ := Dp.reads I _ x v (hK ▸ d1) rx
      obtain ⟨bs, q2⟩ := Dp.reads I _ y u (hK ▸ d2) ry
      have c2' : PyData.canLayAll0 (toPyL ds) = true := by simpa [toPy, PyData.canLay0] using c2
      have e := toPy_any d p1 ds p2
      have hu : X.A.units + 1 + min (PyData.depthAll (toPyL ds)) (toPy d).depth < cLine := by
        have := Nat.min_le_right (PyData.depthAll (toPyL ds)) (toPy d).depth
        rw [depth_py p1] at this ⊢
        omega
      refine ⟨SeqAt.in_tuple_reads (by simpa [toPy] using q2) q1 c2' c1 hu ?_, SeqAt.notIn_tuple_reads (by simpa [toPy] using q2) q1 c2' c1 hu ?_⟩
      · rw [e]; exact hQ
      · rw [e]; exact hN
    · cases h
  case lst ds =>
    simp only [inD] at h
    split at h
    · rename_i hc
      cases h
      unfold inOk at hc
      simp only [Bool.and_eq_true, decide_eq_true_eq] at hc
      obtain ⟨⟨p1, p2⟩, dp⟩ := hc
      obtain ⟨d1, c1⟩ := Rep.dp (k := 0) d x j p1 r1
      obtain ⟨d2, c2⟩ := Rep.dp (k := 0) (.lst ds) y k (by simpa [pure] using p2) r2
      obtain ⟨as, q1⟩ := Dp.reads I _ x v (hK ▸ d1) rx
      obtain ⟨bs, q2⟩ := Dp.reads I _ y u (hK ▸ d2) ry
      have c2' : PyData.canLayAll0 (toPyL ds) = true := by simpa [toPy, PyData.canLay0] using c2
      have e := toPy_any d p1 ds p2
      have hu : X.A.units + 1 + min (PyData.depthAll (toPyL ds)) (toPy d).depth < cLine := by
        have := Nat.min_le_right (PyData.depthAll (toPyL ds)) (toPy d).depth
        rw [depth_py p1] at this ⊢
        omega
      refine ⟨SeqAt.in_list_reads (by simpa [toPy] using q2) q1 c2' c1 hu ?_, SeqAt.notIn_list_reads (by simpa [toPy] using q2) q1 c2' c1 hu ?_⟩
      · rw [e]; exact hQ
      · rw [e]; exact hN
    · cases h
  case str z =>
    cases d <;> first | (simp [inD] at h; done) | skip
    rename_i t
    match t, h, r1 with
    | [], h, _ => simp [inD] at h
    | _ :: _ :: _, h, _ => simp [inD] at h
    | [c], h, r1 =>
      simp only [inD, Option.some.injEq] at h
      subst h
      unfold Rep at r1 r2
      obtain ⟨rfl, _⟩ := r1
      obtain ⟨rfl, _⟩ := r2
      obtain ⟨t, rfl⟩ := rx
      obtain ⟨t', rfl⟩ := ry
      have e := PySem.StrLaws.found_one ⟨z.toArray⟩ c
      refine ⟨PyProof.Rows.in_str ?_, PyProof.Rows.notIn_str ?_⟩
      · rw [show (!(Builtin.Str.occurrences (⟨z.toArray⟩ : PySem.Str) ⟨[c].toArray⟩ 0 (⟨z.toArray⟩ : PySem.Str).length 1).isEmpty) = decide (c ∈ z) from by simpa using e]
        exact hQ
      · rw [show (!(Builtin.Str.occurrences (⟨z.toArray⟩ : PySem.Str) ⟨[c].toArray⟩ 0 (⟨z.toArray⟩ : PySem.Str).length 1).isEmpty) = decide (c ∈ z) from by simpa using e]
        exact hN
  case dct kvs => unfold Rep at r2; exact r2.elim
theorem od_in (hK : X.K = g.K) (hr : X.A.units + 64 < cLine) : OpD X g (compareOp .In) (fun x y => (cmpD .inn x y).map .bl) (fun _ _ => 0) := by
  intro pins s σ H x y v u Q I rx ry ⟨A, o, j, k, d, e, z, r1, r2, r, dom, hz, hq⟩
  simp only [cmpD] at hz
  cases h : inD d e with
  | none => rw [h] at hz; cases hz
  | some b =>
    rw [h] at hz; cases hz
    exact (in_seq (Q2 := fun _ _ => True) hK hr I r1 r2 rx ry h ⟨.bl b, H, I, rfl, hq _ H .refl r rep_bl⟩ trivial).1
theorem od_notin (hK : X.K = g.K) (hr : X.A.units + 64 < cLine) : OpD X g (compareOp .NotIn) (fun x y => (cmpD .notin x y).map .bl) (fun _ _ => 0) := by
  intro pins s σ H x y v u Q I rx ry ⟨A, o, j, k, d, e, z, r1, r2, r, dom, hz, hq⟩
  simp only [cmpD] at hz
  cases h : inD d e with
  | none => rw [h] at hz; cases hz
  | some b =>
    rw [h] at hz; cases hz
    exact (in_seq (Q := fun _ _ => True) hK hr I r1 r2 rx ry h trivial ⟨.bl (!b), H, I, rfl, hq _ H .refl r rep_bl⟩).2
end O
end

section
set_option Elab.async false
set_option linter.all false
set_option maxRecDepth 100000
namespace O
open PySem PySem.Spec PyProof.Rows L2
variable {g : Gx} {W : WX} {ks : Nat → Nat} {σ : L2.St} {H H' : Hp} {env : Env} {o o' : OS} {A : Addr → Prop} {τ : Ty} {Q : VK} {X : Cx} {pins : List (Addr × Obj)} {s : Shared}
/-! ### products -/
theorem int_mul_str (a : Int) (t u : Tok) (x : PySem.Str) : Gives (Builtin.«int.__mul__» ⟨[.int a t, .str x u], []⟩) (.val .notImplemented) :=
  .of_wp fun M A E s Q h => by
    obtain ⟨hp, gs, d, tk, os⟩ := s
    wp_walk
    exact ⟨_, rfl, h⟩
theorem fold_rep (x : List Nat) : ∀ (n : Nat) (acc : List Nat), (List.replicate n x.toArray).foldl (· ++ ·) acc.toArray = (acc ++ (List.replicate n x).flatten).toArray
  | 0, acc => by simp
  | n + 1, acc => by
    rw [List.replicate_succ, List.replicate_succ, List.foldl_cons, List.flatten_cons]
    rw [List.append_toArray, fold_rep x n (acc ++ x), List.append_assoc]
theorem rep_mem {x : List Nat} {n : Nat} {c : Nat} (h : c ∈ (List.replicate n x).flatten) : c ∈ x := by
  obtain ⟨l, h1, h2⟩ := List.mem_flatten.mp h
  rw [List.eq_of_mem_replicate h1] at h2
  exact h2
theorem mul_int_str {k : Int} {t u : Tok} {x : List Nat} (h : x.length * k.toNat ≤ lid) (h1 : k < 2 ^ 62) (h2 : -(2 ^ 62) < k) {Q : Value → Shared → Prop} {E : Value → Shared → Prop} (hQ : ∀ (t' : Tok) (tk : Nat), Q (.str ⟨(rep x k).toArray⟩ t') { s with toks := tk }) :
    wpAny (model X.prog X.w) X.A (binaryOp .Mult (.int k t) (.str ⟨x.toArray⟩ u)) Q E s := by
  refine lm_binaryOp_repeat_right (T := "str") (U := "int") (id := "str.__mul__") (by decide) (fun s' => typeIs_int s' k t) (typeIs_str s _ u) F.fills_int_mul noFill_str_mul F.slot_int_mul lm_noRepeat_int repeat_str F.slot_int_index.lookup ?_
  refine call_gives F.slot_int_mul (typeIs_int s k t) F.entry_int_mul (F.args_int_mul_2 _ _) (int_mul_str k t u _) ⟨rfl, typeIs_str s _ u, ?_⟩
  have hb : lid < 2 ^ 62 := by decide
  refine call_gives F.slot_str_mul (typeIs_str s _ u) F.entry_str_mul (F.args_str_mul_2 _ _) (gives_str_mul _ k u t (by simp; omega) (fun a b => ?_) (fun a b => ?_)) ?_
  · rw [len_str]
    have k1 : 1 ≤ k := by omega
    have e : (k.toNat : Int) = k := by omega
    intro z
    have hx : (x.length : Int) * k ≤ lid := by rw [← e]; exact_mod_cast h
    have q : (2 ^ 63 - 1) / k * k ≤ 2 ^ 63 - 1 := Int.ediv_mul_le _ (by omega)
    have q2 : 2 ^ 63 - 1 < ((2 ^ 63 - 1) / k + 1) * k := Int.lt_ediv_add_one_mul_self _ (by omega)
    have q3 : ((2 ^ 63 - 1) / k + 1) * k ≤ (x.length : Int) * k := Int.mul_le_mul_of_nonneg_right (by omega) (by omega)
    omega
  · rw [len_str]
    show decide (x.length * k.toNat > _) = false
    rw [decide_eq_false_iff_not]
    have := lid_eq
    show ¬ x.length * k.toNat > sizeLine
    omega
  · by_cases c1 : k < 1
    · rw [if_pos c1]
      have e : rep x k = [] := by unfold rep; rw [show k.toNat = 0 by omega]; rfl
      refine ⟨by decide, ?_⟩
      have := hQ s.toks (s.toks + 1)
      rw [e] at this
      exact this
    · rw [if_neg c1]
      by_cases c2 : (k == 1 || (⟨x.toArray⟩ : PySem.Str).length == 0) = true
      · rw [if_pos c2]
        have e : rep x k = x := by
          simp only [Bool.or_eq_true, beq_iff_eq] at c2
          rw [len_str] at c2
          rcases c2 with c2 | c2
          · subst c2; simp [rep]
          · have : x = [] := List.length_eq_zero_iff.mp c2
            subst this
            unfold rep
            simp
        have := hQ u s.toks
        rw [e] at this
        exact this
      · rw [if_neg c2]
        have e : (⟨(List.replicate k.toNat x.toArray).foldl (fun x1 x2 => x1 ++ x2) #[]⟩ : PySem.Str) = ⟨(rep x k).toArray⟩ := by
          have := fold_rep x k.toNat []
          simp only [List.nil_append] at this
          unfold rep
          rw [← this]
        show Made.post (.str ⟨(List.replicate k.toNat x.toArray).foldl (fun x1 x2 => x1 ++ x2) #[]⟩) Q s
        rw [e]
        refine ⟨?_, hQ s.toks (s.toks + 1)⟩
        rw [len_str]
        unfold rep
        simp only [List.length_flatten, List.map_replicate, List.sum_replicate_nat]
        rw [Nat.mul_comm, lid_eq]
        exact h
theorem od_mul : OpD X g (binaryOp .Mult) (binD .mul) (fun _ _ => 0) := by
  intro pins s σ H x y v u Q I rx ry ⟨A, o, j, k, d, e, z, r1, r2, r, dom, hz, hq⟩
  cases d <;> cases e <;> first | (simp [binD] at hz; done) | skip
  case int.int i i' =>
    simp only [binD] at hz
    split at hz
    · rename_i hl
      cases hz
      unfold Rep at r1 r2; subst r1; subst r2
      refine op_mul pins s σ H _ _ v u Q I rx ry ⟨i, i', rfl, rfl, ?_, hq _ H .refl r rep_int⟩
      simpa [CMul] using hl
    · cases hz
  case int.str i x' =>
    simp only [binD] at hz
    split at hz
    · rename_i hl
      cases hz
      unfold Rep at r1 r2; subst r1
      obtain ⟨rfl, ok⟩ := r2
      obtain ⟨t, rfl⟩ := rx
      obtain ⟨t', rfl⟩ := ry
      refine mul_int_str hl.1 hl.2.1 hl.2.2 fun tk n => ⟨.str _, H, I.tok n, ⟨_, rfl⟩, hq _ H .refl r (rep_str ⟨fun c hc => ok.1 c (rep_mem hc), ?_⟩)⟩
      unfold rep
      simp only [List.length_flatten, List.map_replicate, List.sum_replicate_nat]
      rw [Nat.mul_comm]
      exact hl.1
    · cases hz

/-! ### subscripts -/
theorem at_eq {α : Type} (xs : List α) (i : Int) : L2.atI xs i = at? xs i := by
  unfold L2.atI L2.ixN at?
  by_cases h : 0 ≤ i
  · rw [if_pos h, if_pos h]
    by_cases h2 : i < xs.length
    · rw [if_pos h2]; rfl
    · rw [if_neg h2]
      rw [List.getElem?_eq_none (by omega)]
      rfl
  · rw [if_neg h, if_neg h]
    by_cases h2 : -(xs.length : Int) ≤ i
    · rw [if_pos h2, if_pos h2]
      rw [show (i + (xs.length : Int)).toNat = ((xs.length : Int) + i).toNat by omega]
      rfl
    · rw [if_neg h2, if_neg h2]; rfl
theorem at_rep {ds : List D} {vs : List V} {i : Int} {d : D} {k : Nat} (h : RepL g.K g.q A k H vs ds) (e : at? ds i = some d) : ∃ v, L2.atI vs i = some v ∧ Rep g.K g.q A k H v d := by
  rw [at_eq]
  unfold at? at e ⊢
  rw [h.length]
  by_cases c : 0 ≤ i
  · rw [if_pos c] at e ⊢
    exact h.get e
  · rw [if_neg c] at e ⊢
    by_cases c2 : -(ds.length : Int) ≤ i
    · rw [if_pos c2] at e ⊢
      exact h.get e
    · rw [if_neg c2] at e; cases e
section
variable {F : Nat → List D → OS → R D} {G : Nat → D}
theorem plainIx_of {b : Expr} (h : (match b with | .Slice .. => true | _ => false) = false) : PlainIx b := by
  intro o i
  cases b <;> first | rfl | (simp at h)
theorem ixd_ok (hK : X.K = g.K) : IxR X fun x y H Q => ∃ (A : Addr → Prop) (o : OS) (j k : Nat) (d e z : D), Rep g.K g.q A j H x d ∧ Rep g.K g.q A k H y e ∧ Or g.q H o ∧ ixD d e = some z ∧
    ∀ v, Rep g.K g.q A (j - 1) H v z → Q v H := by
  intro value slice pins s σ H x y v u Q I rx ry ⟨A, o, j, k, d, e, z, r1, r2, r, hz, hq⟩
  cases d <;> first | (simp [ixD] at hz; done) | skip
  case str x' =>
    cases e <;> first | (simp [ixD] at hz; done) | skip
    rename_i i
    simp only [ixD] at hz
    cases h : at? x' i with
    | none => rw [h] at hz; cases hz
    | some c =>
      rw [h] at hz; cases hz
      unfold Rep at r1 r2; subst r2
      obtain ⟨rfl, ok⟩ := r1
      refine ix_str value slice pins s σ H _ _ v u Q I rx ry ⟨_, i, c, rfl, rfl, by rw [len_str, lid_eq]; exact ok.2, by rw [at_eq]; simpa using h, hq _ (rep_str ⟨fun c' hc => ?_, by show 1 ≤ lid; decide⟩)⟩
      have : c' = c := by simpa using hc
      subst this
      unfold at? at h
      split at h
      · exact ok.1 _ (List.mem_of_getElem? h)
      · split at h
        · exact ok.1 _ (List.mem_of_getElem? h)
        · cases h
  case tup ds =>
    cases e <;> first | (simp [ixD] at hz; done) | skip
    rename_i i
    simp only [ixD] at hz
    unfold Rep at r1 r2; subst r2
    obtain ⟨a, vs, rfl, h1, h2⟩ := r1
    obtain ⟨w, h3, h4⟩ := at_rep h2 hz
    exact ix_tup value slice pins s σ H _ _ v u Q I rx ry ⟨a, vs, i, w, rfl, rfl, hK ▸ h1, h3, hq _ h4⟩
  case lst ds =>
    cases e <;> first | (simp [ixD] at hz; done) | skip
    rename_i i
    simp only [ixD] at hz
    unfold Rep at r1 r2; subst r2
    obtain ⟨a, vs, rfl, h1, _, _, h2⟩ := r1
    obtain ⟨w, h3, h4⟩ := at_rep h2 hz
    exact ix_list value slice pins s σ H _ _ v u Q I rx ry ⟨a, vs, i, w, rfl, rfl, SqL.of h1, h3, hq _ h4⟩
  case dct => unfold Rep at r1; exact r1.elim
theorem c_ix {a b : E} {ea eb : Expr} {pos : Pos} {ta tb : Ty} (hK : X.K = g.K) (hs : (match eb with | .Slice .. => true | _ => false) = false) (ha : PE X ea (rdE g W ks ta (evE F G a))) (hb : PE X eb (rdE g W ks tb (evE F G b))) :
    PE X (.Subscript ea eb pos) (rdE g W ks ⟨ta.k - 1, 0⟩ (evE F G (.ix a b))) := by
  refine (pe_ix (ixd_ok hK) ha hb (plainIx_of hs)).of fun σ H Q ⟨env, o, A, at_, h⟩ => ?_
  unfold evE at h
  refine rdE.use at_ h fun d o1 v H1 e1 a1 r1 h1 => rdE.use a1 (h1.ext e1 fun _ _ z => z) fun d2 o2 v2 H2 e2 a2 r2 h2 => ?_
  obtain ⟨z, hz, hq⟩ := h2.of
  exact ⟨A, o2, ta.k, tb.k, d, d2, z, r1.1.ext e2, r2.1, a2.or, hz, fun v r3 => hq v H2 (e1.trans e2) a2.or (.plain r3)⟩

theorem ownL0 {H : Hp} : ∀ {ds : List D} {vs : List V}, vs.length = ds.length → OwnL 0 H vs ds []
  | [], [], _ => by unfold OwnL; exact ⟨rfl, rfl⟩
  | d :: ds, v :: vs, h => by
    unfold OwnL
    refine ⟨v, vs, [], [], rfl, rfl, ?_, ownL0 (by simpa using h)⟩
    cases d <;> unfold OwnR <;> first | rfl | exact ⟨rfl, rfl⟩
  | [], _ :: _, h => by simp at h
  | _ :: _, [], h => by simp at h
def fr1 (k : Nat) : Nat := if k ≤ 1 then 1 else 0
theorem own1 {p : Addr} {vs : List V} {ds : List D} (h : vs.length = ds.length) : OwnR 1 (upd H p (.lst vs)) (.ref p) (.lst ds) [p] := by
  unfold OwnR
  exact ⟨p, vs, [], rfl, upd_same, rfl, ownL0 h⟩
theorem rep_lst1 {p : Addr} {vs : List V} {ds : List D} (r : Or g.q H o) (n : H p = none) (h : RepL g.K g.q A 0 H vs ds) : Rep g.K g.q A 1 (upd H p (.lst vs)) (.ref p) (.lst ds) := by
  unfold Rep
  refine ⟨p, vs, rfl, upd_same, fun x => ?_, fun z => absurd z (by decide), h.ext (.new n)⟩
  obtain ⟨u, e⟩ := r.notTup x
  rw [n] at e; cases e
theorem fresh1 {k : Nat} {H0 : Hp} {p : Addr} {vs : List V} {ds : List D} (e : Ext g.q H0 H) (hp : H p = none) (h : RepL g.K g.q A (k - 1) H vs ds) (dom : ∀ b, A b → H b ≠ none) (r : Or g.q H o) : RepT g A ⟨k, fr1 k⟩ H0 (upd H p (.lst vs)) (.ref p) (.lst ds) :=
  ⟨rep_lst dom r hp h, fun z => by
    have hk : k ≤ 1 := by
      apply Classical.byContradiction
      intro n
      exact z (if_neg n)
    have h0 : k - 1 = 0 := by omega
    rw [h0] at h
    show ∃ O, OwnR (fr1 k) _ _ _ O ∧ _ ∧ _ ∧ Rep _ _ _ (fr1 k) _ _ _
    rw [show fr1 k = 1 from if_pos hk]
    refine ⟨[p], own1 h.length, by simp, fun b hb => ?_, rep_lst1 r hp (RepL.grow (A' := fun b => A b ∨ b ∈ [p]) (fun b hb => hb.imp_right fun z => by rw [List.mem_singleton.mp z]; exact hp) h)⟩
    have : b = p := by simpa using hb
    subst this
    exact ⟨e.free hp, (free_not dom r hp).2⟩⟩
/-! ### slices -/
theorem clip_none (n d : Nat) : HT.sIx n d none = d := rfl
theorem clip_some (n d : Nat) (i : Int) : HT.sIx n d (some i) = clip n i := by
  unfold HT.sIx clip
  by_cases h : 0 ≤ i
  · rw [if_pos h]; simp only; rw [if_neg (by omega), Nat.min_comm]
  · rw [if_neg h]; simp only; rw [if_pos (by omega), Int.add_comm]
theorem cut_eq {α : Type} (xs : List α) (lo hi : Option Int) : cut xs lo hi = (xs.drop (HT.sIx xs.length 0 lo)).take (HT.sIx xs.length xs.length hi - HT.sIx xs.length 0 lo) := by
  unfold cut
  cases lo <;> cases hi <;> simp only [clip_none, clip_some]
theorem cut_rep {ds : List D} {vs : List V} {k : Nat} (lo hi : Option Int) (h : RepL g.K g.q A k H vs ds) : RepL g.K g.q A k H (cutV vs lo hi) (cut ds lo hi) := by
  rw [cut_eq]
  unfold cutV
  rw [h.length]
  exact (h.drop _).take _
theorem cut_all {α : Type} {xs : List α} {lo hi : Option Int} (h : HT.sIx xs.length 0 lo = 0 ∧ HT.sIx xs.length xs.length hi = xs.length) : cut xs lo hi = xs := by
  rw [cut_eq, h.1, h.2]
  simp
theorem sld_ok (hK : X.K = g.K) : SlR X fun x lo hi H Q => ∃ (A : Addr → Prop) (o : OS) (j : Nat) (d z : D), Rep g.K g.q A j H x d ∧ Or g.q H o ∧ (∀ p, A p → H p ≠ none) ∧
    cutD d lo hi = some z ∧
    ∀ v H', Ext g.q H H' → Or g.q H' o → Rep g.K g.q A (cl j) H' v z → Q v H' := by
  intro pins s σ H x v vl vu lo hi sl Q I rx hs pl pu ⟨A, o, j, d, z, r1, r, dom, hz, hq⟩
  cases d <;> first | (simp [cutD] at hz; done) | skip
  case str x' =>
    cases hz
    unfold Rep at r1
    obtain ⟨rfl, ok⟩ := r1
    refine sl_str pins s σ H _ v vl vu lo hi sl Q I rx hs pl pu ⟨_, rfl, by rw [len_str, lid_eq]; exact ok.2, ?_⟩
    have e : cutS ⟨x'.toArray⟩ lo hi = ⟨(cut x' lo hi).toArray⟩ := by
      unfold cutS
      rw [cut_eq, len_str]
    rw [e]
    refine hq _ H .refl r (rep_str (ok.sub (fun c hc => ?_) ?_))
    · rw [cut_eq] at hc
      exact List.mem_of_mem_drop (List.mem_of_mem_take hc)
    · rw [cut_eq, List.length_take, List.length_drop]
      omega
  case tup ds =>
    cases hz
    unfold Rep at r1
    obtain ⟨a, vs, rfl, h1, h2⟩ := r1
    have c := cut_rep lo hi (h2.le (Nat.le_of_eq (cl_sub j).symm))
    refine sl_tupA pins s σ H _ v vl vu lo hi sl Q I rx hs pl pu ⟨a, vs, rfl, hK ▸ h1, fun z => ?_, fun _ p hp => hq _ _ (.new hp) (r.new hp) (rep_tup hp c)⟩
    rw [h2.length] at z
    rw [cut_all z] at hq
    refine hq _ H .refl r ?_
    unfold Rep
    exact ⟨a, vs, rfl, h1, h2.le (Nat.le_of_eq (cl_sub j).symm)⟩
  case lst ds =>
    cases hz
    unfold Rep at r1
    obtain ⟨a, vs, rfl, h1, _, _, h2⟩ := r1
    have c := cut_rep lo hi (h2.le (Nat.le_of_eq (cl_sub j).symm))
    exact sl_list pins s σ H _ v vl vu lo hi sl Q I rx hs pl pu ⟨a, vs, rfl, SqL.of h1, fun p hp => hq _ _ (.new hp) (r.new hp) (rep_lst dom r hp c)⟩
def rdO (g : Gx) (W : WX) (ks : Nat → Nat) (ev : Env → OS → R D) : TO := fun σ H Q => ∃ env o A, At g A ks σ H env o ∧
  Post ((ev env o).bind fun y o2 => R.of (bnd y) o2) (fun i o' => ∀ H', Ext g.q H H' → Or g.q H' o' → Q (some i) H') (Ew g W σ H)
theorem part_ok {e : E} {x : Expr} {t : Ty} (h : PE X x (rdE g W ks t (evE F G e))) : PO X (some x) (rdO g W ks (evE F G e)) := by
  refine ⟨fun pins s σ H Q I ⟨env, o, A, a, z⟩ => (po_some h).run pins s σ H Q I ?_⟩
  refine rdE.use a z fun d o' v H' e' a' r' hp => ?_
  obtain ⟨i, hi, hq⟩ := hp.of
  cases d <;> first | (simp [bnd] at hi; done) | skip
  simp only [bnd] at hi
  split at hi
  · cases hi
    have r := r'.1
    unfold Rep at r
    exact ⟨_, r, hq H' e' a'.or⟩
  · cases hi
theorem rdO.use {ev : Env → OS → R D} {β : Type} {f : Int → OS → R β} {P : β → OS → Prop} {Q : Option Int → Hp → Prop} (a : At g A ks σ H env o) (h : Post ((ev env o).bind fun y o2 => (R.of (bnd y) o2).bind f) P (Ew g W σ H))
    (k : ∀ i o' H', Ext g.q H H' → At g A ks σ H' env o' → Post (f i o') P (Ew g W σ H) → Q (some i) H') : rdO g W ks ev σ H Q := by
  refine ⟨env, o, A, a, ?_⟩
  have h2 : Post (((ev env o).bind fun y o2 => R.of (bnd y) o2).bind f) P (Ew g W σ H) := by
    cases e : ev env o with
    | ok d o1 => rw [e] at h; exact h
    | ex c o1 => rw [e] at h; exact h
    | bad => rw [e] at h; exact h
  exact h2.bind.mono (fun d o' z H' e r => k d o' H' e (a.next e r) z) fun _ _ z => z
theorem c_sl {a lo hi : E} {ea el eh : Expr} {pos p2 : Pos} {ta tl th : Ty} (hK : X.K = g.K) (ha : PE X ea (rdE g W ks ta (evE F G a))) (hl : PE X el (rdE g W ks tl (evE F G lo))) (hh : PE X eh (rdE g W ks th (evE F G hi))) :
    PE X (.Subscript ea (.Slice (some el) (some eh) none p2) pos) (rdE g W ks ⟨cl ta.k, 0⟩ (evE F G (.sl a lo hi))) := by
  refine (pe_slice (sld_ok hK) ha (part_ok hl) (part_ok hh)).of fun σ H Q ⟨env, o, A, at_, h⟩ => ?_
  unfold evE at h
  refine rdE.use at_ h fun d o1 v H1 e1 a1 r1 h1 => rdO.use a1 (h1.ext e1 fun _ _ z => z) fun i o2 H2 e2 a2 h2 => rdO.use a2 (h2.ext e2 fun _ _ z => z) fun j o3 H3 e3 a3 h3 => ?_
  obtain ⟨z, hz, hq⟩ := h3.of
  exact ⟨A, o3, ta.k, d, z, r1.1.ext (e2.trans e3), a3.or, a3.dom, hz, fun v H' e4 or4 r4 => hq v H' (e1.trans (e2.trans (e3.trans e4))) or4 (.plain r4)⟩
theorem c_slo {a lo : E} {ea el : Expr} {pos p2 : Pos} {ta tl : Ty} (hK : X.K = g.K) (ha : PE X ea (rdE g W ks ta (evE F G a))) (hl : PE X el (rdE g W ks tl (evE F G lo))) :
    PE X (.Subscript ea (.Slice (some el) none none p2) pos) (rdE g W ks ⟨cl ta.k, 0⟩ (evE F G (.slo a lo))) := by
  refine (pe_slice (sld_ok hK) ha (part_ok hl) po_none).of fun σ H Q ⟨env, o, A, at_, h⟩ => ?_
  unfold evE at h
  refine rdE.use at_ h fun d o1 v H1 e1 a1 r1 h1 => rdO.use a1 (h1.ext e1 fun _ _ z => z) fun i o2 H2 e2 a2 h2 => ?_
  obtain ⟨z, hz, hq⟩ := h2.of
  exact ⟨A, o2, ta.k, d, z, r1.1.ext e2, a2.or, a2.dom, hz, fun v H' e4 or4 r4 => hq v H' (e1.trans (e2.trans e4)) or4 (.plain r4)⟩
theorem c_shi {a hi : E} {ea eh : Expr} {pos p2 : Pos} {ta th : Ty} (hK : X.K = g.K) (ha : PE X ea (rdE g W ks ta (evE F G a))) (hh : PE X eh (rdE g W ks th (evE F G hi))) :
    PE X (.Subscript ea (.Slice none (some eh) none p2) pos) (rdE g W ks ⟨cl ta.k, 0⟩ (evE F G (.shi a hi))) := by
  refine (pe_slice (sld_ok hK) ha po_none (part_ok hh)).of fun σ H Q ⟨env, o, A, at_, h⟩ => ?_
  unfold evE at h
  refine rdE.use at_ h fun d o1 v H1 e1 a1 r1 h1 => ?_
  unfold tNoPart
  refine rdO.use a1 (h1.ext e1 fun _ _ z => z) fun i o2 H2 e2 a2 h2 => ?_
  obtain ⟨z, hz, hq⟩ := h2.of
  exact ⟨A, o2, ta.k, d, z, r1.1.ext e2, a2.or, a2.dom, hz, fun v H' e4 or4 r4 => hq v H' (e1.trans (e2.trans e4)) or4 (.plain r4)⟩
theorem c_rev {a : E} {ea : Expr} {k : Nat} {p1 p2 p3 pos : Pos} {ta : Ty} (ha : PE X ea (rdE g W ks ta (evE F G a))) :
    PE X (.Subscript ea (.Slice none none (some (.UnaryOp .USub (.Constant (.int 1) k p1) p2)) p3) pos) (rdE g W ks ⟨cl ta.k, fr1 (cl ta.k)⟩ (evE F G (.rev a))) := by
  refine (pe_revL ha).of fun σ H Q ⟨env, o, A, at_, h⟩ => ?_
  unfold evE at h
  refine rdE.use at_ h fun d o1 v H1 e1 a1 r1 h1 => ?_
  obtain ⟨z, hz, hq⟩ := h1.of
  cases d <;> first | (simp [revD] at hz; done) | skip
  cases hz
  have r := r1.1
  unfold Rep at r
  obtain ⟨a, vs, rfl, g1, _, _, g2⟩ := r
  exact ⟨a, vs, rfl, SqL.of g1, fun p hp => hq _ _ (e1.trans (.new hp)) (a1.or.new hp) (fresh1 e1 hp (g2.le (Nat.le_of_eq (cl_sub ta.k).symm)).reverse a1.dom a1.or)⟩
end
end O
end

section
set_option Elab.async false
set_option linter.all false
set_option maxRecDepth 100000
namespace O
open PySem PySem.Spec PyProof.Rows L2
variable {g : Gx} {W : WX} {ks : Nat → Nat} {σ : L2.St} {H H' : Hp} {env : Env} {o o' : OS} {A : Addr → Prop} {τ : Ty} {Q : VK} {X : Cx} {pins : List (Addr × Obj)} {s : Shared}
variable {F : Nat → List D → OS → R D} {G : Nat → D}
/-! ### truth -/
theorem tru_rep (hK : X.K = g.K) {v : V} {d : D} {k : Nat} (h : Rep g.K g.q A k H v d) (r : Or g.q H o) : TruV X.K v H (truthy d) := by
  cases d <;> unfold Rep at h
  case non => subst h; rfl
  case bl b => subst h; rfl
  case int i =>
    subst h
    show truthy (.int i) = (i != 0)
    by_cases e : i = 0 <;> simp [truthy, e, bne]
  case str x =>
    obtain ⟨rfl, ok⟩ := h
    refine ⟨by rw [len_str, lid_eq]; exact ok.2, ?_⟩
    rw [len_str]
    cases x <;> simp [truthy] <;> omega
  case tup ds =>
    obtain ⟨a, vs, rfl, h1, h2⟩ := h
    refine .inr (.inl ⟨vs, hK ▸ h1, ?_⟩)
    have := h2.length
    cases vs <;> cases ds <;> simp_all [truthy]
  case lst ds =>
    obtain ⟨a, vs, rfl, h1, _, _, h2⟩ := h
    refine .inl ⟨vs, SqL.of h1, ?_⟩
    have := h2.length
    cases vs <;> cases ds <;> simp_all [truthy]
  case src =>
    obtain ⟨⟨p, c⟩, e, rfl⟩ := h
    obtain ⟨_, h2, _⟩ := r p c e
    exact .inr (.inr ⟨_, h2, rfl⟩)
  all_goals exact h.elim
theorem RepT.lift {k fr : Nat} {v : V} {d : D} {τ : Ty} (h : RepT g A τ H H' v d) (hk : τ.k ≤ k) : RepT g A ⟨k, 0⟩ H H' v d := .plain (h.1.le hk)
theorem Post.imp {α : Type} {x : R α} {P P' : α → OS → Prop} {E : Nat → OS → Prop} (h : Post x P E) (hP : ∀ a o, P a o → P' a o) : Post x P' E := h.mono hP fun _ _ z => z
/-- go on with another evaluation whose answer is the whole's -/
theorem rdE.tail {ev : Env → OS → R D} {H0 : Hp} {τ' : Ty} (a : At g A ks σ H env o) (e : Ext g.q H0 H) (hk : τ'.k ≤ τ.k) (h0 : τ.fr = 0) (h : Post (ev env o) (fun d o' => ∀ v H', Ext g.q H0 H' → Or g.q H' o' → RepT g A τ H0 H' v d → Q v H') (Ew g W σ H)) :
    rdE g W ks τ' ev σ H Q := rdE.use1 a h fun d o' v H' e' a' r p => p v H' (e.trans e') a'.or ⟨r.1.le hk, fun z => absurd h0 z⟩
theorem c_and {a b : E} {ea eb : Expr} {rest : List Expr} {pos : Pos} {ta tb : Ty} (hK : X.K = g.K) (ha : PE X ea (rdE g W ks ta (evE F G a))) (hb : PE X (.BoolOp .And (eb :: rest) pos) (rdE g W ks tb (evE F G b))) :
    PE X (.BoolOp .And (ea :: eb :: rest) pos) (rdE g W ks ⟨max ta.k tb.k, 0⟩ (evE F G (.and a b))) := by
  refine (pe_andT ha hb).of fun σ H Q ⟨env, o, A, at_, h⟩ => ?_
  unfold evE at h
  refine rdE.use at_ h fun d o1 v H1 e1 a1 r1 h1 => ⟨truthy d, tru_rep hK r1.1 a1.or, ?_⟩
  by_cases t : truthy d = true
  · rw [if_pos t] at h1 ⊢
    exact rdE.tail a1 e1 (Nat.le_max_right _ _) rfl (h1.ext e1 fun _ _ z => z)
  · rw [if_neg t] at h1 ⊢
    exact h1 v H1 e1 a1.or (.plain (r1.1.le (Nat.le_max_left _ _)))
theorem c_or {a b : E} {ea eb : Expr} {rest : List Expr} {pos : Pos} {ta tb : Ty} (hK : X.K = g.K) (ha : PE X ea (rdE g W ks ta (evE F G a))) (hb : PE X (.BoolOp .Or (eb :: rest) pos) (rdE g W ks tb (evE F G b))) :
    PE X (.BoolOp .Or (ea :: eb :: rest) pos) (rdE g W ks ⟨max ta.k tb.k, 0⟩ (evE F G (.or a b))) := by
  refine (pe_orT ha hb).of fun σ H Q ⟨env, o, A, at_, h⟩ => ?_
  unfold evE at h
  refine rdE.use at_ h fun d o1 v H1 e1 a1 r1 h1 => ⟨truthy d, tru_rep hK r1.1 a1.or, ?_⟩
  by_cases t : truthy d = true
  · rw [if_pos t] at h1 ⊢
    exact h1 v H1 e1 a1.or (.plain (r1.1.le (Nat.le_max_left _ _)))
  · rw [if_neg t] at h1 ⊢
    exact rdE.tail a1 e1 (Nat.le_max_right _ _) rfl (h1.ext e1 fun _ _ z => z)
theorem c_not {a : E} {ea : Expr} {pos : Pos} {ta : Ty} (hK : X.K = g.K) (ha : PE X ea (rdE g W ks ta (evE F G a))) : PE X (.UnaryOp .Not ea pos) (rdE g W ks ⟨0, 0⟩ (evE F G (.not a))) := by
  refine (pe_notT ha).of fun σ H Q ⟨env, o, A, at_, h⟩ => ?_
  unfold evE at h
  exact rdE.use at_ h fun d o1 v H1 e1 a1 r1 h1 => ⟨truthy d, tru_rep hK r1.1 a1.or, h1 _ H1 e1 a1.or (.plain rep_bl)⟩
theorem c_neg {a : E} {ea : Expr} {pos : Pos} {ta : Ty} (ha : PE X ea (rdE g W ks ta (evE F G a))) : PE X (.UnaryOp .USub ea pos) (rdE g W ks ⟨0, 0⟩ (evE F G (.neg a))) := by
  refine (pe_un un_neg ha).of fun σ H Q ⟨env, o, A, at_, h⟩ => ?_
  unfold evE at h
  refine rdE.use at_ h fun d o1 v H1 e1 a1 r1 h1 => ?_
  obtain ⟨z, hz, hq⟩ := h1.of
  cases d <;> first | (simp [isInt] at hz; done) | skip
  simp only [isInt, Option.map_some, Option.some.injEq] at hz
  subst hz
  have r := r1.1
  unfold Rep at r
  exact ⟨_, r, hq _ H1 e1 a1.or (.plain rep_int)⟩
/-- a test -/
def tst (ev : Env → OS → R D) : Env → OS → R Bool := fun env o => (ev env o).bind fun x o1 => .ok (truthy x) o1
theorem c_ite {c a b : E} {ec ea eb : Expr} {pos : Pos} {ta tb : Ty} (hc : PT X ec (rdT g W ks (tst (evE F G c)))) (ha : PE X ea (rdE g W ks ta (evE F G a))) (hb : PE X eb (rdE g W ks tb (evE F G b))) :
    PE X (.IfExp ec ea eb pos) (rdE g W ks ⟨max ta.k tb.k, 0⟩ (evE F G (.ite c a b))) := by
  refine (pe_ifExp hc ha hb).of fun σ H Q ⟨env, o, A, at_, h⟩ => ?_
  unfold evE at h
  have h2 : Post ((tst (evE F G c) env o).bind fun t o1 => if t then evE F G a env o1 else evE F G b env o1) (fun d o' => ∀ v H', Ext g.q H H' → Or g.q H' o' → RepT g A ⟨max ta.k tb.k, 0⟩ H H' v d → Q v H') (Ew g W σ H) := by
    unfold tst
    cases e : evE F G c env o <;> rw [e] at h <;> exact h
  refine rdT.use at_ h2 fun t o1 H1 e1 a1 h1 => ?_
  by_cases t' : t = true
  · rw [if_pos t'] at h1 ⊢
    exact rdE.tail a1 e1 (Nat.le_max_left _ _) rfl (h1.ext e1 fun _ _ z => z)
  · rw [if_neg t'] at h1 ⊢
    exact rdE.tail a1 e1 (Nat.le_max_right _ _) rfl (h1.ext e1 fun _ _ z => z)
/-! ### tests -/
/-- of an expression whose test is its value's truth -/
def plainTest : Expr → Bool
  | .UnaryOp .Not _ _ => false
  | .BoolOp .. => false
  | .IfExp .. => false
  | .Compare .. => false
  | _ => true
theorem p_truth {c : E} {ec : Expr} {t : Ty} (hK : X.K = g.K) (h : PE X ec (rdE g W ks t (evE F G c))) (hp : plainTest ec = true) : PT X ec (rdT g W ks (tst (evE F G c))) := by
  refine (pt_truth h fun whole => ?_).of fun σ H Q ⟨env, o, A, at_, z⟩ => ?_
  · cases ec <;> first | rfl | (simp [plainTest] at hp; done) | skip
    rename_i op x pos
    cases op <;> first | rfl | (simp [plainTest] at hp; done)
  · exact rdE.use at_ z fun d o1 v H1 e1 a1 r1 h1 => ⟨truthy d, tru_rep hK r1.1 a1.or, h1 H1 e1 a1.or⟩
theorem p_cmp {op : Cop} {pop : CmpOp} {a b : E} {ea eb : Expr} {pos : Pos} {ta tb : Ty} (ho : OpD X g (compareOp pop) (fun x y => (cmpD op x y).map .bl) fun _ _ => 0) (hm : behindInMarks pop eb = false)
    (ha : PE X ea (rdE g W ks ta (evE F G a))) (hb : PE X eb (rdE g W ks tb (evE F G b))) : PT X (.Compare ea [pop] [eb] pos) (rdT g W ks (tst (evE F G (.cmp op a b)))) := by
  refine (pt_cmpR ho ha hb hm).of fun σ H Q ⟨env, o, A, at_, h⟩ => ?_
  unfold tst evE at h
  have h' : Post ((evE F G a env o).bind fun x o1 => (evE F G b env o1).bind fun y o2 => (R.of ((cmpD op x y).map D.bl) o2).bind fun z o3 => .ok (truthy z) o3) (fun d o' => ∀ H', Ext g.q H H' → Or g.q H' o' → Q d H') (Ew g W σ H) := by
    cases e : evE F G a env o with
    | ok x o1 =>
      rw [e] at h
      simp only [R.bind_ok] at h ⊢
      cases e2 : evE F G b env o1 <;> rw [e2] at h <;> exact h
    | ex c o1 => rw [e] at h; exact h
    | bad => rw [e] at h; exact h
  refine rdE.use at_ h' fun d o1 v H1 e1 a1 r1 h1 => rdE.use a1 (h1.ext e1 fun _ _ z => z) fun d2 o2 v2 H2 e2 a2 r2 h2 => ?_
  obtain ⟨z, hz, hq⟩ := h2.bind.of
  obtain ⟨b, rfl, hb⟩ := cmp_bl hz
  refine ⟨A, o2, ta.k, tb.k, d, d2, .bl b, r1.1.ext e2, r2.1, a2.or, a2.dom, hz, fun v H' e3 or3 r3 => ?_⟩
  unfold Rep at r3
  exact ⟨b, r3, hq H' (e1.trans (e2.trans e3)) or3⟩
theorem tst_bind {a : Env → OS → R D} {β : Type} {f : Bool → OS → R β} {P : β → OS → Prop} {E : Nat → OS → Prop} (h : Post ((a env o).bind fun x o1 => f (truthy x) o1) P E) : Post ((tst a env o).bind f) P E := by
  unfold tst
  cases e : a env o <;> rw [e] at h <;> exact h
theorem p_not {a : E} {ea : Expr} {pos : Pos} (ha : PT X ea (rdT g W ks (tst (evE F G a)))) : PT X (.UnaryOp .Not ea pos) (rdT g W ks (tst (evE F G (.not a)))) := by
  refine (pt_not ha).of fun σ H Q ⟨env, o, A, at_, h⟩ => ?_
  unfold tst evE at h
  have h2 : Post ((evE F G a env o).bind fun x o1 => R.ok (!truthy x) o1) (fun d o' => ∀ H', Ext g.q H H' → Or g.q H' o' → Q d H') (Ew g W σ H) := by
    cases e : evE F G a env o <;> rw [e] at h <;> exact h
  exact rdT.use (f := fun t o1 => R.ok (!t) o1) at_ (tst_bind h2) fun t o1 H1 e1 a1 h1 => h1 H1 e1 a1.or
/-- a test of some values by and / or, whatever stands for the whole -/
theorem w_and {a b : E} {ea eb : Expr} {rest : List Expr} {pos : Pos} (ha : PT X ea (rdT g W ks (tst (evE F G a)))) (hb : PW X (.BoolOp .And (eb :: rest) pos) (rdT g W ks (tst (evE F G b)))) :
    PW X (.BoolOp .And (ea :: eb :: rest) pos) (rdT g W ks (tst (evE F G (.and a b)))) := by
  refine ⟨fun wh pins s σ H Q I ⟨env, o, A, at_, h⟩ => (pw_and ha hb).run wh pins s σ H Q I ?_⟩
  unfold tst evE at h
  have h2 : Post ((evE F G a env o).bind fun x o1 => if truthy x then tst (evE F G b) env o1 else R.ok false o1) (fun d o' => ∀ H', Ext g.q H H' → Or g.q H' o' → Q d H') (Ew g W σ H) := by
    cases e : evE F G a env o <;> rw [e] at h <;> simp only [R.bind_ok, R.bind_ex, R.bind_bad] at h ⊢ <;> first | exact h | skip
    rename_i x o1
    by_cases t : truthy x = true
    · rw [if_pos t] at h ⊢; exact h
    · rw [if_neg t] at h ⊢
      rw [Bool.not_eq_true] at t
      simp only [R.bind_ok, t] at h
      exact h
  refine rdT.use (f := fun t o1 => if t then tst (evE F G b) env o1 else R.ok false o1) at_ (tst_bind h2) fun t o1 H1 e1 a1 h1 => ?_
  by_cases t' : t = true
  · rw [if_pos t'] at h1 ⊢
    exact ⟨env, o1, A, a1, h1.ext e1 fun _ _ z H' e' r' => z H' (e1.trans e') r'⟩
  · rw [if_neg t'] at h1 ⊢
    exact h1 H1 e1 a1.or
theorem w_or {a b : E} {ea eb : Expr} {rest : List Expr} {pos : Pos} (ha : PT X ea (rdT g W ks (tst (evE F G a)))) (hb : PW X (.BoolOp .Or (eb :: rest) pos) (rdT g W ks (tst (evE F G b)))) :
    PW X (.BoolOp .Or (ea :: eb :: rest) pos) (rdT g W ks (tst (evE F G (.or a b)))) := by
  refine ⟨fun wh pins s σ H Q I ⟨env, o, A, at_, h⟩ => (pw_or ha hb).run wh pins s σ H Q I ?_⟩
  unfold tst evE at h
  have h2 : Post ((evE F G a env o).bind fun x o1 => if truthy x then R.ok true o1 else tst (evE F G b) env o1) (fun d o' => ∀ H', Ext g.q H H' → Or g.q H' o' → Q d H') (Ew g W σ H) := by
    cases e : evE F G a env o <;> rw [e] at h <;> simp only [R.bind_ok, R.bind_ex, R.bind_bad] at h ⊢ <;> first | exact h | skip
    rename_i x o1
    by_cases t : truthy x = true
    · rw [if_pos t] at h ⊢
      simp only [R.bind_ok, t] at h
      exact h
    · rw [if_neg t] at h ⊢; exact h
  refine rdT.use (f := fun t o1 => if t then R.ok true o1 else tst (evE F G b) env o1) at_ (tst_bind h2) fun t o1 H1 e1 a1 h1 => ?_
  by_cases t' : t = true
  · rw [if_pos t'] at h1 ⊢
    exact h1 H1 e1 a1.or
  · rw [if_neg t'] at h1 ⊢
    exact ⟨env, o1, A, a1, h1.ext e1 fun _ _ z H' e' r' => z H' (e1.trans e') r'⟩
end O
end

section
set_option Elab.async false
set_option linter.all false
set_option maxRecDepth 100000
namespace O
open PySem PySem.Spec PyProof.Rows L2
variable {g : Gx} {W : WX} {ks : Nat → Nat} {σ : L2.St} {H H' : Hp} {env : Env} {o o' : OS} {A : Addr → Prop} {τ : Ty} {Q : VK} {X : Cx} {pins : List (Addr × Obj)} {s : Shared}
variable {F : Nat → List D → OS → R D} {G : Nat → D}
/-! ### arguments, displays -/
def notStar : Expr → Bool
  | .Starred .. => false
  | _ => true
theorem star_of {e : Expr} {es : List Expr} {env : PySem.Env} (h : notStar e = true) : starEach (e :: es) env = (false, eval e env) :: starEach es env := by
  cases e <;> first | rfl | (simp [notStar] at h)
theorem RepA.ext {kl : List Nat} : ∀ {kl : List Nat} {vs : List V} {ds : List D}, Ext g.q H H' → RepA g A H kl vs ds → RepA g A H' kl vs ds
  | [], _, _, _, h => h
  | k :: kl, _, _, e, ⟨v, r, d, es, h1, h2, h3, h4⟩ => ⟨v, r, d, es, h1, h2, h3.ext e, RepA.ext (kl := kl) e h4⟩
theorem a_nil : PA X [] (rdA g W ks [] (evEs F G .nil)) := by
  refine pa_nil.of fun σ H Q ⟨env, o, A, a, h⟩ => ?_
  unfold evEs at h
  exact h [] H .refl a.or ⟨rfl, rfl⟩
theorem a_cons {e : E} {es : Es} {ee : Expr} {ees : List Expr} {t : Ty} {kl : List Nat} (hs : notStar ee = true) (he : PE X ee (rdE g W ks t (evE F G e))) (hes : PA X ees (rdA g W ks kl (evEs F G es))) :
    PA X (ee :: ees) (rdA g W ks (t.k :: kl) (evEs F G (.cons e es))) := by
  refine (pa_cons he hes (star_of hs)).of fun σ H Q ⟨env, o, A, at_, h⟩ => ?_
  unfold evEs at h
  refine rdE.use at_ h fun d o1 v H1 e1 a1 r1 h1 => rdA.use a1 (h1.ext e1 fun _ _ z => z) fun ds o2 vs H2 e2 a2 r2 h2 => ?_
  exact h2 (v :: vs) H2 (e1.trans e2) a2.or ⟨v, vs, d, ds, rfl, rfl, r1.1.ext e2, r2⟩
/-- how deep a container is lent whose items are so -/
def upTo (kl : List Nat) : Nat := if kl.all (· == 0) then 0 else kl.foldl max 0 + 1
theorem foldl_max_le : ∀ (l : List Nat) (m : Nat), m ≤ l.foldl max m ∧ ∀ k ∈ l, k ≤ l.foldl max m
  | [], m => ⟨Nat.le_refl _, fun _ h => nomatch h⟩
  | a :: l, m => by
    obtain ⟨h1, h2⟩ := foldl_max_le l (max m a)
    have := Nat.le_max_left m a
    have := Nat.le_max_right m a
    refine ⟨by show m ≤ l.foldl max (max m a); omega, fun k hk => ?_⟩
    rcases List.mem_cons.mp hk with e | hk
    · subst e; show k ≤ l.foldl max (max m k); omega
    · exact h2 k hk
theorem upTo_le {kl : List Nat} {k : Nat} (h : k ∈ kl) : k ≤ upTo kl - 1 := by
  unfold upTo
  split
  · rename_i z
    have := List.all_eq_true.mp z k h
    simp only [beq_iff_eq] at this
    omega
  · have := (foldl_max_le kl 0).2 k h
    omega
theorem RepA.all : ∀ {kl : List Nat} {vs : List V} {ds : List D} {m : Nat}, (∀ k ∈ kl, k ≤ m) → RepA g A H kl vs ds → RepL g.K g.q A m H vs ds
  | [], _, _, _, _, ⟨h1, h2⟩ => by subst h1; subst h2; exact .nil
  | k :: kl, _, _, m, hm, ⟨v, r, d, es, h1, h2, h3, h4⟩ => by
    subst h1; subst h2
    exact .cons (h3.le (hm k List.mem_cons_self)) (RepA.all (fun j hj => hm j (List.mem_cons_of_mem _ hj)) h4)
theorem RepA.length : ∀ {kl : List Nat} {vs : List V} {ds : List D}, RepA g A H kl vs ds → vs.length = kl.length ∧ ds.length = kl.length
  | [], _, _, ⟨h1, h2⟩ => by subst h1; subst h2; exact ⟨rfl, rfl⟩
  | k :: kl, _, _, ⟨v, r, d, es, h1, h2, h3, h4⟩ => by
    subst h1; subst h2
    obtain ⟨h5, h6⟩ := RepA.length h4
    exact ⟨by simp [h5], by simp [h6]⟩
theorem c_tup {es : Es} {ees : List Expr} {x : Nat} {pos : Pos} {kl : List Nat} (h1000 : kl.length ≤ 1000) (hes : PA X ees (rdA g W ks kl (evEs F G es))) : PE X (.Tuple ees x pos) (rdE g W ks ⟨upTo kl, 0⟩ (evE F G (.tup es))) := by
  refine (pe_tup hes).of fun σ H Q ⟨env, o, A, at_, h⟩ => ?_
  unfold evE at h
  refine rdA.use at_ h fun ds o1 vs H1 e1 a1 r1 h1 => ⟨by rw [r1.length.1, lid_eq]; exact Nat.le_trans h1000 (by decide), fun p hp => ?_⟩
  exact h1 _ _ (e1.trans (.new hp)) (a1.or.new hp) (.plain (rep_tup hp (r1.all fun k hk => upTo_le hk)))
theorem c_lst {es : Es} {ees : List Expr} {pos : Pos} {kl : List Nat} (h1000 : kl.length ≤ 1000) (hes : PA X ees (rdA g W ks kl (evEs F G es))) : PE X (.List ees pos) (rdE g W ks ⟨upTo kl, fr1 (upTo kl)⟩ (evE F G (.lst es))) := by
  refine (pe_lst hes).of fun σ H Q ⟨env, o, A, at_, h⟩ => ?_
  unfold evE at h
  refine rdA.use at_ h fun ds o1 vs H1 e1 a1 r1 h1 => ⟨by rw [r1.length.1, lid_eq]; exact Nat.le_trans h1000 (by decide), fun p hp => ?_⟩
  exact h1 _ _ (e1.trans (.new hp)) (a1.or.new hp) (fresh1 e1 hp (r1.all fun k hk => upTo_le hk) a1.dom a1.or)
/-- [[]] -/
theorem c_nn {pos pos' : Pos} : PE X (.List [.List [] pos'] pos) (rdE g W ks ⟨0, 2⟩ (evE F G .nn)) := by
  refine (pe_lst (pa_cons (pe_lst pa_nil) pa_nil)).of fun σ H Q ⟨env, o, A, at_, h⟩ => ?_
  unfold evE at h
  refine ⟨by decide, fun p hp => ⟨by show 1 ≤ sizeLine; decide, fun r hr => ?_⟩⟩
  have rn : H r = none := Ext.free (q := g.q) (.new hp) hr
  have pr : p ≠ r := fun e => by subst e; rw [upd_same] at hr; cases hr
  have hq1 := (free_not at_.dom at_.or hp).2
  have hq2 := (free_not at_.dom at_.or rn).2
  refine h _ _ ((Ext.new hp).trans (.new hr)) ((at_.or.new hp).new hr) ⟨?_, fun _ => ⟨[r, p], ?_, by simp [pr.symm], fun b hb => ?_, ?_⟩⟩
  · refine rep_lst (A := A) (fun b hb => (Ext.new (q := g.q) hp).dom b (at_.dom b hb)) (at_.or.new hp) hr (.cons (rep_lst at_.dom at_.or hp .nil) .nil)
  · unfold OwnR
    refine ⟨r, [.ref p], [p], rfl, upd_same, rfl, ?_⟩
    unfold OwnL
    refine ⟨.ref p, [], [p], [], rfl, rfl, ?_, ?_⟩
    · unfold OwnR
      exact ⟨p, [], [], rfl, by rw [upd_ne pr, upd_same], rfl, ownL0 rfl⟩
    · unfold OwnL; exact ⟨rfl, rfl⟩
  · rcases List.mem_cons.mp hb with e | hb
    · subst e; exact ⟨rn, hq2⟩
    · have : b = p := by simpa using hb
      subst this; exact ⟨hp, hq1⟩
  · unfold Rep
    refine ⟨r, [.ref p], rfl, upd_same, hq2, fun z => absurd z (by decide), .cons ?_ .nil⟩
    unfold Rep
    exact ⟨p, [], rfl, by rw [upd_ne pr, upd_same], hq1, fun z => absurd z (by decide), .nil⟩

/-! ### calls of defs -/
def spF (g : Gx) (fe : List D → OS → R D) (kl : List Nat) (τ : Ty) : Sp := fun vs H Q E => ∃ ds o A, (∀ p, A p → H p ≠ none) ∧ Or g.q H o ∧ RepA g A H kl vs ds ∧
  Post (fe ds o) (fun d o' => ∀ v H', Ext g.q H H' → Or g.q H' o' → RepT g A τ H H' v d → Q v H') (fun c o' => ∀ dd H', Ext g.q H H' → Or g.q H' o' → E (g.ct c) dd H')
/-- the f-th def as a caller knows it -/
structure Def (X : Cx) (g : Gx) (n : Nat) (F : Nat → List D → OS → R D) (f : Nat) (x : PySem.Str) (kl : List Nat) (τ : Ty) : Prop where
  it : ∃ (a : Addr) (fd : FuncData) (ps : List PySem.Str), X.mg x = some (.ref a) ∧ PySem.W.keepIn X.K (.ref a) = true ∧ Binds X.K fd ps [] ∧ FnG X.prog X.w X.K X.mg X.base n a fd ps (spF g (F f) kl τ)
theorem noStars (es : List Expr) (env : PySem.Env) (pos : Pos) (h : es.all notStar = true) : (backTo pos (starEach es env)).any (·.1) = false := by
  induction es generalizing pos with
  | nil => rfl
  | cons e es ih =>
    rw [List.all_cons, Bool.and_eq_true] at h
    rw [star_of h.1]
    show (false || (backTo pos (starEach es env)).any (·.1)) = false
    rw [ih _ h.2]
    rfl
theorem call_read {f : Nat} {kl : List Nat} {es : Es} {t : TA} (ht : ∀ σ H Q, rdA g W ks kl (evEs F G es) σ H Q → t σ H Q) : ∀ σ H Q, rdE g W ks τ (evE F G (.call f es)) σ H Q → tCallG (spF g (F f) kl τ) W t σ H Q := fun σ H Q ⟨env, o, A, at_, h⟩ => by
  unfold evE at h
  refine ht _ _ _ (rdA.use at_ h fun ds o1 vs H1 e1 a1 r1 h1 => ⟨ds, o1, A, a1.dom, a1.or, r1, h1.mono (fun d o2 z v H' e2 or2 r2 => z v H' (e1.trans e2) or2 ⟨r2.1, fun q => ?_⟩) fun c o2 z dd H' e2 or2 => z dd H' (e1.trans e2) or2⟩)
  obtain ⟨O, h2, h3, h4, h5⟩ := r2.2 q
  exact ⟨O, h2, h3, fun p hp => ⟨e1.free (h4 p hp).1, (h4 p hp).2⟩, h5⟩
theorem c_call {n f : Nat} {x : PySem.Str} {kl : List Nat} {es : Es} {e : Expr} {ees : List Expr} {p pos : Pos} (d : Def X g n F f x kl τ) (hr : Room n X.A) (hgd : X.A.guards = some []) (tk : Takes X W) (hg : Gl X x) (hdb : (x == ("__debug__" : PySem.Str)) = false)
    (hs : (e :: ees).all notStar = true) (hes : PA X (e :: ees) (rdA g W ks kl (evEs F G es))) : PE X (.Call (.Name x p) (e :: ees) [] pos) (rdE g W ks τ (evE F G (.call f es))) := by
  obtain ⟨a, fd, ps, hm, hk, hb, hF⟩ := d.it
  rw [List.all_cons, Bool.and_eq_true] at hs
  exact (pe_callG hF hr hgd hg hm hk hb tk hes hdb (star_of hs.1) (noStars ees _ _ hs.2)).of (call_read fun _ _ _ z => z)
theorem c_call0 {n f : Nat} {x : PySem.Str} {p pos : Pos} (d : Def X g n F f x [] τ) (hr : Room n X.A) (hgd : X.A.guards = some []) (tk : Takes X W) (hg : Gl X x) (hdb : (x == ("__debug__" : PySem.Str)) = false) :
    PE X (.Call (.Name x p) [] [] pos) (rdE g W ks τ (evE F G (.call f .nil))) := by
  obtain ⟨a, fd, ps, hm, hk, hb, hF⟩ := d.it
  refine (pe_callG0 hF hr hgd hg hm hk hb tk hdb).of (call_read fun σ H Q ⟨env, o, A, at_, h⟩ => ?_)
  unfold evEs at h
  exact h [] H .refl at_.or ⟨rfl, rfl⟩
end O
end

section
set_option Elab.async false
set_option linter.all false
set_option maxRecDepth 100000
namespace O
open PySem PySem.Spec PyProof.Rows L2
variable {g : Gx} {W : WX} {ks : Nat → Nat} {σ : L2.St} {H H' : Hp} {env : Env} {o o' : OS} {A : Addr → Prop} {τ : Ty} {Q : VK} {X : Cx} {pins : List (Addr × Obj)} {s : Shared}
variable {F : Nat → List D → OS → R D} {G : Nat → D}
/-! ### signs of texts that are made -/
def okC (x : PySem.Str) : Prop := ∀ c ∈ x.cps.toList, c < 0x110000
theorem char_lt (c : Char) : c.toNat < 0x110000 := by
  have h := c.valid
  show c.val.toNat < _
  simp only [UInt32.isValidChar, Nat.isValidChar] at h
  omega
theorem okC_of (t : String) : okC (PySem.Str.ofString t) := by
  rw [PySem.Str.ofString_eq_toList]
  intro c hc
  simp only [List.mem_map] at hc
  obtain ⟨d, _, rfl⟩ := hc
  exact char_lt d
theorem okC.app {x y : PySem.Str} (h : okC x) (h' : okC y) : okC (x ++ y) := by
  intro c hc
  have : c ∈ x.cps.toList ++ y.cps.toList := by
    have e : (x ++ y).cps = x.cps ++ y.cps := rfl
    rw [e] at hc; simpa using hc
  rcases List.mem_append.mp this with z | z
  · exact h c z
  · exact h' c z
theorem okC_join {sep : PySem.Str} (hs : okC sep) : ∀ {l : List PySem.Str}, (∀ x ∈ l, okC x) → okC (PySem.Str.join sep l)
  | [], _ => fun c hc => by simp [PySem.Str.join, PySem.Str.empty] at hc
  | [x], h => h x List.mem_cons_self
  | x :: y :: r, h => by
    show okC (x ++ sep ++ PySem.Str.join sep (y :: r))
    exact ((h x List.mem_cons_self).app hs).app (okC_join hs fun z hz => h z (List.mem_cons_of_mem _ hz))
theorem okC_from : ∀ (l : List PySem.Str) (k : Nat) (acc : PySem.Str), okC acc → (∀ x ∈ l, okC x) → okC (textFrom k acc l)
  | [], _, _, h, _ => h
  | x :: r, k, acc, h, hl => okC_from r (k + 1) _ ((h.app (okC_of _)).app (hl x List.mem_cons_self)) fun z hz => hl z (List.mem_cons_of_mem _ hz)
theorem reprChar_lt {q c : Nat} (hc : c < 0x110000) : ∀ d ∈ Builtin.Str.reprChar q c, d < 0x110000 := by
  intro d hd
  have hex : ∀ (w : Nat), ∀ d ∈ (List.replicate (w - ((Nat.toDigits 16 c).map Char.toNat).length) 48 ++ (Nat.toDigits 16 c).map Char.toNat), d < 0x110000 := by
    intro w d hd
    rcases List.mem_append.mp hd with z | z
    · rw [List.eq_of_mem_replicate z]; decide
    · obtain ⟨e, _, rfl⟩ := List.mem_map.mp z
      exact char_lt e
  unfold Builtin.Str.reprChar at hd
  simp only at hd
  repeat' split at hd
  all_goals first
    | (simp only [List.mem_cons, List.not_mem_nil, or_false] at hd; rcases hd with rfl | rfl <;> first | exact hc | decide)
    | (simp only [List.mem_cons, List.not_mem_nil, or_false] at hd; subst hd; exact hc)
    | (rcases List.mem_append.mp hd with z | z
       · simp only [List.mem_cons, List.not_mem_nil, or_false] at z
         rcases z with rfl | rfl <;> decide
       · exact hex _ d z)
theorem okC_repr {x : PySem.Str} (h : okC x) : okC (reprText x) := by
  have hq : reprQuote x < 0x110000 := by unfold reprQuote; split <;> decide
  have fold : ∀ (l : List Nat) (acc : Array Nat), (∀ c ∈ l, c < 0x110000) → (∀ c ∈ acc.toList, c < 0x110000) → ∀ c ∈ (l.foldl (fun out c => out ++ (Builtin.Str.reprChar (reprQuote x) c).toArray) acc).toList, c < 0x110000 := by
    intro l
    induction l with
    | nil => intro acc _ ha; exact ha
    | cons a r ih =>
      intro acc hl ha
      refine ih _ (fun c hc => hl c (List.mem_cons_of_mem _ hc)) fun c hc => ?_
      simp only [Array.toList_append, List.mem_append] at hc
      rcases hc with hc | hc
      · exact ha c hc
      · exact reprChar_lt (hl a List.mem_cons_self) c (by simpa using hc)
  intro c hc
  unfold reprText at hc
  simp only [Array.toList_push, List.mem_append, List.mem_singleton] at hc
  rcases hc with hc | rfl
  · rw [← Array.foldl_toList] at hc
    exact fold x.cps.toList _ h (by simpa using hq) c hc
  · exact hq
mutual
theorem okC_shown {k : Nat} : ∀ (d : D) (v : V) (k : Nat), pure d = true → Rep g.K g.q A k H v d → okC (toPy d).shown
  | .non, _, _, _, _ => by simp only [toPy, PyData.shown]; exact okC_of _
  | .bl b, _, _, _, _ => by simp only [toPy, PyData.shown]; split <;> exact okC_of _
  | .int i, _, _, _, _ => by simp only [toPy, PyData.shown]; exact okC_of _
  | .str x, v, k, _, h => by
    unfold Rep at h
    simp only [toPy, PyData.shown]
    exact okC_repr fun c hc => h.2.1 c (by simpa using hc)
  | .tup ds, v, k, p, h => by
    unfold Rep at h
    obtain ⟨a, vs, _, _, h3⟩ := h
    simp only [toPy, PyData.shown]
    have z := okC_shownL (k := 0) ds vs (k - 1) (by simpa [pure] using p) h3
    unfold tupleText
    refine ((okC_of _).app (okC_join (okC_of _) z)).app ?_
    split <;> exact okC_of _
  | .lst ds, v, k, p, h => by
    unfold Rep at h
    obtain ⟨a, vs, _, _, _, _, h3⟩ := h
    simp only [toPy, PyData.shown]
    have z := okC_shownL (k := 0) ds vs (k - 1) (by simpa [pure] using p) h3
    unfold listText
    exact (okC_from _ _ _ (okC_of _) z).app (okC_of _)
  | .dct _, _, _, p, _ => by simp [pure] at p
  | .set _, _, _, p, _ => by simp [pure] at p
  | .fn _ _, _, _, p, _ => by simp [pure] at p
  | .src, _, _, p, _ => by simp [pure] at p
theorem okC_shownL {k : Nat} : ∀ (ds : List D) (vs : List V) (k : Nat), pureL ds = true → RepL g.K g.q A k H vs ds → ∀ x ∈ PyData.shownAll (toPyL ds), okC x
  | [], _, _, _, _ => by simp [toPyL, PyData.shownAll]
  | d :: ds, vs, k, p, h => by
    unfold RepL at h
    obtain ⟨v, r, rfl, h2, h3⟩ := h
    have p' : pure d = true ∧ pureL ds = true := by simpa [pureL] using p
    intro x hx
    simp only [toPyL, PyData.shownAll, List.mem_cons] at hx
    rcases hx with rfl | hx
    · exact okC_shown (k := 0) d v k p'.1 h2
    · exact okC_shownL (k := 0) ds r k p'.2 h3 x hx
end
theorem num_str (i : Int) : (PySem.Str.ofString (toString i)) = ⟨(numT i).toArray⟩ := by rw [PySem.Str.ofString_eq_toList]; rfl
theorem okS_num {i : Int} (h : i.natAbs.log2 < 1920) : okS (numT i) := by
  refine ⟨fun c hc => ?_, ?_⟩
  · unfold numT at hc
    obtain ⟨d, _, rfl⟩ := List.mem_map.mp hc
    exact char_lt d
  · have := PySem.int_text_fits h
    rw [num_str, len_str, lid_eq] at this
    exact this
end O
end

section
set_option Elab.async false
set_option linter.all false
set_option maxRecDepth 100000
namespace O
open PySem PySem.Spec PyProof.Rows L2 PySem.NumText
variable {g : Gx} {W : WX} {ks : Nat → Nat} {σ : L2.St} {H H' : Hp} {env : Env} {o o' : OS} {A : Addr → Prop} {τ : Ty} {Q : VK} {X : Cx} {pins : List (Addr × Obj)} {s : Shared}
variable {F : Nat → List D → OS → R D} {G : Nat → D}
/-! ### built-in functions -/
def BiOk (X : Cx) (g : Gx) (f : Value) (b : Bi) (ty : List Nat → Ty) : Prop :=
  CallR X f fun vs H Q => ∃ (A : Addr → Prop) (o : OS) (kl : List Nat) (ds : List D) (z : D), RepA g A H kl vs ds ∧ Or g.q H o ∧ (∀ p, A p → H p ≠ none) ∧ biD b ds = some z ∧
    ∀ v H', Ext g.q H H' → Or g.q H' o → RepT g A (ty kl) H H' v z → Q v H'
theorem bi_read {b : Bi} {ty : List Nat → Ty} {kl : List Nat} {es : Es} {r : List V → Hp → VK → Prop}
    (hr : ∀ vs H Q, (∃ (A : Addr → Prop) (o : OS) (kl : List Nat) (ds : List D) (z : D), RepA g A H kl vs ds ∧ Or g.q H o ∧ (∀ p, A p → H p ≠ none) ∧ biD b ds = some z ∧ ∀ v H', Ext g.q H H' → Or g.q H' o → RepT g A (ty kl) H H' v z → Q v H') → r vs H Q) :
    ∀ σ H Q, rdE g W ks (ty kl) (evE F G (.bi b es)) σ H Q → tCB r (rdA g W ks kl (evEs F G es)) σ H Q := fun σ H Q ⟨env, o, A, at_, h⟩ => by
  unfold evE at h
  refine rdA.use at_ h fun ds o1 vs H1 e1 a1 r1 h1 => hr vs H1 Q ?_
  obtain ⟨z, hz, hq⟩ := h1.of
  refine ⟨A, o1, kl, ds, z, r1, a1.or, a1.dom, hz, fun v H' e or' r => hq v H' (e1.trans e) or' ⟨r.1, fun q => ?_⟩⟩
  obtain ⟨O, h2, h3, h4, h5⟩ := r.2 q
  exact ⟨O, h2, h3, fun p hp => ⟨e1.free (h4 p hp).1, (h4 p hp).2⟩, h5⟩
theorem c_biB {b : Bi} {id : String} {ty : List Nat → Ty} {x : PySem.Str} {kl : List Nat} {es : Es} {e : Expr} {ees : List Expr} {p pos : Pos} (hb : BiOk X g (.builtin id) b ty) (hg : Gl X x) (hm : X.mg x = none) (hv : bootBuiltins x = some (.builtin id))
    (hn : x ≠ "__name__") (hdb : (x == ("__debug__" : PySem.Str)) = false) (hs : (e :: ees).all notStar = true) (hes : PA X (e :: ees) (rdA g W ks kl (evEs F G es))) :
    PE X (.Call (.Name x p) (e :: ees) [] pos) (rdE g W ks (ty kl) (evE F G (.bi b es))) := by
  rw [List.all_cons, Bool.and_eq_true] at hs
  exact (pe_callB hb hg hm hv hes hn hdb (star_of hs.1) (noStars _ _ _ hs.2)).of (bi_read fun _ _ _ h => h)
theorem c_biT {b : Bi} {T : String} {ty : List Nat → Ty} {x : PySem.Str} {kl : List Nat} {es : Es} {e : Expr} {ees : List Expr} {p pos : Pos} (hb : BiOk X g (.type T) b ty) (hg : Gl X x) (hm : X.mg x = none) (hv : bootBuiltins x = some (.type T))
    (hn : x ≠ "__name__") (hdb : (x == ("__debug__" : PySem.Str)) = false) (hs : (e :: ees).all notStar = true) (hes : PA X (e :: ees) (rdA g W ks kl (evEs F G es))) :
    PE X (.Call (.Name x p) (e :: ees) [] pos) (rdE g W ks (ty kl) (evE F G (.bi b es))) := by
  rw [List.all_cons, Bool.and_eq_true] at hs
  exact (pe_callTy hb hg hm hv hes hn hdb (star_of hs.1) (noStars _ _ _ hs.2)).of (bi_read fun _ _ _ h => h)
/-- one argument -/
theorem RepA.one {kl : List Nat} {vs : List V} {d : D} (h : RepA g A H kl vs [d]) : ∃ k v, kl = [k] ∧ vs = [v] ∧ Rep g.K g.q A k H v d := by
  match kl, h with
  | [], ⟨_, h⟩ => cases h
  | k :: kl, ⟨v, r, d', es, h1, h2, h3, h4⟩ =>
    injection h2 with e1 e2
    subst e1 e2
    have := h4.length
    cases kl with
    | nil =>
      obtain ⟨h5, _⟩ := h4
      subst h5
      exact ⟨k, v, rfl, h1, h3⟩
    | cons _ _ => simp at this
theorem RepA.two {kl : List Nat} {vs : List V} {d e : D} (h : RepA g A H kl vs [d, e]) : ∃ k j v u, kl = [k, j] ∧ vs = [v, u] ∧ Rep g.K g.q A k H v d ∧ Rep g.K g.q A j H u e := by
  match kl, h with
  | [], ⟨_, h⟩ => cases h
  | k :: kl, ⟨v, r, d', es, h1, h2, h3, h4⟩ =>
    injection h2 with e1 e2
    subst e1 e2
    obtain ⟨j, u, rfl, rfl, h6⟩ := RepA.one h4
    exact ⟨k, j, v, u, rfl, h1, h3, h6⟩
def t0 : List Nat → Ty := fun _ => ⟨0, 0⟩
theorem b_len (hK : X.K = g.K) : BiOk X g (.builtin "len") .len t0 := by
  intro pins s σ H xs us Q I rv ⟨A, o, kl, ds, z, ra, r, dom, hz, hq⟩
  match ds, hz, ra with
  | [], hz, _ => simp [biD] at hz
  | [d], hz, ra =>
    obtain ⟨k, v, rfl, rfl, rp⟩ := ra.one
    cases d <;> first | (simp [biD] at hz; done) | (unfold Rep at rp; exact rp.elim) | skip
    case str x =>
      simp only [biD, Option.some.injEq] at hz; subst hz
      unfold Rep at rp
      obtain ⟨rfl, ok⟩ := rp
      refine call_len_str pins s σ H _ us Q I rv ⟨_, rfl, by rw [len_str, lid_eq]; exact ok.2, ?_⟩
      rw [len_str]
      exact hq _ H .refl r (.plain rep_int)
    case tup x =>
      simp only [biD, Option.some.injEq] at hz; subst hz
      unfold Rep at rp
      obtain ⟨a, vs, rfl, h1, h2⟩ := rp
      refine call_len_seq pins s σ H _ us Q I rv ⟨a, vs, rfl, .inr (hK ▸ h1), ?_⟩
      rw [h2.length]
      exact hq _ H .refl r (.plain rep_int)
    case lst x =>
      simp only [biD, Option.some.injEq] at hz; subst hz
      unfold Rep at rp
      obtain ⟨a, vs, rfl, h1, _, _, h2⟩ := rp
      refine call_len_seq pins s σ H _ us Q I rv ⟨a, vs, rfl, .inl (SqL.of h1), ?_⟩
      rw [h2.length]
      exact hq _ H .refl r (.plain rep_int)
  | _ :: _ :: _, hz, _ => simp [biD] at hz
/-- a tuple or a list, by its items -/
theorem items_of (hK : X.K = g.K) {d : D} {v : V} {k : Nat} {ds : List D} (h : Rep g.K g.q A k H v d) (e : itemsD d = some ds) (ns : ∀ x, d ≠ .str x) : ∃ a vs, v = .ref a ∧ RepL g.K g.q A (k - 1) H vs ds ∧ ((d = .lst ds ∧ H a = some (.lst vs)) ∨ (d = .tup ds ∧ SqT X.K H a vs)) := by
  cases d <;> first | (simp [itemsD] at e; done) | skip
  case str x => exact absurd rfl (ns x)
  case tup x =>
    simp only [itemsD, Option.some.injEq] at e; subst e
    unfold Rep at h
    obtain ⟨a, vs, rfl, h1, h2⟩ := h
    exact ⟨a, vs, rfl, h2, .inr ⟨rfl, hK ▸ h1⟩⟩
  case lst x =>
    simp only [itemsD, Option.some.injEq] at e; subst e
    unfold Rep at h
    obtain ⟨a, vs, rfl, h1, _, _, h2⟩ := h
    exact ⟨a, vs, rfl, h2, .inl ⟨rfl, h1⟩⟩
  case dct => unfold Rep at h; exact h.elim
def tcl : List Nat → Ty := fun kl => ⟨cl (kl.headD 0), 0⟩
def tcf : List Nat → Ty := fun kl => ⟨cl (kl.headD 0), fr1 (cl (kl.headD 0))⟩
theorem rep_cl_tup {a : Addr} {vs : List V} {ds : List D} {k : Nat} (h : SqT g.K H a vs) (hl : RepL g.K g.q A (k - 1) H vs ds) : Rep g.K g.q A (cl k) H (.ref a) (.tup ds) := by
  unfold Rep
  exact ⟨a, vs, rfl, h, by rw [cl_sub]; exact hl⟩
theorem b_tuple (hK : X.K = g.K) : BiOk X g (.type "tuple") .tuple tcl := by
  intro pins s σ H xs us Q I rv ⟨A, o, kl, ds, z, ra, r, dom, hz, hq⟩
  match ds, hz, ra with
  | [], hz, _ => simp [biD] at hz
  | [d], hz, ra =>
    obtain ⟨k, v, rfl, rfl, rp⟩ := ra.one
    simp only [biD] at hz
    cases e : tupD d with
    | none => rw [e] at hz; cases hz
    | some es =>
      rw [e] at hz; cases hz
      have e' : itemsD d = some es ∧ ∀ x, d ≠ .str x := by
        cases d <;> first | (simp [tupD] at e; done) | (simp only [tupD, Option.some.injEq] at e; subst e; exact ⟨rfl, fun _ q => nomatch q⟩)
      obtain ⟨a, vs, rfl, hl, hc⟩ := items_of hK rp e'.1 e'.2
      refine call_tuple_of pins s σ H _ us Q I rv ⟨a, vs, rfl, ?_⟩
      rcases hc with ⟨_, hc⟩ | ⟨_, hc⟩
      · exact .inl ⟨SqL.of hc, fun p hp => hq _ _ (.new hp) (r.new hp) (.plain (rep_tup hp (by show RepL _ _ _ (cl k - 1) _ _ _; rw [cl_sub]; exact hl)))⟩
      · exact .inr ⟨hc, hq _ H .refl r (.plain (rep_cl_tup (hK ▸ hc) hl))⟩
  | _ :: _ :: _, hz, _ => simp [biD] at hz
theorem b_list (hK : X.K = g.K) : BiOk X g (.type "list") .list tcf := by
  intro pins s σ H xs us Q I rv ⟨A, o, kl, ds, z, ra, r, dom, hz, hq⟩
  match ds, hz, ra with
  | [], hz, _ => simp [biD] at hz
  | [d], hz, ra =>
    obtain ⟨k, v, rfl, rfl, rp⟩ := ra.one
    simp only [biD] at hz
    cases e : tupD d with
    | none => rw [e] at hz; cases hz
    | some es =>
      rw [e] at hz; cases hz
      have e' : itemsD d = some es ∧ ∀ x, d ≠ .str x := by
        cases d <;> first | (simp [tupD] at e; done) | (simp only [tupD, Option.some.injEq] at e; subst e; exact ⟨rfl, fun _ q => nomatch q⟩)
      obtain ⟨a, vs, rfl, hl, hc⟩ := items_of hK rp e'.1 e'.2
      refine call_list_of pins s σ H _ us Q I rv ⟨a, vs, rfl, ?_, fun p hp => hq _ _ (.new hp) (r.new hp) (fresh1 .refl hp (by show RepL _ _ _ (cl k - 1) _ _ _; rw [cl_sub]; exact hl) dom r)⟩
      rcases hc with ⟨_, hc⟩ | ⟨_, hc⟩
      · exact .inl (SqL.of hc)
      · exact .inr hc
  | _ :: _ :: _, hz, _ => simp [biD] at hz
theorem b_ord : BiOk X g (.builtin "ord") .ord t0 := by
  intro pins s σ H xs us Q I rv ⟨A, o, kl, ds, z, ra, r, dom, hz, hq⟩
  match ds, hz, ra with
  | [.str [c]], hz, ra =>
    obtain ⟨k, v, rfl, rfl, rp⟩ := ra.one
    simp only [biD, Option.some.injEq] at hz; subst hz
    unfold Rep at rp
    obtain ⟨rfl, ok⟩ := rp
    exact call_ord pins s σ H _ us Q I rv ⟨_, rfl, rfl, hq _ H .refl r (.plain rep_int)⟩
theorem b_abs : BiOk X g (.builtin "abs") .abs t0 := by
  intro pins s σ H xs us Q I rv ⟨A, o, kl, ds, z, ra, r, dom, hz, hq⟩
  match ds, hz, ra with
  | [.int i], hz, ra =>
    obtain ⟨k, v, rfl, rfl, rp⟩ := ra.one
    simp only [biD, Option.some.injEq] at hz; subst hz
    unfold Rep at rp; subst rp
    refine call_abs pins s σ H _ us Q I rv ⟨_, rfl, ?_⟩
    have e : (if i < 0 then -i else i) = (i.natAbs : Int) := by split <;> omega
    rw [e]
    exact hq _ H .refl r (.plain rep_int)
theorem b_min2 (hc : X.calm = true) : BiOk X g (.builtin "min") .min2 t0 := by
  intro pins s σ H xs us Q I rv ⟨A, o, kl, ds, z, ra, r, dom, hz, hq⟩
  match ds, hz, ra with
  | [.int i, .int j], hz, ra =>
    obtain ⟨k, k', v, u, rfl, rfl, rp, rp'⟩ := ra.two
    simp only [biD, Option.some.injEq] at hz; subst hz
    unfold Rep at rp rp'; subst rp; subst rp'
    refine call_min2 hc pins s σ H _ us Q I rv ⟨_, _, rfl, ?_⟩
    have e : (if j < i then j else i) = min i j := by rw [Int.min_def]; split <;> split <;> omega
    rw [e]
    exact hq _ H .refl r (.plain rep_int)
theorem b_max2 (hc : X.calm = true) : BiOk X g (.builtin "max") .max2 t0 := by
  intro pins s σ H xs us Q I rv ⟨A, o, kl, ds, z, ra, r, dom, hz, hq⟩
  match ds, hz, ra with
  | [.int i, .int j], hz, ra =>
    obtain ⟨k, k', v, u, rfl, rfl, rp, rp'⟩ := ra.two
    simp only [biD, Option.some.injEq] at hz; subst hz
    unfold Rep at rp rp'; subst rp; subst rp'
    refine call_max2 hc pins s σ H _ us Q I rv ⟨_, _, rfl, ?_⟩
    have e : (if j > i then j else i) = max i j := by rw [Int.max_def]; split <;> split <;> omega
    rw [e]
    exact hq _ H .refl r (.plain rep_int)
theorem intT_cases {x : List Nat} {n : Int} (h : intT x = some n) : (∃ r m, x = 45 :: r ∧ digs r = some m ∧ n = -(m : Int)) ∨ ∃ m, digs x = some m ∧ n = (m : Int) := by
  match x, h with
  | [], h => simp [intT, digs] at h
  | c :: r, h =>
    by_cases e : c = 45
    · subst e
      have h' : (digs r).map (fun n => -(n : Int)) = some n := h
      cases q : digs r with
      | none => rw [q] at h'; cases h'
      | some m => rw [q] at h'; cases h'; exact .inl ⟨r, m, rfl, q, rfl⟩
    · have h' : (digs (c :: r)).map (fun n => (n : Int)) = some n := by
        unfold intT at h
        split at h
        · rename_i q; cases q; exact absurd rfl e
        · exact h
      cases q : digs (c :: r) with
      | none => rw [q] at h'; cases h'
      | some m => rw [q] at h'; cases h'; exact .inr ⟨m, rfl, rfl⟩
theorem b_int : BiOk X g (.type "int") .int t0 := by
  intro pins s σ H xs us Q I rv ⟨A, o, kl, ds, z, ra, r, dom, hz, hq⟩
  match ds, hz, ra with
  | [.int i], hz, ra =>
    obtain ⟨k, v, rfl, rfl, rp⟩ := ra.one
    simp only [biD, Option.some.injEq] at hz; subst hz
    unfold Rep at rp; subst rp
    exact call_int1 pins s σ H _ us Q I rv (.inl ⟨_, rfl, hq _ H .refl r (.plain rep_int)⟩)
  | [.bl i], hz, ra =>
    obtain ⟨k, v, rfl, rfl, rp⟩ := ra.one
    simp only [biD, Option.some.injEq] at hz; subst hz
    unfold Rep at rp; subst rp
    exact call_int1 pins s σ H _ us Q I rv (.inr ⟨_, rfl, hq _ H .refl r (.plain rep_int)⟩)
  | [.str x], hz, ra =>
    obtain ⟨k, v, rfl, rfl, rp⟩ := ra.one
    simp only [biD] at hz
    have dig : ∀ {y : List Nat} {n : Nat}, digs y = some n → AllDigits y ∧ y ≠ [] ∧ y.length ≤ 600 ∧ n = digitsVal y := by
      intro y n h
      unfold digs at h
      split at h
      · rename_i c
        cases h
        refine ⟨fun c' hc => ?_, c.1, c.2.2, ?_⟩
        · have := List.all_eq_true.mp c.2.1 c' hc
          simpa [isDig] using this
        · unfold digV digitsVal
          congr 1
          funext a b
          rw [Nat.mul_comm]
      · cases h
    unfold Rep at rp
    obtain ⟨rfl, ok⟩ := rp
    cases e : intT x with
    | none => rw [e] at hz; cases hz
    | some n =>
      rw [e] at hz; cases hz
      rcases intT_cases e with ⟨rest, m, rfl, e2, rfl⟩ | ⟨m, e2, rfl⟩
      · obtain ⟨d1, d2, d3, rfl⟩ := dig e2
        refine call_int_str pins s σ H _ us Q I rv ⟨_, _, rfl, intText_neg (cs := rest) (by simp) d1 d2 ?_, ?_, hq _ H .refl r (.plain rep_int)⟩
        · rw [len_str, List.length_cons]; omega
        · rw [len_str, List.length_cons]; omega
      · obtain ⟨d1, d2, d3, rfl⟩ := dig e2
        refine call_int_str pins s σ H _ us Q I rv ⟨_, _, rfl, intText_digits (x := ⟨x.toArray⟩) (by simpa using d1) (by simpa using d2) ?_, ?_, ?_⟩
        · rw [len_str]; omega
        · rw [len_str]; omega
        · have := hq (.int ((digitsVal x : Nat) : Int)) H .refl r (.plain rep_int)
          simpa using this
theorem b_str : BiOk X g (.type "str") .str t0 := by
  intro pins s σ H xs us Q I rv ⟨A, o, kl, ds, z, ra, r, dom, hz, hq⟩
  match ds, hz, ra with
  | [.int i], hz, ra =>
    obtain ⟨k, v, rfl, rfl, rp⟩ := ra.one
    simp only [biD] at hz
    split at hz
    · rename_i c
      cases hz
      unfold Rep at rp; subst rp
      refine call_str_int pins s σ H _ us Q I rv ⟨_, rfl, c, ?_⟩
      rw [num_str]
      exact hq _ H .refl r (.plain (rep_str (okS_num c)))
    · cases hz
end O
end

section
set_option Elab.async false
set_option linter.all false
set_option maxRecDepth 100000
namespace O
open PySem PySem.Spec PyProof.Rows L2
variable {g : Gx} {W : WX} {ks : Nat → Nat} {σ : L2.St} {H H' : Hp} {env : Env} {o o' : OS} {A : Addr → Prop} {τ : Ty} {Q : VK} {X : Cx} {pins : List (Addr × Obj)} {s : Shared}
variable {F : Nat → List D → OS → R D} {G : Nat → D}
/-! ### what is walked -/
/-- J walks ds, though lists at M may change -/
def ItOk0 (g : Gx) (A : Addr → Prop) (j : Nat) (J : L2.It) (H1 : Hp) (ds : List D) : Prop :=
  ∀ M H, (∀ b, M b → (j = 0 ∧ A b) ∨ H1 b = none) → Chg g.q M H1 H → ∀ i, (ds.length ≤ i → J.stop i H) ∧
    ∀ d, ds[i]? = some d → J.go i H ∧ ∀ x H', J.yld i H x H' → Same H H' ∧ Rep g.K g.q A (j - 1) H' x d
/-- whatever free places are to be kept away from besides -/
def ItOk (g : Gx) (A : Addr → Prop) (j : Nat) (J : L2.It) (H1 : Hp) (ds : List D) : Prop := ∀ A', (∀ b, A' b → A b ∨ H1 b = none) → ItOk0 g A' j J H1 ds
def rdI (g : Gx) (W : WX) (ks : Nat → Nat) (j : Nat) (ev : Env → OS → R (List D)) : TI := fun σ H R => ∃ env o A, At g A ks σ H env o ∧
  Post (ev env o) (fun ds o' => ∀ J H', Ext g.q H H' → Or g.q H' o' → ItOk g A j J H' ds → R J H') (Ew g W σ H)
theorem SqT.chg {M : Addr → Prop} {K : PySem.W.Frag} {q : Option (Addr × Addr)} {a : Addr} {vs : List V} (c : Chg q M H H') (h : SqT K H a vs) : SqT K H' a vs := by
  rcases h with (h | ⟨o, h⟩) | h
  · exact .inl (.inl (c.tup _ _ h))
  · exact .inl (.inr ⟨o, c.frz _ _ _ h⟩)
  · exact .inr h
theorem lst_one {K : PySem.W.Frag} {a : Addr} {vs ws : List V} (h : H a = some (.lst vs)) (I : Inv X pins σ H s) (z : SqL X.K H a ws) : ws = vs := I.list_inj z (SqL.of h)
theorem same_refl : Same H H := fun _ _ h => h

theorem it_lst0 {a : Addr} {vs : List V} {ds : List D} {j : Nat} (h : Rep g.K g.q A j H (.ref a) (.lst ds)) (e : H a = some (.lst vs)) : ItOk0 g A j (Itl X.K a) H ds := by
  unfold Rep at h
  obtain ⟨a', vs', e1, h1, h2, h3, h4⟩ := h
  cases e1
  rw [e] at h1; cases h1
  intro M H2 hM c i
  have e2 : H2 a = some (.lst vs) := c.oth _ _ e h2 fun z => by
    rcases hM a z with ⟨y1, y2⟩ | y
    · exact h3 y1 y2
    · rw [e] at y; cases y
  have r2 := RepL.chg' c ds (j - 1) vs (fun b x => (hM b x).imp_left fun z => ⟨by omega, z.2⟩) h4
  refine ⟨fun hi => ⟨vs, SqL.of e2, by rw [r2.length]; exact hi⟩, fun d hd => ?_⟩
  obtain ⟨v, hv, rv⟩ := r2.get hd
  refine ⟨⟨vs, v, SqL.of e2, hv⟩, fun x H3 ⟨e3, y⟩ => ?_⟩
  subst e3
  have := y vs (SqL.of e2)
  rw [hv] at this; cases this
  exact ⟨fun _ _ z => z, rv⟩
theorem it_tup0 (hK : X.K = g.K) {a : Addr} {vs : List V} {ds : List D} {j : Nat} (e : SqT g.K H a vs) (h4 : RepL g.K g.q A (j - 1) H vs ds) : ItOk0 g A j (Itt X.K a) H ds := by
  intro M H2 hM c i
  have e2 : SqT X.K H2 a vs := hK ▸ SqT.chg c e
  have r2 := RepL.chg' c ds (j - 1) vs (fun b x => (hM b x).imp_left fun z => ⟨by omega, z.2⟩) h4
  refine ⟨fun hi => ⟨vs, e2, by rw [r2.length]; exact hi⟩, fun d hd => ?_⟩
  obtain ⟨v, hv, rv⟩ := r2.get hd
  refine ⟨⟨vs, v, e2, hv⟩, fun x H3 ⟨e3, y⟩ => ?_⟩
  subst e3
  have := y vs e2
  rw [hv] at this; cases this
  exact ⟨fun _ _ z => z, rv⟩
theorem it_str0 {x : List Nat} {j : Nat} (ok : okS x) : ItOk0 g A j (Its ⟨x.toArray⟩) H (x.map fun c => .str [c]) := by
  intro M H2 hM ch i
  refine ⟨fun hi => by show (x.toArray).size ≤ i; simpa using hi, fun d hd => ?_⟩
  rw [List.getElem?_map] at hd
  cases e : x[i]? with
  | none => rw [e] at hd; cases hd
  | some c =>
    rw [e] at hd; cases hd
    have hl := (List.getElem?_eq_some_iff.mp e).1
    refine ⟨by show i < (x.toArray).size; simpa using hl, fun y H3 ⟨e3, c', hc, hy⟩ => ?_⟩
    subst e3 hy
    have : x[i]? = some c' := by simpa using hc
    rw [e] at this; cases this
    refine ⟨fun _ _ z => z, ?_⟩
    unfold Rep
    exact ⟨rfl, fun k hk => by rw [List.mem_singleton.mp hk]; exact ok.1 c (List.mem_of_getElem? e), by show 1 ≤ lid; decide⟩
theorem it_lst {a : Addr} {vs : List V} {ds : List D} {j : Nat} (h : Rep g.K g.q A j H (.ref a) (.lst ds)) (e : H a = some (.lst vs)) : ItOk g A j (Itl X.K a) H ds := fun _ hA => it_lst0 (Rep.grow hA _ _ _ h) e
theorem it_tup (hK : X.K = g.K) {a : Addr} {vs : List V} {ds : List D} {j : Nat} (e : SqT g.K H a vs) (h4 : RepL g.K g.q A (j - 1) H vs ds) : ItOk g A j (Itt X.K a) H ds := fun _ hA => it_tup0 hK e (RepL.grow hA h4)
theorem it_str {x : List Nat} {j : Nat} (ok : okS x) : ItOk g A j (Its ⟨x.toArray⟩) H (x.map fun c => .str [c]) := fun _ _ => it_str0 ok
/-- over a list, a tuple or a text, whichever has come -/
def iSeq (K : PySem.W.Frag) (tl : TE) : TI := fun σ H R => tl σ H fun x H1 => (∃ a, x = .ref a ∧ (∃ xs, SqL K H1 a xs) ∧ R (Itl K a) H1) ∨ (∃ a, x = .ref a ∧ (∃ xs, SqT K H1 a xs) ∧ R (Itt K a) H1) ∨ ∃ y, x = .str y ∧ R (Its y) H1
theorem pi_seq {tg l : Expr} {tl : TE} (hl : PE X l tl) : PI X tg l (iSeq X.K tl) := by
  refine ⟨fun pins s σ H R I h => thn (hl.run pins s σ H _ I h) fun v s1 ⟨x, H1, I1, r1, q1⟩ => ?_⟩
  have one : ∀ b, b ∈ [s1.heap.objs.size] → FpOk X pins H1 b := fun b hb => by
    rw [List.mem_singleton.mp hb]
    exact I1.fpOk (Nat.le_refl _) (I1.hok.fresh (Nat.le_refl _))
  have kept : ∀ o : Obj, Inv X pins σ H1 { s1 with heap := s1.heap.push o } := fun o => I1.kept (t' := s1.toks) fun b u e => Heap.get?_push_of_some _ e
  rcases q1 with ⟨a, rfl, ⟨xs, hq⟩, q⟩ | ⟨a, rfl, ⟨xs, hq⟩, q⟩ | ⟨y, rfl, q⟩
  · cases r1
    obtain ⟨its, rv, p, hz⟩ := I1.list hq
    exact wpAny_pyIter_list p.isList ⟨_, [s1.heap.objs.size], _, _, H1, rfl, kept _, turn_list a _, ⟨_, Heap.get?_push_size _ rfl, rfl, rfl⟩, one, q⟩
  · cases r1
    obtain ⟨its, rv, p, hz⟩ := I1.tuple hq
    exact wpAny_pyIter_tuple (show s1.heap.IsTuple a its.toArray from p) ⟨_, [s1.heap.objs.size], _, _, H1, rfl, kept _, turn_tuple a _, ⟨_, Heap.get?_push_size _ rfl, rfl, rfl⟩, one, q⟩
  · obtain ⟨t, rfl⟩ := r1
    cases asc : y.cps.all (· < 128)
    · exact wpAny_pyIter_wide asc (pi_one (tk := s1.toks) I1 _ (turn_str _ y t "str_iterator" (.inr rfl)) ⟨_, Heap.get?_push_size _ rfl, rfl, rfl⟩ q)
    · exact wpAny_pyIter_ascii asc (pi_one (tk := s1.toks) I1 _ (turn_str _ y t "str_ascii_iterator" (.inl rfl)) ⟨_, Heap.get?_push_size _ rfl, rfl, rfl⟩ q)
theorem i_seq (hK : X.K = g.K) {tg : Expr} {a : E} {ea : Expr} {ta : Ty} (ha : PE X ea (rdE g W ks ta (evE F G a))) : PI X tg ea (rdI g W ks ta.k (evI F G (.e a))) := by
  have hp := pi_seq (tg := tg) ha
  refine ⟨fun pins s σ H R I ⟨env, o, A, at_, h⟩ => hp.run pins s σ H R I ?_⟩
  unfold evI at h
  refine rdE.use at_ h fun d o1 v H1 e1 a1 r1 h1 => ?_
  obtain ⟨ds, hz, hq⟩ := h1.of
  have r := r1.1
  cases d <;> first | (simp [itemsD] at hz; done) | skip
  case str x =>
    simp only [itemsD, Option.some.injEq] at hz; subst hz
    unfold Rep at r
    obtain ⟨rfl, ok⟩ := r
    exact .inr (.inr ⟨_, rfl, hq _ H1 e1 a1.or (it_str ok)⟩)
  case tup x =>
    simp only [itemsD, Option.some.injEq] at hz; subst hz
    unfold Rep at r
    obtain ⟨a, vs, rfl, h1, h2⟩ := r
    exact .inr (.inl ⟨a, rfl, ⟨vs, hK ▸ h1⟩, hq _ H1 e1 a1.or (it_tup hK h1 h2)⟩)
  case lst x =>
    simp only [itemsD, Option.some.injEq] at hz; subst hz
    have r' := r
    unfold Rep at r
    obtain ⟨a, vs, rfl, h1, _⟩ := r
    exact .inl ⟨a, rfl, ⟨vs, SqL.of h1⟩, hq _ H1 e1 a1.or (it_lst r' h1)⟩
  case dct => unfold Rep at r; exact r.elim
theorem it_rng0 {lo : Int} {n j : Nat} : ItOk0 g A j (Itr lo n) H (range lo n) := by
  intro M H2 hM c i
  unfold range
  rw [List.length_map, List.length_range]
  refine ⟨fun hi => hi, fun d hd => ?_⟩
  rw [List.getElem?_map] at hd
  by_cases h : i < n
  · rw [List.getElem?_range h] at hd
    cases hd
    refine ⟨h, fun x H3 ⟨e3, y⟩ => ?_⟩
    subst e3 y
    exact ⟨fun _ _ z => z, rep_int⟩
  · rw [List.getElem?_eq_none (by rw [List.length_range]; omega)] at hd; cases hd
theorem it_rng {lo : Int} {n j : Nat} : ItOk g A j (Itr lo n) H (range lo n) := fun _ _ => it_rng0
theorem isInt_some {d : D} {i : Int} (h : isInt d = some i) : d = .int i := by
  cases d <;> simp only [isInt, Option.some.injEq, reduceCtorEq] at h
  rw [h]
theorem rngOk_iff {i : Int} (h : rngOk i = true) : -(2 ^ 62) ≤ i ∧ i < 2 ^ 62 := by simpa [rngOk] using h
theorem i_r1 {tg : Expr} {a : E} {ea : Expr} {ta : Ty} {p pos : Pos} (hg : Gl X "range") (hm : X.mg "range" = none) (hs : notStar ea = true) (ha : PE X ea (rdE g W ks ta (evE F G a))) :
    PI X tg (.Call (.Name "range" p) [ea] [] pos) (rdI g W ks 0 (evI F G (.r1 a))) := by
  have hp := pi_range1 (tg := tg) (p := p) (pos := pos) hg hm (pa_cons ha pa_nil (star_of hs)) (star_of hs)
  refine ⟨fun pins s σ H R I ⟨env, o, A, at_, h⟩ => hp.run pins s σ H R I ?_⟩
  unfold evI at h
  refine rdE.use at_ h fun d o1 v H1 e1 a1 r1 h1 => ?_
  obtain ⟨i, hi, hq⟩ := h1.ofb
  have := isInt_some hi; subst this
  have r := r1.1
  unfold Rep at r; subst r
  split at hq
  · rename_i c
    obtain ⟨c1, c2⟩ := rngOk_iff c
    exact ⟨i, rfl, c1, c2, hq _ H1 e1 a1.or it_rng⟩
  · exact hq.elim
theorem i_r2 {tg : Expr} {a b : E} {ea eb : Expr} {ta tb : Ty} {p pos : Pos} (hg : Gl X "range") (hm : X.mg "range" = none) (hs : notStar ea = true) (hs2 : notStar eb = true) (ha : PE X ea (rdE g W ks ta (evE F G a))) (hb : PE X eb (rdE g W ks tb (evE F G b))) :
    PI X tg (.Call (.Name "range" p) [ea, eb] [] pos) (rdI g W ks 0 (evI F G (.r2 a b))) := by
  have hp := pi_range2 (tg := tg) (p := p) (pos := pos) hg hm (pa_cons ha (pa_cons hb pa_nil (star_of hs2)) (star_of hs)) (by rw [star_of hs, star_of hs2]; rfl) (star_of hs2)
  refine ⟨fun pins s σ H R I ⟨env, o, A, at_, h⟩ => hp.run pins s σ H R I ?_⟩
  unfold evI at h
  refine rdE.use at_ h fun d o1 v H1 e1 a1 r1 h1 => rdE.use a1 (h1.ext e1 fun _ _ z => z) fun d2 o2 v2 H2 e2 a2 r2 h2 => ?_
  obtain ⟨i, hi, hq⟩ := h2.ofb
  obtain ⟨j, hj, hq2⟩ := hq.ofb
  have := isInt_some hi; subst this
  have := isInt_some hj; subst this
  have r := r1.1
  have r' := r2.1
  unfold Rep at r r'; subst r; subst r'
  split at hq2
  · rename_i c
    rw [Bool.and_eq_true] at c
    obtain ⟨c1, c2⟩ := rngOk_iff c.1
    obtain ⟨c3, c4⟩ := rngOk_iff c.2
    exact ⟨i, j, rfl, ⟨c1, c2, c3, c4⟩, hq2 _ H2 (e1.trans e2) a2.or it_rng⟩
  · exact hq2.elim
end O
end

section
set_option Elab.async false
set_option linter.all false
set_option maxRecDepth 100000
/-! enumerate(v) over a tuple or a list. -/
namespace O
open PySem PySem.Spec PyProof.Rows L2
set_option maxHeartbeats 1000000 in
/-- what enumerate makes of one thing that can be walked -/
theorem meets_enum1 {v : Value} {o : Obj} {Hh : Heap → Prop} (B : Begins v o Hh) :
    Meets (Builtin.«enumerate.__new__» ⟨[.type "enumerate", v], []⟩) (fun _ R s => Hh s.heap ∧
      R (.ok (.ret (.ref (s.heap.push o).objs.size))) { s with heap := (s.heap.push o).push { cls := .type "enumerate", data := .fields #[.none, .bool false, .ref s.heap.objs.size, rawInt 0, .none, .none] } }) :=
  .of_wp fun prog w A R s h => by
    obtain ⟨hp, gl, ds, tk, os⟩ := s
    obtain ⟨h1, h⟩ := h
    have hsub := sub_enumerate
    have q1 : ∀ {A' : Around} {E : Value → Shared → Prop} {Q : Value → Shared → Prop}, Q (.ref hp.objs.size) ⟨hp.push o, gl, ds, tk, os⟩ → wpAny (model prog w) A' (pyIter v) Q E ⟨hp, gl, ds, tk, os⟩ :=
      fun q => B.iter prog w _ _ ⟨hp, gl, ds, tk, os⟩ _ h1 q
    wp_walk using q1
    refine wpAny_stack_any fun _ => wpAny_pure ?_
    split
    · rename_i c _ _ _ _ _
      cases (c == Value.type "enumerate") <;> (wp_walk using q1; exact ⟨_, rfl, h⟩)
    · wp_walk using q1
      exact ⟨_, rfl, h⟩
theorem call_enum1 {prog : Program} {w : World} {A : Around} {E : Value → Shared → Prop} {s : Shared} {v : Value} {o : Obj} {Hh : Heap → Prop} {Q : Value → Shared → Prop} (B : Begins v o Hh) (h1 : Hh s.heap)
    (h : ∀ h', IsEnum h' (s.heap.objs.size + 1) s.heap.objs.size 0 .none → h'.get? s.heap.objs.size = some o → (∀ b u, s.heap.get? b = some u → h'.get? b = some u) → Q (.ref (s.heap.objs.size + 1)) { s with heap := h' }) :
    wpAny (model prog w) A (call (.type "enumerate") [v]) Q E s := by
  refine callType_new F.called_enumerate (by decide) (F.typeCall_enumerate_1 _) (F.newCall_enumerate_1 _) (fun x => F.args_object_init_2 x _) F.entry_enumerate_new (meets_enum1 B) ⟨h1, ?_⟩
  have hz : (s.heap.push o).objs.size = s.heap.objs.size + 1 := Heap.size_push ..
  show _ ∧ _
  rw [hz]
  have he := Heap.get?_push_size (s.heap.push o) (o := { cls := .type "enumerate", data := .fields #[.none, .bool false, .ref s.heap.objs.size, rawInt 0, .none, .none] }) rfl
  rw [hz] at he
  exact ⟨⟨_, he, rfl⟩, h _ he (Heap.get?_push_of_some _ (Heap.get?_push_size _ B.free)) fun b u x => Heap.get?_push_of_some _ (Heap.get?_push_of_some _ x)⟩
theorem pyNext_enumT_end {prog : Program} {w : World} {A : Around} {E : Value → Shared → Prop} {s : Shared} {e it a : Addr} {i : Nat} {c : Int} {items : Array Value} {old : Value} {Q : Option Value → Shared → Prop} (hh : A.handled = none)
    (he : IsEnum s.heap e it c old) (hit : s.heap.IsTupleIter it a i) (ht : s.heap.IsTuple a items) (nai : a ≠ it) (hx : items[i]? = none)
    (hQ : ∀ h', Heap.ExtBut it s.heap h' → Q none { s with heap := h' }) : wpAny (model prog w) A (pyNext (.ref e)) Q E s := by
  have ty : s.TypeIs (.ref e) "enumerate" := ⟨_, he, rfl⟩
  unfold pyNext
  refine wpAny_bind (wpAny_attempt (wpAny_callSpecial?_slot (name := Str.ofString "__next__") ty F.slot_enumerate_next
    (wpAny_call_entry F.slot_enumerate_next ty F.entry_enumerate_next ?w (F.args_enumerate_next_1 _))))
  show wpAny _ _ (field (Value.ref e) 2 >>= _) _ _ s
  refine wpAny_bind (wpAny_field he rfl (x := .ref it) rfl (wpAny_bind (wpAny_nextOf_tuple_end hh hit ht hx fun h' x eb ⟨o, ho, hc⟩ => ?_)))
  exact wpAny_bind (wpAny_isInstance (T := "StopIteration") (b := true) ⟨o, ho, hc⟩ isSubtype_stop (wpAny_pure (hQ _ eb)))
def IteT (K : PySem.W.Frag) (a : Addr) : L2.It :=
  ⟨fun i H => ∃ xs x, SqT K H a xs ∧ xs[i]? = some x, fun i H v H' => ∃ T x, v = .ref T ∧ H T = none ∧ H' = upd H T (.tup [.int (i : Nat), x]) ∧ ∀ xs, SqT K H a xs → xs[i]? = some x, fun i H => ∃ xs, SqT K H a xs ∧ xs.length ≤ i⟩
theorem turn_enumT {P : Program} {w : World} {K : PySem.W.Frag} {elts : List Expr} {kk : Nat} {tpos : Pos} (a e it : Addr) (nae : a ≠ e) (nai : a ≠ it) :
    Turn P w K (.Tuple elts kk tpos) (IteT K a) [e, it] e (fun i h => (∃ old, IsEnum h e it ((i : Nat) : Int) old) ∧ h.IsTupleIter it a i ∧ e ≠ it) where
  mem := by simp
  obj := fun i h st b hb => by
    obtain ⟨⟨old, he⟩, ⟨o, ho, hc, hd⟩, _⟩ := st
    have e' : b = e ∨ b = it := by simpa using hb
    rcases e' with rfl | rfl
    · exact ⟨_, he, fun v q => nomatch q⟩
    · exact ⟨o, ho, fun v q => by rw [hd] at q; cases q⟩
  keep := fun i h h' st k => let ⟨⟨old, he⟩, hi, hne⟩ := st; ⟨⟨old, k e (by simp) _ he⟩, hi.at fun o q => k it (by simp) o q, hne⟩
  item := by
    intro X hP hw hK hc i pins s σ H E I hf st hg
    subst hP hw hK
    obtain ⟨⟨old, he⟩, hit, hne⟩ := st
    obtain ⟨xs, x, hq, hx⟩ := hg
    obtain ⟨its, rv, p, hz⟩ := I.tuple hq
    obtain ⟨u, hu, ru⟩ := rv.get hx
    have hel : e < s.heap.objs.size := Heap.lt_size he
    have hil : it < s.heap.objs.size := by obtain ⟨_, q, _⟩ := hit; exact Heap.lt_size q
    have hlt : i < its.toArray.size := by
      have := (List.getElem?_eq_some_iff.mp hu).1
      simpa using this
    have D := Draws.tuple (prog := X.prog) (w := X.w) (A := X.A.in1) (I.ok.hd hc) it a nai its.toArray
    refine wpAny_pyNext_enum_itemD (old := old) (n := its.toArray.size) D (i := i) he ⟨hit, p⟩ hlt hne (by simp [hne, nae.symm]) fun y h' tk hy ho hst hT hsz hk => ?_
    have ey : y = u := by
      have : its[i]? = some y := by simpa using hy
      rw [hu] at this; cases this; rfl
    subst ey
    refine ⟨_, rfl, wpAny_letOwnedTupleGo_enum (s := { s with heap := h', toks := tk + 1 }) ho fun h'' he' sb => ?_⟩
    have hT2 : h''.get? s.heap.objs.size = some { cls := .type "tuple", data := .seq #[.int i tk, y] } := (sb.2 _ (Nat.ne_of_gt hel)).trans hT
    have new : ObjOk X.prog X.w (upd H s.heap.objs.size (.tup [.int (i : Nat), x])) h'' s.heap.objs.size (.tup [.int (i : Nat), x]) :=
      ⟨by show 2 ≤ sizeLine; decide, [.int i tk, y], .cons ⟨_, rfl⟩ (.cons ru .nil), ⟨_, hT2, rfl, _, rfl⟩⟩
    have I1 : Inv X pins σ (upd H s.heap.objs.size (.tup [.int (i : Nat), x])) { s with heap := h'', toks := tk + 1 } :=
      I.turnedNew (ch := [e, it]) (fun b ob hb q => (sb.2 b (fun z => hb (by simp [z]))).trans (hk b ob (fun z => hb (by simp [z])) (fun z => hb (by simp [z])) q)) hf (Nat.le_refl _) new
    refine ⟨.ref s.heap.objs.size, _, I1, rfl, ⟨_, x, rfl, I.hok.fresh (Nat.le_refl _), rfl, fun ys hy => by rw [I.tuple_inj hy hq]; exact hx⟩, ⟨⟨y, ?_⟩, hst.1.at fun o q => (sb.2 it (Ne.symm hne)).trans q, hne⟩, fun b hb => ?_⟩
    · have e1 : ((i + 1 : Nat) : Int) = (i : Int) + 1 := by omega
      rw [e1]; exact he'
    · have hb' : b < s.heap.objs.size := by
        have e' : b = e ∨ b = it := by simpa using hb
        rcases e' with rfl | rfl
        · exact hel
        · exact hil
      rw [upd_ne (Nat.ne_of_lt hb')]
      exact (hf b hb).1
  done := by
    intro X hP hw hK hc i pins s σ H E I hf st hg
    subst hP hw hK
    obtain ⟨⟨old, he⟩, hit, hne⟩ := st
    obtain ⟨xs, hq, hx⟩ := hg
    obtain ⟨its, rv, p, hz⟩ := I.tuple hq
    obtain ⟨f0, f1, f2, f3, f4, f5⟩ := hf it (by simp)
    have hl := rv.length
    have hit' : s.heap.IsTupleIter it a i := hit
    exact pyNext_enumT_end (I.ok.hd hc) he hit' p nai (by simp; omega) fun h' eb => ⟨rfl, I.turned (t' := s.toks) (fun b o hb q => eb b o hb q) f0 f1 f3 f4 f5⟩
  self := fun A i s Q E st h => let ⟨⟨_, he⟩, _⟩ := st; wpAny_pyIter_enum he h

variable {g : Gx} {W : WX} {ks : Nat → Nat} {A : Addr → Prop} {X : Cx} {H : Hp} {F : Nat → List D → OS → R D} {G : Nat → D}
def iEn (K : PySem.W.Frag) (ta : TA) : TI := fun σ H R => ta σ H fun vs H1 => ∃ a, vs = [.ref a] ∧ ((∃ xs, SqL K H1 a xs ∧ R (Ite K a) H1) ∨ ∃ xs, SqT K H1 a xs ∧ R (IteT K a) H1)
theorem pi_en {e : Expr} {ta : TA} {p pos tpos : Pos} {elts : List Expr} {kk : Nat} (hg : Gl X "enumerate") (hm : X.mg "enumerate" = none) (ha : PA X [e] ta) (hs : starEach [e] X.env = [(false, eval e X.env)]) :
    PI X (.Tuple elts kk tpos) (.Call (.Name "enumerate" p) [e] [] pos) (iEn X.K ta) := by
  constructor
  intro pins s σ H R I h
  refine Call_ (ld_blt I hg hm boot_enumerate (PyProof.Rows.callWith_type1 (thn (ha.run pos pins s σ H _ I h) fun us s1 ⟨vs, H1, I1, r1, a, ex, q1⟩ => ?_) hs rfl))
  subst ex
  cases r1 with
  | cons r rr =>
    cases rr
    cases r
    have young : ∀ b ∈ [s1.heap.objs.size + 1, s1.heap.objs.size], FpOk X pins H1 b := fun b hb => by
      have e' : b = s1.heap.objs.size + 1 ∨ b = s1.heap.objs.size := by simpa using hb
      have hle : s1.heap.objs.size ≤ b := by omega
      exact I1.fpOk hle (I1.hok.fresh hle)
    rcases q1 with ⟨xs, hq, q⟩ | ⟨xs, hq, q⟩
    · obtain ⟨its, rv, p', hz⟩ := I1.list hq
      refine call_enum1 (begins_list a its.toArray) p'.isList fun h' he hit hk => wpAny_pyIter_enum he ?_
      exact ⟨_, [s1.heap.objs.size + 1, s1.heap.objs.size], _, _, H1, rfl, I1.kept (t' := s1.toks) hk, turn_enum a _ s1.heap.objs.size, ⟨⟨.none, he⟩, ⟨_, hit, rfl, rfl⟩, Nat.succ_ne_self _⟩, young, q⟩
    · obtain ⟨its, rv, p', hz⟩ := I1.tuple hq
      have hl : a < s1.heap.objs.size := by
        obtain ⟨u, hu, _⟩ := id p'
        exact Heap.lt_size hu
      refine call_enum1 (begins_tuple a its.toArray) p' fun h' he hit hk => wpAny_pyIter_enum he ?_
      exact ⟨_, [s1.heap.objs.size + 1, s1.heap.objs.size], _, _, H1, rfl, I1.kept (t' := s1.toks) hk, turn_enumT a (s1.heap.objs.size + 1) s1.heap.objs.size (Nat.ne_of_lt (Nat.lt_succ_of_lt hl)) (Nat.ne_of_lt hl), ⟨⟨.none, he⟩, ⟨_, hit, rfl, rfl⟩, Nat.succ_ne_self _⟩, young, q⟩
theorem rep_pair {T : Addr} {x y : V} {d e : D} (hT : H T = none) (rx : Rep g.K g.q A 0 H x d) (ry : Rep g.K g.q A 0 H y e) : Rep g.K g.q A 0 (upd H T (.tup [x, y])) (.ref T) (.tup [d, e]) := rep_tup hT (.cons rx (.cons ry .nil))
theorem getZip {ds : List D} {i : Nat} {d : D} (h : (ds.zipIdx.map fun p => D.tup [.int p.2, p.1])[i]? = some d) : ∃ e, ds[i]? = some e ∧ d = .tup [.int i, e] := by
  rw [List.getElem?_map, List.getElem?_zipIdx] at h
  cases e : ds[i]? with
  | none => rw [e] at h; cases h
  | some x => rw [e] at h; simp at h; exact ⟨x, rfl, h.symm⟩
theorem it_enL0 {a : Addr} {vs : List V} {ds : List D} {j : Nat} (hj : j = 0) (h : Rep g.K g.q A j H (.ref a) (.lst ds)) (e : H a = some (.lst vs)) : ItOk0 g A j (Ite X.K a) H (ds.zipIdx.map fun p => .tup [.int p.2, p.1]) := by
  subst hj
  unfold Rep at h
  obtain ⟨a', vs', e1, h1, h2, h3, h4⟩ := h
  cases e1
  rw [e] at h1; cases h1
  intro M H2 hM c i
  have e2 : H2 a = some (.lst vs) := c.oth _ _ e h2 fun z => by
    rcases hM a z with ⟨y1, y2⟩ | y
    · exact h3 y1 y2
    · rw [e] at y; cases y
  have r2 := RepL.chg' c ds 0 vs hM h4
  refine ⟨fun hi => ⟨vs, SqL.of e2, by rw [r2.length]; simpa using hi⟩, fun d hd => ?_⟩
  obtain ⟨d', hd', rfl⟩ := getZip hd
  obtain ⟨v, hv, rv⟩ := r2.get hd'
  refine ⟨⟨vs, v, SqL.of e2, hv⟩, fun x H3 ⟨T, y, ex, hT, e3, hy⟩ => ?_⟩
  subst e3 ex
  have := hy vs (SqL.of e2)
  rw [hv] at this; cases this
  exact ⟨same_upd hT, rep_pair hT rep_int rv⟩
theorem it_enT0 (hK : X.K = g.K) {a : Addr} {vs : List V} {ds : List D} {j : Nat} (hj : j = 0) (e : SqT g.K H a vs) (h4 : RepL g.K g.q A (j - 1) H vs ds) : ItOk0 g A j (IteT X.K a) H (ds.zipIdx.map fun p => .tup [.int p.2, p.1]) := by
  subst hj
  intro M H2 hM c i
  have e2 : SqT X.K H2 a vs := hK ▸ SqT.chg c e
  have r2 := RepL.chg' c ds 0 vs hM h4
  refine ⟨fun hi => ⟨vs, e2, by rw [r2.length]; simpa using hi⟩, fun d hd => ?_⟩
  obtain ⟨d', hd', rfl⟩ := getZip hd
  obtain ⟨v, hv, rv⟩ := r2.get hd'
  refine ⟨⟨vs, v, e2, hv⟩, fun x H3 ⟨T, y, ex, hT, e3, hy⟩ => ?_⟩
  subst e3 ex
  have := hy vs e2
  rw [hv] at this; cases this
  exact ⟨same_upd hT, rep_pair hT rep_int rv⟩
theorem i_en (hK : X.K = g.K) {a : E} {ea : Expr} {ta : Ty} {p pos tpos : Pos} {elts : List Expr} {kk : Nat} (h0 : ta.k = 0) (hg : Gl X "enumerate") (hm : X.mg "enumerate" = none) (hs : notStar ea = true) (ha : PE X ea (rdE g W ks ta (evE F G a))) :
    PI X (.Tuple elts kk tpos) (.Call (.Name "enumerate" p) [ea] [] pos) (rdI g W ks 0 (evI F G (.en a))) := by
  have hp := pi_en (p := p) (pos := pos) (tpos := tpos) (elts := elts) (kk := kk) hg hm (pa_cons ha pa_nil (star_of hs)) (star_of hs)
  refine ⟨fun pins s σ H R I ⟨env, o, A, at_, h⟩ => hp.run pins s σ H R I ?_⟩
  unfold evI at h
  refine rdE.use at_ h fun d o1 v H1 e1 a1 r1 h1 => ?_
  obtain ⟨ds, hz, hq⟩ := h1.ofb
  have r := r1.1
  rw [h0] at r
  cases d <;> first | (simp [tupD] at hz; done) | skip
  case tup x =>
    simp only [tupD, Option.some.injEq] at hz; subst hz
    unfold Rep at r
    obtain ⟨a, vs, rfl, g1, g2⟩ := r
    exact ⟨a, rfl, .inr ⟨vs, hK ▸ g1, hq _ H1 e1 a1.or (fun _ hA => it_enT0 (j := 0) hK rfl g1 (RepL.grow hA g2))⟩⟩
  case lst x =>
    simp only [tupD, Option.some.injEq] at hz; subst hz
    have r' := r
    unfold Rep at r
    obtain ⟨a, vs, rfl, g1, _⟩ := r
    exact ⟨a, rfl, .inl ⟨vs, SqL.of g1, hq _ H1 e1 a1.or (fun _ hA => it_enL0 (j := 0) rfl (Rep.grow hA _ _ _ r') g1)⟩⟩
theorem getZip2 {ds es : List D} {i : Nat} {d : D} (h : ((ds.zip es).map fun p => D.tup [p.1, p.2])[i]? = some d) : ∃ x y, ds[i]? = some x ∧ es[i]? = some y ∧ d = .tup [x, y] := by
  rw [List.getElem?_map] at h
  cases e : (ds.zip es)[i]? with
  | none => rw [e] at h; cases h
  | some z =>
    rw [e] at h; cases h
    obtain ⟨h1, h2⟩ := List.getElem?_zip_eq_some.mp e
    exact ⟨z.1, z.2, h1, h2, rfl⟩
theorem lst_at {a : Addr} {ds : List D} (h : Rep g.K g.q A 0 H (.ref a) (.lst ds)) : ∃ vs, H a = some (.lst vs) ∧ ∀ M H2, (∀ b, M b → (0 = 0 ∧ A b) ∨ H b = none) → Chg g.q M H H2 → H2 a = some (.lst vs) ∧ RepL g.K g.q A 0 H2 vs ds := by
  unfold Rep at h
  obtain ⟨a', vs, e1, h1, h2, h3, h4⟩ := h
  cases e1
  refine ⟨vs, h1, fun M H2 hM c => ⟨c.oth _ _ h1 h2 fun z => ?_, RepL.chg' c ds 0 vs hM h4⟩⟩
  rcases hM a z with ⟨_, y2⟩ | y
  · exact h3 rfl y2
  · rw [h1] at y; cases y
theorem it_zipL0 {a b : Addr} {ds es : List D} (h : Rep g.K g.q A 0 H (.ref a) (.lst ds)) (h' : Rep g.K g.q A 0 H (.ref b) (.lst es)) : ItOk0 g A 0 (Itz X.K a b) H ((ds.zip es).map fun p => .tup [p.1, p.2]) := by
  obtain ⟨vs, _, k1⟩ := lst_at h
  obtain ⟨us, _, k2⟩ := lst_at h'
  intro M H2 hM c i
  obtain ⟨e1, r1⟩ := k1 M H2 hM c
  obtain ⟨e2, r2⟩ := k2 M H2 hM c
  refine ⟨fun hi => ⟨vs, us, SqL.of e1, SqL.of e2, by rw [r1.length, r2.length]; simp at hi; omega⟩, fun d hd => ?_⟩
  obtain ⟨x, y, hx, hy, rfl⟩ := getZip2 hd
  obtain ⟨v, hv, rv⟩ := r1.get hx
  obtain ⟨u, hu, ru⟩ := r2.get hy
  refine ⟨⟨vs, us, v, u, SqL.of e1, SqL.of e2, hv, hu⟩, fun z H3 ⟨T, p, q, ez, hT, e3, q1, q2⟩ => ?_⟩
  subst ez e3
  have := q1 vs (SqL.of e1)
  rw [hv] at this; cases this
  have := q2 us (SqL.of e2)
  rw [hu] at this; cases this
  exact ⟨same_upd hT, rep_pair hT rv ru⟩
theorem it_zipT0 (hK : X.K = g.K) {a b : Addr} {vs us : List V} {ds es : List D} (h : SqT g.K H a vs) (hl : RepL g.K g.q A 0 H vs ds) (h' : SqT g.K H b us) (hl' : RepL g.K g.q A 0 H us es) : ItOk0 g A 0 (RZ.ItzT X.K a b) H ((ds.zip es).map fun p => .tup [p.1, p.2]) := by
  intro M H2 hM c i
  have e1 : SqT X.K H2 a vs := hK ▸ SqT.chg c h
  have e2 : SqT X.K H2 b us := hK ▸ SqT.chg c h'
  have r1 := RepL.chg' c ds 0 vs hM hl
  have r2 := RepL.chg' c es 0 us hM hl'
  refine ⟨fun hi => ⟨vs, us, e1, e2, by rw [r1.length, r2.length]; simp at hi; omega⟩, fun d hd => ?_⟩
  obtain ⟨x, y, hx, hy, rfl⟩ := getZip2 hd
  obtain ⟨v, hv, rv⟩ := r1.get hx
  obtain ⟨u, hu, ru⟩ := r2.get hy
  refine ⟨⟨vs, us, v, u, e1, e2, hv, hu⟩, fun z H3 ⟨T, p, q, ez, hT, e3, q1, q2⟩ => ?_⟩
  subst ez e3
  have := q1 vs e1
  rw [hv] at this; cases this
  have := q2 us e2
  rw [hu] at this; cases this
  exact ⟨same_upd hT, rep_pair hT rv ru⟩
theorem i_zip (hK : X.K = g.K) {a b : E} {ea eb : Expr} {ta tb : Ty} {p pos tpos : Pos} {elts : List Expr} {kk : Nat} (h0 : ta.k = 0) (h0' : tb.k = 0) (hg : Gl X "zip") (hm : X.mg "zip" = none) (hs : notStar ea = true) (hs2 : notStar eb = true)
    (ha : PE X ea (rdE g W ks ta (evE F G a))) (hb : PE X eb (rdE g W ks tb (evE F G b))) : PI X (.Tuple elts kk tpos) (.Call (.Name "zip" p) [ea, eb] [] pos) (rdI g W ks 0 (evI F G (.zip a b))) := by
  have hp := RZ.pi_zipA (p := p) (pos := pos) (tpos := tpos) (elts := elts) (kk := kk) hg hm (pa_cons ha (pa_cons hb pa_nil (star_of hs2)) (star_of hs)) (star_of hs) (noStars [eb] _ _ (by simp [hs2]))
  refine ⟨fun pins s σ H R I ⟨env, o, A, at_, h⟩ => hp.run pins s σ H R I ?_⟩
  unfold evI at h
  refine rdE.use at_ h fun d o1 v H1 e1 a1 r1 h1 => rdE.use a1 (h1.ext e1 fun _ _ z => z) fun d2 o2 v2 H2 e2 a2 r2 h2 => ?_
  obtain ⟨ds, hz, hq⟩ := h2.of
  have r := r1.1.ext e2
  have r' := r2.1
  rw [h0] at r
  rw [h0'] at r'
  cases d <;> cases d2 <;> first | (simp [zipD] at hz; done) | skip
  case tup.tup x y =>
    simp only [zipD, Option.some.injEq] at hz; subst hz
    unfold Rep at r r'
    obtain ⟨a, vs, rfl, g1, g2⟩ := r
    obtain ⟨b, us, rfl, g3, g4⟩ := r'
    exact ⟨a, b, vs, us, rfl, .inr ⟨hK ▸ g1, hK ▸ g3, hq _ H2 (e1.trans e2) a2.or (fun _ hA => it_zipT0 hK g1 (RepL.grow hA g2) g3 (RepL.grow hA g4))⟩⟩
  case lst.lst x y =>
    simp only [zipD, Option.some.injEq] at hz; subst hz
    have q1 := r
    have q2 := r'
    unfold Rep at r r'
    obtain ⟨a, vs, rfl, g1, _⟩ := r
    obtain ⟨b, us, rfl, g3, _⟩ := r'
    exact ⟨a, b, vs, us, rfl, .inl ⟨SqL.of g1, SqL.of g3, hq _ H2 (e1.trans e2) a2.or (fun _ hA => it_zipL0 (Rep.grow hA _ _ _ q1) (Rep.grow hA _ _ _ q2))⟩⟩
end O
end

section
set_option Elab.async false
set_option linter.all false
set_option maxRecDepth 100000
namespace O
open PySem PySem.Spec PyProof.Rows L2
variable {g : Gx} {W : WX} {ks : Nat → Nat} {σ : L2.St} {H H' : Hp} {env : Env} {o o' : OS} {A : Addr → Prop} {τ : Ty} {Q : VK} {X : Cx} {pins : List (Addr × Obj)} {s : Shared}
variable {F : Nat → List D → OS → R D} {G : Nat → D}
theorem reprT_eq (d : D) : (toPy d).shown = ⟨(reprT d).toArray⟩ := by unfold reprT; simp
theorem b_repr (hK : X.K = g.K) (hg : X.A.guards = some []) (hr : X.A.units + 64 < cLine) : BiOk X g (.builtin "repr") .repr t0 := by
  intro pins s σ H xs us Q I rv ⟨A, o, kl, ds, z, ra, r, dom, hz, hq⟩
  match ds, hz, ra with
  | [], hz, _ => simp [biD] at hz
  | _ :: _ :: _, hz, _ => simp [biD] at hz
  | [d], hz, ra =>
    obtain ⟨k, v, rfl, rfl, rp⟩ := ra.one
    simp only [biD] at hz
    split at hz
    case isFalse => cases hz
    case isTrue c =>
      cases hz
      simp only [Bool.and_eq_true, decide_eq_true_eq] at c
      obtain ⟨⟨⟨c1, c2⟩, c3⟩, c4⟩ := c
      have ok := okC_shown (k := 0) d v k c1 rp
      rw [reprT_eq] at ok
      have fits : (toPy d).shown.length ≤ sizeLine := by rw [reprT_eq, len_str, lid_eq]; omega
      have done : ∀ {h' : Heap} {t k : Nat}, Inv X pins σ H { s with heap := h', toks := k } → EP X pins σ Q (.str (toPy d).shown t) { s with heap := h', toks := k } := fun {h' t k} I' =>
        ⟨.str _, H, I', ⟨t, rfl⟩, by rw [reprT_eq]; exact hq _ H .refl r (.plain (rep_str ⟨fun x hx => ok x (by simpa using hx), by omega⟩))⟩
      obtain ⟨dp, cl⟩ := Rep.dp (k := 0) d v k c1 rp
      obtain ⟨u, rfl, ru⟩ := vals1 rv
      have nd := PyData.hasDict_of_canLay _ cl
      rw [← hK] at dp
      have room : X.A.units + ((toPy d).depth + 1) < cLine := by rw [depth_py c1]; omega
      have byRef : ∀ a : Addr, v = .ref a → wpAny (model X.prog X.w) X.A (PySem.call (.builtin "repr") [u]) (EP X pins σ Q) X.xe s := fun a e => by
        subst e
        cases ru
        obtain ⟨as, rd⟩ := Dp.reads I _ _ _ dp rfl
        exact repr_of_reads' rd c2 (PyData.noDict_hsm nd) hg room (fun _ _ e => e) (fun h' t tk hk => done (I.kept (t' := tk) hk)) fits
      cases d <;> first | (simp [pure] at c1; done) | skip
      case non => unfold Rep at rp; subst rp; cases ru; exact P.repr_of_none (done (I.tok _))
      case bl b => unfold Rep at rp; subst rp; cases ru; exact P.repr_of_bool (done (I.tok _))
      case int i => 
        unfold Rep at rp; subst rp
        obtain ⟨t, rfl⟩ := ru
        exact P.repr_of_int (by simpa [toPy, PyData.showable] using c2) (done (I.tok _))
      case str x =>
        unfold Rep at rp
        obtain ⟨rfl, _⟩ := rp
        obtain ⟨t, rfl⟩ := ru
        exact P.repr_of_str (done (I.tok _)) fits
      case tup x => unfold Rep at rp; obtain ⟨a, vs, e, _⟩ := rp; exact byRef a e
      case lst x => unfold Rep at rp; obtain ⟨a, vs, e, _⟩ := rp; exact byRef a e
theorem bools_rep : ∀ {ds : List D} {bs : List Bool} {k : Nat} {vs : List V}, bools ds = some bs → RepL g.K g.q A k H vs ds → vs = bs.map V.bl
  | [], bs, k, vs, h, r => by simp only [bools, Option.some.injEq] at h; subst h; unfold RepL at r; exact r
  | d :: ds, bs, k, vs, h, r => by
    cases d <;> first | (simp [bools] at h; done) | skip
    case bl b =>
      simp only [bools] at h
      cases e : bools ds with
      | none => rw [e] at h; cases h
      | some cs =>
        rw [e] at h; cases h
        unfold RepL at r
        obtain ⟨v, vr, rfl, r1, r2⟩ := r
        unfold Rep at r1
        rw [r1, bools_rep e r2]; rfl
theorem ints_rep : ∀ {ds : List D} {bs : List Int} {k : Nat} {vs : List V}, intsD ds = some bs → RepL g.K g.q A k H vs ds → vs = bs.map V.int
  | [], bs, k, vs, h, r => by simp only [intsD, Option.some.injEq] at h; subst h; unfold RepL at r; exact r
  | d :: ds, bs, k, vs, h, r => by
    cases d <;> first | (simp [intsD] at h; done) | skip
    case int b =>
      simp only [intsD] at h
      cases e : intsD ds with
      | none => rw [e] at h; cases h
      | some cs =>
        rw [e] at h; cases h
        unfold RepL at r
        obtain ⟨v, vr, rfl, r1, r2⟩ := r
        unfold Rep at r1
        rw [r1, ints_rep e r2]; rfl
def strV (s : List Nat) : PySem.Str := ⟨s.toArray⟩
theorem strs_rep : ∀ {ds : List D} {bs : List (List Nat)} {k : Nat} {vs : List V}, strsD ds = some bs → RepL g.K g.q A k H vs ds → vs = (bs.map strV).map V.str ∧ ∀ b ∈ bs, okS b
  | [], bs, k, vs, h, r => by simp only [strsD, Option.some.injEq] at h; subst h; unfold RepL at r; exact ⟨r, by simp⟩
  | d :: ds, bs, k, vs, h, r => by
    cases d <;> first | (simp [strsD] at h; done) | skip
    case str b =>
      simp only [strsD] at h
      cases e : strsD ds with
      | none => rw [e] at h; cases h
      | some cs =>
        rw [e] at h; cases h
        unfold RepL at r
        obtain ⟨v, vr, rfl, r1, r2⟩ := r
        unfold Rep at r1
        obtain ⟨e1, e2⟩ := strs_rep e r2
        obtain ⟨r1, ok⟩ := r1
        subst r1
        rw [e1]
        exact ⟨rfl, fun c hc => by
          rcases List.mem_cons.mp hc with rfl | hc
          · exact ok
          · exact e2 c hc⟩
theorem b_all (hc : X.calm = true) : BiOk X g (.builtin "all") .all t0 := by
  intro pins s σ H xs us Q I rv ⟨A, o, kl, ds, z, ra, r, dom, hz, hq⟩
  match ds, hz, ra with
  | [.lst x], hz, ra =>
    obtain ⟨k, v, rfl, rfl, rp⟩ := ra.one
    simp only [biD] at hz
    cases e : bools x with
    | none => rw [e] at hz; cases hz
    | some bs =>
      rw [e] at hz; cases hz
      unfold Rep at rp
      obtain ⟨a, vs, rfl, h1, _, _, h2⟩ := rp
      have := bools_rep e h2; subst this
      exact cr_all hc pins s σ H _ us Q I rv ⟨a, bs, rfl, SqL.of h1, hq _ H .refl r (.plain rep_bl)⟩
theorem b_any (hc : X.calm = true) : BiOk X g (.builtin "any") .any t0 := by
  intro pins s σ H xs us Q I rv ⟨A, o, kl, ds, z, ra, r, dom, hz, hq⟩
  match ds, hz, ra with
  | [.lst x], hz, ra =>
    obtain ⟨k, v, rfl, rfl, rp⟩ := ra.one
    simp only [biD] at hz
    cases e : bools x with
    | none => rw [e] at hz; cases hz
    | some bs =>
      rw [e] at hz; cases hz
      unfold Rep at rp
      obtain ⟨a, vs, rfl, h1, _, _, h2⟩ := rp
      have := bools_rep e h2; subst this
      exact cr_any hc pins s σ H _ us Q I rv ⟨a, bs, rfl, SqL.of h1, hq _ H .refl r (.plain rep_bl)⟩
theorem joinT_eq (sep : List Nat) : ∀ (l : List (List Nat)), PySem.Str.join (strV sep) (l.map strV) = strV (joinT sep l)
  | [] => rfl
  | [x] => rfl
  | x :: y :: r => by
    show strV x ++ strV sep ++ PySem.Str.join (strV sep) ((y :: r).map strV) = strV (x ++ sep ++ joinT sep (y :: r))
    rw [joinT_eq sep (y :: r)]
    show (⟨(x.toArray ++ sep.toArray) ++ (joinT sep (y :: r)).toArray⟩ : PySem.Str) = _
    simp [strV]
theorem joinT_len (sep : List Nat) : ∀ (l : List (List Nat)), (joinT sep l).length ≤ (l.map List.length).sum + l.length * sep.length
  | [] => by simp [joinT]
  | [x] => by simp [joinT]
  | x :: y :: r => by
    have ih := joinT_len sep (y :: r)
    have e : joinT sep (x :: y :: r) = x ++ sep ++ joinT sep (y :: r) := rfl
    rw [e, List.length_append, List.length_append, List.map_cons, List.sum_cons, List.length_cons, Nat.succ_mul]
    omega
theorem joinT_mem (sep : List Nat) : ∀ (l : List (List Nat)) (c : Nat), c ∈ joinT sep l → c ∈ sep ∨ ∃ x ∈ l, c ∈ x
  | [], c, h => by simp [joinT] at h
  | [x], c, h => .inr ⟨x, by simp, h⟩
  | x :: y :: r, c, h => by
    have e : joinT sep (x :: y :: r) = x ++ sep ++ joinT sep (y :: r) := rfl
    rw [e] at h
    rcases List.mem_append.mp h with h | h
    · rcases List.mem_append.mp h with h | h
      · exact .inr ⟨x, by simp, h⟩
      · exact .inl h
    · rcases joinT_mem sep (y :: r) c h with h | ⟨z, hz, h⟩
      · exact .inl h
      · exact .inr ⟨z, List.mem_cons_of_mem _ hz, h⟩
theorem c_join {sp : List Nat} {e : E} {ee : Expr} {x : PySem.Str} {j : Nat} {p apos pos : Pos} {t : Ty} (hx : x = strV sp) (hok : ∀ c ∈ sp, c < 0x110000) (hs : notStar ee = true) (hline : (apos.endLine == pos.line) = true) (he : PE X ee (rdE g W ks t (evE F G e))) :
    PE X (.Call (.Attribute (.Constant (.str x) j p) "join" apos) [ee] [] pos) (rdE g W ks ⟨0, 0⟩ (evE F G (.bi .join (.cons (.con (.str sp)) (.cons e .nil))))) := by
  subst hx
  refine (pe_join (pe_str (x := strV sp)) he (star_of hs) rfl hline).of fun σ H Q ⟨env, o, A, at_, h⟩ => ?_
  have ev : evE F G (.bi .join (.cons (.con (.str sp)) (.cons e .nil))) env o = (evE F G e env o).bind fun d o1 => R.of (biD .join [.str sp, d]) o1 := by
    have c0 : evE F G (.con (.str sp)) env o = .ok (.str sp) o := by unfold evE; rfl
    have c1 : ∀ es env o, evE F G (.bi .join es) env o = (evEs F G es env o).bind fun ds o1 => R.of (biD .join ds) o1 := fun es env o => by unfold evE; rfl
    have c2 : ∀ e es env o, evEs F G (.cons e es) env o = (evE F G e env o).bind fun d o1 => (evEs F G es env o1).bind fun ds o2 => .ok (d :: ds) o2 := fun e es env o => by conv => { lhs; unfold evEs }
    have c3 : ∀ env o, evEs F G .nil env o = .ok [] o := fun env o => by unfold evEs; rfl
    rw [c1, c2, c0]
    simp only [R.bind_ok]
    rw [c2]
    cases q : evE F G e env o <;> simp [c3]
  rw [ev] at h
  refine ⟨⟨_, rfl⟩, rdE.use at_ h fun d o1 v H1 e1 a1 r1 h1 => ?_⟩
  obtain ⟨z, hz, hq⟩ := h1.of
  cases d <;> first | (simp [biD] at hz; done) | skip
  case lst xs =>
    simp only [biD] at hz
    cases q : strsD xs with
    | none => rw [q] at hz; cases hz
    | some l =>
      rw [q] at hz
      simp only [Option.bind_some] at hz
      split at hz
      case isFalse => cases hz
      case isTrue c =>
        cases hz
        have rp := r1.1
        unfold Rep at rp
        obtain ⟨a, vs, rfl, h1, _, _, h2⟩ := rp
        obtain ⟨rfl, okl⟩ := strs_rep q h2
        refine ⟨strV sp, a, l.map strV, rfl, rfl, .inl (SqL.of h1), ?_, ?_⟩
        · have e3 : ((l.map strV).map (·.length)) = l.map List.length := by
            rw [List.map_map]
            exact List.map_congr_left fun y _ => len_str y
          rw [e3, List.length_map, show (strV sp).length = sp.length from len_str sp]
          exact c
        · rw [show Txt.join (strV sp) (l.map strV) = _ from TL.join_eq _ _, joinT_eq]
          refine hq _ H1 e1 a1.or (.plain (rep_str ⟨fun c' hc => ?_, Nat.le_trans (joinT_len _ _) c⟩))
          rcases joinT_mem _ _ _ hc with hc | ⟨y, hy, hc⟩
          · exact hok c' hc
          · exact (okl y hy).1 c' hc

/-! ### isinstance -/
def tyN : D → String
  | .non => "NoneType"
  | .bl _ => "bool"
  | .int _ => "int"
  | .str _ => "str"
  | .tup _ => "tuple"
  | .lst _ => "list"
  | _ => "dict"
def isN : Nat → String
  | 0 => "int"
  | 1 => "bool"
  | 2 => "str"
  | 3 => "tuple"
  | 4 => "list"
  | _ => "dict"
theorem tyx_rep (hK : X.K = g.K) {v : V} {d : D} {k : Nat} (h : Rep g.K g.q A k H v d) (r : Or g.q H o) : TyX X.K H v (.type (tyN d)) := by
  cases d <;> unfold Rep at h <;> simp only [tyN]
  case non => subst h; exact .base .non
  case bl b => subst h; exact .base (.bl b)
  case int i => subst h; exact .base (.int i)
  case str x => obtain ⟨rfl, _⟩ := h; exact .base (.str _)
  case tup ds =>
    obtain ⟨a, vs, rfl, h1, _⟩ := h
    rw [← hK] at h1
    rcases h1 with (h1 | ⟨ob, h1⟩) | h1
    · exact .base (.tup h1)
    · exact .fTuple h1
    · obtain ⟨ob, _, _, e1, e2, _⟩ := h1
      exact .kTuple e1 e2
  case lst ds => obtain ⟨a, vs, rfl, h1, _⟩ := h; exact .base (.lst h1)
  case src =>
    obtain ⟨⟨p, c⟩, e, rfl⟩ := h
    obtain ⟨_, h2, _⟩ := r p c e
    exact .base (.dK h2)
  all_goals exact h.elim
theorem kit_all (t : Nat) (ht : t ≤ 5) (d : D) (hd : ∀ x, d ≠ .dct x) (hs : ∀ x, d ≠ .set x) (hf : ∀ n x, d ≠ .fn n x) : kitB (tyN d) (isN t) = some (isiD t d) := by
  have h : t = 0 ∨ t = 1 ∨ t = 2 ∨ t = 3 ∨ t = 4 ∨ t = 5 := by omega
  rcases h with rfl | rfl | rfl | rfl | rfl | rfl <;> cases d <;> first
    | exact absurd rfl (hd _)
    | exact absurd rfl (hs _)
    | exact absurd rfl (hf _ _)
    | (simp only [tyN, isN, isiD]; decide +kernel)
theorem c_isi {a : E} {ea : Expr} {t : Nat} {T : PySem.Str} {p pt pos : Pos} {ta : Ty} (hK : X.K = g.K) (ht : t ≤ 5) (hg : Gl X "isinstance") (hm : X.mg "isinstance" = none) (hgT : Gl X T) (hmT : X.mg T = none) (hvT : bootBuiltins T = some (.type (isN t))) (hnT : T ≠ "__name__") (hdT : (T == ("__debug__" : PySem.Str)) = false)
    (hs : notStar ea = true) (ha : PE X ea (rdE g W ks ta (evE F G a))) : PE X (.Call (.Name "isinstance" p) [ea, .Name T pt] [] pos) (rdE g W ks ⟨0, 0⟩ (evE F G (.isi a t))) := by
  have hT : PE X (.Name T pt) (tC (.ty (isN t))) := pe_bltn hgT hmT hvT rfl hnT hdT
  refine (pe_callB (p := p) (pos := pos) call_isi hg hm boot_isinstance (pa_cons ha (pa_cons hT pa_nil (star_of rfl)) (star_of hs)) (by decide) (by decide) (star_of hs) (noStars [_] _ _ rfl)).of fun σ H Q ⟨env, o, A, at_, h⟩ => ?_
  unfold evE at h
  refine rdE.use at_ h fun d o1 v H1 e1 a1 r1 h1 => ?_
  have nd : (∀ x, d ≠ .dct x) ∧ (∀ x, d ≠ .set x) ∧ ∀ n x, d ≠ .fn n x := by
    have r := r1.1
    refine ⟨fun x e => ?_, fun x e => ?_, fun n x e => ?_⟩ <;> (subst e; unfold Rep at r; exact r)
  exact ⟨v, _, _, _, _, rfl, .ty _, tyx_rep hK r1.1 a1.or, kit_ty (kit_all t ht d nd.1 nd.2.1 nd.2.2), h1 _ H1 e1 a1.or (.plain rep_bl)⟩

/-! ### f( *t) -/
theorem pe_callSG {n : Nat} {f : Addr} {fd : FuncData} {ps : List PySem.Str} {sp : Sp} {y : PySem.Str} {e : Expr} {te : TE} {p sp_ pos : Pos} (FF : FnG X.prog X.w X.K X.mg X.base n f fd ps sp) (hr : Room n X.A) (hgd : X.A.guards = some []) (hg : Gl X y) (hm : X.mg y = some (.ref f)) (hk : PySem.W.keepIn X.K (.ref f) = true) (hb : Binds X.K fd ps []) (tk : Takes X W)
    (he : PE X e te) (hdb : (y == ("__debug__" : PySem.Str)) = false) : PE X (.Call (.Name y p) [.Starred e sp_] [] pos) (fun σ H Q => te σ H fun v H1 => ∃ a xs, v = V.ref a ∧ (SqT X.K H1 a xs ∨ SqL X.K H1 a xs) ∧ sp xs H1 Q fun cls d H' => W cls d σ H') := by
  constructor
  intro pins s σ H Q I h
  refine wpAny_Call_Name_kw (ld_glob I hg hm ?_ hdb)
  refine PySem.W.callWith_S (h₀ := X.base) I.ok.mod.kin hk (thn (he.run pins s σ H _ I h) fun v s1 ⟨y, H1, I1, ry, a, xs, ey, hxs, q⟩ => ?_) rfl
  subst ey
  obtain rfl : v = Value.ref a := ry
  exact StX.star_any I1 hxs fun us s2 I2 rv => ⟨I2.kIn, runG FF hr hgd hb tk I2 rv q⟩
theorem RepA.zeros : ∀ {n : Nat} {vs : List V} {ds : List D}, ds.length = n → RepL g.K g.q A 0 H vs ds → RepA g A H (List.replicate n 0) vs ds
  | 0, vs, [], _, r => by unfold RepL at r; exact ⟨r, rfl⟩
  | n + 1, vs, d :: ds, h, r => by
    unfold RepL at r
    obtain ⟨v, vr, rfl, r1, r2⟩ := r
    exact ⟨v, vr, d, ds, rfl, rfl, r1, RepA.zeros (by simpa using h) r2⟩
theorem c_star {n m f : Nat} {y : PySem.Str} {a : E} {ea : Expr} {ta : Ty} {p sp_ pos : Pos} (hK : X.K = g.K) (d : Def X g n F f y (List.replicate m 0) τ) (hbad : ∀ ds o, ds.length ≠ m → F f ds o = .bad) (h0 : ta.k = 0) (hr : Room n X.A) (hgd : X.A.guards = some []) (tk : Takes X W) (hg : Gl X y) (hdb : (y == ("__debug__" : PySem.Str)) = false)
    (ha : PE X ea (rdE g W ks ta (evE F G a))) : PE X (.Call (.Name y p) [.Starred ea sp_] [] pos) (rdE g W ks τ (evE F G (.star f a))) := by
  obtain ⟨fa, fd, ps, hm, hk, hb, hF⟩ := d.it
  refine (pe_callSG hF hr hgd hg hm hk hb tk ha hdb).of fun σ H Q ⟨env, o, A, at_, h⟩ => ?_
  unfold evE at h
  refine rdE.use at_ h fun d o1 v H1 e1 a1 r1 h1 => ?_
  obtain ⟨ds, hz, h2⟩ := h1.ofb
  cases d <;> first | (simp at hz; done) | skip
  case tup x =>
    cases hz
    have r := r1.1
    rw [h0] at r
    unfold Rep at r
    obtain ⟨b, vs, rfl, g1, g2⟩ := r
    have hl : ds.length = m := by
      apply Classical.byContradiction
      intro z
      rw [hbad ds o1 z] at h2
      exact h2.elim
    refine ⟨b, vs, rfl, .inl (hK ▸ g1), ds, o1, A, a1.dom, a1.or, RepA.zeros hl g2, h2.mono (fun d o2 z v H' e2 or2 r2 => z v H' (e1.trans e2) or2 ⟨r2.1, fun q => ?_⟩) fun c o2 z dd H' e2 or2 => z dd H' (e1.trans e2) or2⟩
    obtain ⟨O, h3, h4, h5, h6⟩ := r2.2 q
    exact ⟨O, h3, h4, fun p hp => ⟨e1.free (h5 p hp).1, (h5 p hp).2⟩, h6⟩

/-! ### sorted -/
theorem isCons_ok {d : D} (h : isCons d = true) : ∃ x r, toPy d = .tuple (x :: r) := by
  cases d <;> first | (simp [isCons] at h; done) | skip
  case tup ds =>
    cases ds with
    | nil => simp [isCons] at h
    | cons a r => exact ⟨toPy a, toPyL r, by simp [toPy, toPyL]⟩
theorem isFlat_ok {d : D} (h : isFlat d = true) (p : pure d = true) : toPy d ≠ .none ∧ ∀ xs, toPy d ≠ .tuple xs := by
  cases d <;> first | (simp [isFlat] at h; done) | (simp [pure] at p; done) | exact ⟨by simp [toPy], fun xs => by simp [toPy]⟩
theorem depth_mem : ∀ {ds : List D} {d : D}, d ∈ ds → depth d ≤ depthL ds
  | a :: r, d, h => by
    unfold depthL
    rcases List.mem_cons.mp h with rfl | h
    · exact Nat.le_max_left _ _
    · exact Nat.le_trans (depth_mem h) (Nat.le_max_right _ _)
theorem pure_mem : ∀ {ds : List D} {d : D}, pureL ds = true → d ∈ ds → pure d = true
  | a :: r, d, p, h => by
    have p' : pure a = true ∧ pureL r = true := by simpa [pureL] using p
    rcases List.mem_cons.mp h with rfl | h
    · exact p'.1
    · exact pure_mem p'.2 h
/-- an item as it lies, its data -/
abbrev ItR (g : Gx) (A : Addr → Prop) (k : Nat) (H : Hp) : Value → D → Prop := fun u d => ∃ v, RelV v u ∧ Rep g.K g.q A k H v d
theorem each_of {k : Nat} : ∀ {ds : List D} {vs : List V} {us : List Value}, RepL g.K g.q A k H vs ds → Vals vs us → PySem.W.EachIs (ItR g A k H) us ds
  | [], vs, us, r, h => by unfold RepL at r; subst r; cases h; exact .nil
  | d :: ds, vs, us, r, h => by
    unfold RepL at r
    obtain ⟨v, vr, rfl, r1, r2⟩ := r
    cases h with
    | cons a b => exact .cons ⟨v, a, r1⟩ (each_of r2 b)
theorem of_each {k : Nat} : ∀ {ds : List D} {us : List Value}, PySem.W.EachIs (ItR g A k H) us ds → ∃ vs, RepL g.K g.q A k H vs ds ∧ Vals vs us
  | _, _, .nil => ⟨[], .nil, .nil⟩
  | _, _, .cons ⟨v, h1, h2⟩ t => by
    obtain ⟨vs, h3, h4⟩ := of_each t
    exact ⟨v :: vs, .cons h2 h3, .cons h1 h4⟩
theorem each_reads (hK : X.K = g.K) (I : L2.Inv X pins σ H s) {k : Nat} : ∀ {ds : List D} {vs : List V} {us : List Value}, pureL ds = true → RepL g.K g.q A k H vs ds → Vals vs us → PySem.W.EachIs (fun u d => ∃ as, Reads s.heap u (toPy d) as) us ds
  | [], vs, us, _, r, h => by unfold RepL at r; subst r; cases h; exact .nil
  | d :: ds, vs, us, p, r, h => by
    have p' : pure d = true ∧ pureL ds = true := by simpa [pureL] using p
    unfold RepL at r
    obtain ⟨v, vr, rfl, r1, r2⟩ := r
    cases h with
    | cons a b =>
      obtain ⟨dp, _⟩ := Rep.dp (k := 0) d v k p'.1 r1
      exact .cons (Dp.reads I _ _ _ (hK ▸ dp) a) (each_reads hK I p'.2 r2 b)
theorem b_sorted (hK : X.K = g.K) (hr : X.A.units + 80 < cLine) : BiOk X g (.builtin "sorted") .sorted tcf := by
  intro pins s σ H xs us Q I rv ⟨A, o, kl, ds, z, ra, r, dom, hz, hq⟩
  match ds, hz, ra with
  | [.lst x], hz, ra =>
    obtain ⟨k, v, rfl, rfl, rp⟩ := ra.one
    simp only [biD] at hz
    unfold sortD at hz
    split at hz
    case isFalse => cases hz
    case isTrue c =>
      cases hz
      simp only [alikeL, Bool.and_eq_true, Bool.or_eq_true, decide_eq_true_eq, List.all_eq_true] at c
      obtain ⟨⟨⟨⟨c1, c2⟩, c3⟩, c4⟩, c5⟩ := c
      unfold Rep at rp
      obtain ⟨a, vs, rfl, h1, h2, h3, h4⟩ := rp
      obtain ⟨u, rfl, ru⟩ := vals1 rv
      cases ru
      obtain ⟨its, r1, pl, hsz⟩ := I.list (SqL.of h1)
      refine PySem.W.sorted_data (enc := toPy) (R := ItR g A (k - 1) H) (bs := x) pl.isList (each_of h4 r1) (each_reads hK I c3 h4 r1) ?_ ?_ (by rw [lid_eq]; exact c5) (fun b hb => ?_) fun out hlen he => ?_
      · intro d hd d' hd'
        obtain ⟨y, hy, rfl⟩ := List.mem_map.mp hd
        obtain ⟨y', hy', rfl⟩ := List.mem_map.mp hd'
        exact c1 y hy y' hy'
      · rcases c2 with c2 | c2
        · exact .inl fun d hd => by
            obtain ⟨y, hy, rfl⟩ := List.mem_map.mp hd
            exact isCons_ok (c2 y hy)
        · exact .inr fun d hd => by
            obtain ⟨y, hy, rfl⟩ := List.mem_map.mp hd
            exact isFlat_ok (c2 y hy) (pure_mem c3 hy)
      · have := depth_mem hb
        rw [depth_py (pure_mem c3 hb)]
        omega
      · obtain ⟨vs', q1, q2⟩ := of_each he
        obtain ⟨e, hat⟩ := PyProof.Rows.sortedAll_at s.heap its out.toArray
        have hn := I.hok.fresh (Nat.le_succ s.heap.objs.size)
        have lens := q1.length
        have I2 : L2.Inv X pins σ (upd H (s.heap.objs.size + 1) (.lst vs')) { s with heap := PyProof.Rows.sortedAll s.heap its out.toArray } :=
          I.laid (t' := s.toks) (fun b o' e' => PyProof.Rows.sortedAll_old e') (Nat.le_succ _) ⟨by rw [lens, List.length_mergeSort, lid_eq]; exact c5, out, _, q2, hat⟩
        exact ⟨.ref (s.heap.objs.size + 1), _, I2, rfl, hq _ _ (.new hn) (r.new hn) (fresh1 .refl hn (by show RepL _ _ _ (cl k - 1) _ _ _; rw [cl_sub]; exact q1) dom r)⟩
end O
end

section
set_option Elab.async false
set_option linter.all false
set_option maxRecDepth 100000
set_option maxHeartbeats 4000000
/-! OSetE: a set by a comprehension or of a list, sorted. -/
namespace O
open PySem PySem.Spec PyProof.Rows L2
mutual
theorem nested_of {h : Heap} : ∀ (d : D) (u : Value) (as : List Addr), keyF d = true → Reads h u (toPy d) as → NestedIs h (keyD d) u ∧ as = []
  | .non, u, as, _, r => by
    rw [toPy] at r
    cases r; exact ⟨.none, rfl⟩
  | .int i, u, as, _, r => by
    rw [toPy] at r
    cases r; exact ⟨.int _ _, rfl⟩
  | .str s, u, as, _, r => by
    rw [toPy] at r
    cases r; exact ⟨.text _ _, rfl⟩
  | .tup ds, u, as, k, r => by
    rw [toPy] at r
    cases r with
    | tuple h1 h2 h3 h4 =>
      obtain ⟨q1, q2⟩ := nestedAll_of ds _ _ (by simpa [keyF] using k) h4
      exact ⟨.tup h1 h2 h3 q1, q2⟩
  | .bl _, _, _, k, _ => by simp [keyF] at k
  | .lst _, _, _, k, _ => by simp [keyF] at k
  | .dct _, _, _, k, _ => by simp [keyF] at k
  | .set _, _, _, k, _ => by simp [keyF] at k
  | .fn _ _, _, _, k, _ => by simp [keyF] at k
  | .src, _, _, k, _ => by simp [keyF] at k
theorem nestedAll_of {h : Heap} : ∀ (ds : List D) (us : List Value) (as : List Addr), keyFL ds = true → ReadsAll h us (toPyL ds) as → NestedAll h (keyDs ds) us ∧ as = []
  | [], us, as, _, r => by
    rw [toPyL] at r
    cases r; exact ⟨.nil, rfl⟩
  | d :: ds, us, as, k, r => by
    rw [toPyL] at r
    simp only [keyFL, Bool.and_eq_true] at k
    cases r with
    | cons h1 h2 =>
      obtain ⟨q1, q2⟩ := nested_of d _ _ k.1 h1
      obtain ⟨q3, q4⟩ := nestedAll_of ds _ _ k.2 h2
      subst q2 q4
      exact ⟨.cons q1 q3, rfl⟩
end
mutual
theorem keyF_pure : ∀ d : D, keyF d = true → pure d = true
  | .non, _ | .int _, _ | .str _, _ => rfl
  | .tup ds, k => by simp only [pure]; exact keyFL_pure ds (by simpa [keyF] using k)
  | .bl _, k => by simp [keyF] at k
  | .lst _, k => by simp [keyF] at k
  | .dct _, k => by simp [keyF] at k
  | .set _, k => by simp [keyF] at k
  | .fn _ _, k => by simp [keyF] at k
  | .src, k => by simp [keyF] at k
theorem keyFL_pure : ∀ ds : List D, keyFL ds = true → pureL ds = true
  | [], _ => rfl
  | d :: ds, k => by
    simp only [keyFL, Bool.and_eq_true] at k
    simp [pureL, keyF_pure d k.1, keyFL_pure ds k.2]
end
variable {X : Cx} {g : Gx} {A : Addr → Prop} {H : Hp} {s : Shared} {pins : List (Addr × Obj)} {σ : L2.St}
/-- the member that stands at b -/
def MemR (g : Gx) (H : Hp) (p : Addr × D) : Prop := keyOk p.2 = true ∧ ∃ A k, Rep g.K g.q A k H (.ref p.1) p.2
theorem MemR.reads (hK : X.K = g.K) (I : Inv X pins σ H s) {p : Addr × D} (m : MemR g H p) : Reads s.heap (.ref p.1) (toPy p.2) [] := by
  obtain ⟨k, A', k', r⟩ := m
  obtain ⟨_, k2, _⟩ := key_ok k
  obtain ⟨dp, _⟩ := Rep.dp (k := 0) p.2 _ _ (keyF_pure _ k2) r
  obtain ⟨as, rd⟩ := Dp.reads I (toPy p.2) (V.ref p.1) (Value.ref p.1) (hK ▸ dp) rfl
  obtain ⟨_, e⟩ := nested_of _ _ _ k2 rd
  subst e
  exact rd
theorem MemR.isQ (hK : X.K = g.K) (I : Inv X pins σ H s) {p : Addr × D} (m : MemR g H p) : IsQ s.heap (keyD p.2) p.1 :=
  ⟨(nested_of _ _ _ (key_ok m.1).2.1 (m.reads hK I)).1, (key_ok m.1).2.2⟩
theorem MemR.ext {H H' : Hp} {p : Addr × D} (m : MemR g H p) (e : Ext g.q H H') : MemR g H' p := by
  obtain ⟨k, A', k', r⟩ := m
  exact ⟨k, A', k', r.ext e⟩
/-! ### the tracked set -/
abbrev rowsD (LD : List (Addr × D)) : Rows := LD.map fun p => (p.1, keyD p.2)
def SetDO (w : World) (a : Addr) (LD : List (Addr × D)) : HO := .ext fun h => ∃ es ep t, SQ w h a (rowsD LD) es ep t
theorem setDO_ok {P : Program} {w : World} {H : Hp} {h : Heap} {a : Addr} {LD : List (Addr × D)} {es : Array (Int × Value)} {ep : Nat} {t : SetTable} (R : SQ w h a (rowsD LD) es ep t) : ObjOk P w H h a (SetDO w a LD) := by
  obtain ⟨o, ho, hr⟩ := R.ob
  refine ⟨⟨es, ep, t, R⟩, ⟨o, ho⟩, fun h1 h2 z k => ?_⟩
  obtain ⟨es', ep', t', R'⟩ := z
  obtain ⟨o', ho', hr'⟩ := R'.ob
  exact ⟨es', ep', t', ⟨⟨o', k _ ho', hr'⟩, R'.rows, R'.tab, R'.nd, R'.led, R'.room, R'.few⟩⟩
theorem setDO_get (I : Inv X pins σ H s) {a : Addr} {LD : List (Addr × D)} (h : H a = some (SetDO X.w a LD)) : ∃ es ep t, SQ X.w s.heap a (rowsD LD) es ep t := (I.hok a _ h).1
theorem sq_fresh {w : World} {h : Heap} {a : Addr} (ho : h.get? a = some { cls := .type "set", dict := none, data := .set #[] 0 (.fresh 0 0 (!w.params.followText "set-order")) }) : SQ w h a (rowsD []) #[] 0 (.fresh 0 0 (!w.params.followText "set-order")) where
  ob := ⟨_, ho, ⟨rfl, rfl, rfl⟩, rfl⟩
  rows := rfl
  tab := ⟨List.Pairwise.nil, rfl, rfl, .inl rfl, fun x hx => (by cases hx), fun i h j hi => (by simp [hashQ] at hi)⟩
  nd := List.nodup_nil
  led := by
    show _ ∨ (!w.params.followText "set-order") = true
    rcases Bool.eq_false_or_eq_true (w.params.followText "set-order") with e | e <;> rw [e]
    · exact .inl rfl
    · exact .inr rfl
  room := by show 0 * 5 < 7 * 3; decide
  few := by show 0 < 64; decide
theorem perm_unmap {α β : Type} {f : α → β} {l m : List β} (p : l.Perm m) : ∀ {xs : List α}, m = xs.map f → ∃ ys : List α, l = ys.map f ∧ ys.Perm xs := by
  induction p with
  | nil => intro xs e; cases xs <;> simp_all
  | cons x p ih =>
    intro xs e
    cases xs with
    | nil => cases e
    | cons a xs =>
      simp only [List.map_cons, List.cons.injEq] at e
      obtain ⟨ys, h1, h2⟩ := ih e.2
      exact ⟨a :: ys, by rw [List.map_cons, h1, e.1], h2.cons a⟩
  | swap x y l =>
    intro xs e
    match xs, e with
    | a :: b :: xs, e =>
      simp only [List.map_cons, List.cons.injEq] at e
      exact ⟨b :: a :: xs, by simp [e.1, e.2.1, e.2.2], List.Perm.swap a b xs⟩
  | trans p1 p2 ih1 ih2 =>
    intro xs e
    obtain ⟨ys, h1, h2⟩ := ih2 e
    obtain ⟨zs, h3, h4⟩ := ih1 h1
    exact ⟨zs, h3, h4.trans h2⟩
/-- set.add -/
theorem addQ_ok {D' : Addr} {LD : List (Addr × D)} {b : Addr} {d : D} {Q : Value → Shared → Prop} {E : Value → Shared → Prop} (hK : X.K = g.K) (hu : X.A.units + 16 < cLine) (I : Inv X pins σ H s) (hD : H D' = some (SetDO X.w D' LD)) (hm : MemR g H (b, d)) (hall : ∀ p ∈ LD, MemR g H p) (few : LD.length + 1 < 64)
    (h : ∀ LD' s', (d ∈ LD.map (·.2) → LD' = LD) → (d ∉ LD.map (·.2) → LD'.Perm ((b, d) :: LD)) → Inv X pins σ (upd H D' (SetDO X.w D' LD')) s' → Q .none s') :
    wpAny (model X.prog X.w) X.A (call (.builtin "set.add") [.ref D', .ref b]) Q E s := by
  obtain ⟨es, ep, t, R⟩ := setDO_get I hD
  have isq := hm.isQ hK I
  obtain ⟨o, ho, hex, hd⟩ := R.ob
  have M : Mem s.heap (rowsD LD) := fun p hp => by
    obtain ⟨q, hq, rfl⟩ := List.mem_map.mp hp
    exact (hall q hq).isQ hK I
  refine wpAny_call_entry F.slot_set_add ⟨_, ho, hex.1⟩ F.entry_set_add ?_ (F.args_set_add_2 _ _)
  unfold Builtin.«set.add» Builtin.Frozenset.oneOther
  simp only [List.isEmpty_nil, bind_assoc]
  unfold Builtin.Frozenset.addrOf setAdd
  refine wpAny_bind (wpAny_pure ?_)
  try dsimp only
  refine wpAny_bind (wpAny_pure ?_)
  try dsimp only
  refine wpAny_bind (wpAny_holding (wpAny_bind ((nestedKind X.prog X.w).pyHash (by show X.A.units + 1 + 8 < cLine; omega) isq ?_)))
  refine put_q (s := { s with toks := s.toks + (keyD d).draws }) R M isq (by show X.A.units + 1 + 8 < cLine; omega) (by simpa using few) fun bb h' L' es' ep' t' sb R' c1 c2 => ?_
  have mem_iff : keyD d ∈ (rowsD LD).map (·.2) ↔ d ∈ LD.map (·.2) := by
    constructor
    · intro z
      obtain ⟨p, hp, e⟩ := List.mem_map.mp z
      obtain ⟨q, hq, rfl⟩ := List.mem_map.mp hp
      have z2 : q.2 = d := keyD_inj _ _ (key_ok (hall q hq).1).2.1 (key_ok hm.1).2.1 e
      rw [← z2]
      exact List.mem_map_of_mem hq
    · intro z
      obtain ⟨q, hq, e⟩ := List.mem_map.mp z
      exact List.mem_map.mpr ⟨_, List.mem_map_of_mem hq, by rw [e]⟩
  have fin : ∀ LD', L' = rowsD LD' → (d ∈ LD.map (·.2) → LD' = LD) → (d ∉ LD.map (·.2) → LD'.Perm ((b, d) :: LD)) → Q .none { s with heap := h', toks := s.toks + (keyD d).draws } := fun LD' e q1 q2 => by
    subst e
    obtain ⟨o', ho', _⟩ := R'.ob
    exact h LD' _ q1 q2 (I.write (t' := s.toks + (keyD d).draws) (x := D') (e := D') (by rw [hD]; exact True.intro) (.inl rfl) (fun c u hc hu => (sb.2 c hc).trans hu) ⟨o', ho'⟩ (setDO_ok R'))
  show wpAny _ _ (ret Value.none) _ _ _
  refine wpAny_pure ⟨_, rfl, ?_⟩
  rcases Classical.em (d ∈ LD.map (·.2)) with z | z
  · exact fin LD (c1 (mem_iff.mpr z)) (fun _ => rfl) fun q => absurd z q
  · obtain ⟨LD', e, p⟩ := perm_unmap (f := fun p : Addr × D => (p.1, keyD p.2)) (xs := (b, d) :: LD) (c2 fun q => z (mem_iff.mp q)) rfl
    exact fin LD' e (fun q => absurd q z) fun _ => p

/-! ### sorted -/
mutual
/-- a member holds no list: where lists lie does not matter -/
theorem key_rep {K : PySem.W.Frag} {q : Option (Addr × Addr)} {A A' : Addr → Prop} {H : Hp} : ∀ (d : D) (k k' : Nat) (v : V), keyF d = true → Rep K q A k H v d → Rep K q A' k' H v d
  | .non, k, k', v, _, r => by unfold Rep at r ⊢; exact r
  | .int i, k, k', v, _, r => by unfold Rep at r ⊢; exact r
  | .str x, k, k', v, _, r => by unfold Rep at r ⊢; exact r
  | .tup ds, k, k', v, f, r => by
    unfold Rep at r ⊢
    obtain ⟨a, vs, e, h1, h2⟩ := r
    exact ⟨a, vs, e, h1, keyL_rep ds _ _ vs (by simpa [keyF] using f) h2⟩
  | .bl _, _, _, _, f, _ => by simp [keyF] at f
  | .lst _, _, _, _, f, _ => by simp [keyF] at f
  | .dct _, _, _, _, f, _ => by simp [keyF] at f
  | .set _, _, _, _, f, _ => by simp [keyF] at f
  | .fn _ _, _, _, _, f, _ => by simp [keyF] at f
  | .src, _, _, _, f, _ => by simp [keyF] at f
theorem keyL_rep {K : PySem.W.Frag} {q : Option (Addr × Addr)} {A A' : Addr → Prop} {H : Hp} : ∀ (ds : List D) (k k' : Nat) (vs : List V), keyFL ds = true → RepL K q A k H vs ds → RepL K q A' k' H vs ds
  | [], k, k', vs, _, r => by unfold RepL at r ⊢; exact r
  | d :: ds, k, k', vs, f, r => by
    simp only [keyFL, Bool.and_eq_true] at f
    unfold RepL at r ⊢
    obtain ⟨v, vr, e, h1, h2⟩ := r
    exact ⟨v, vr, e, key_rep d _ _ v f.1 h1, keyL_rep ds _ _ vr f.2 h2⟩
end
theorem each_mem {α β γ : Type} {R : β → γ → Prop} {f : α → β} {k : α → γ} : ∀ {l : List α}, (∀ x ∈ l, R (f x) (k x)) → PySem.W.EachIs R (l.map f) (l.map k)
  | [], _ => .nil
  | x :: l, h => .cons (h x List.mem_cons_self) (each_mem fun y hy => h y (List.mem_cons_of_mem _ hy))
theorem canon_some {xs zs : List D} (h : canon xs = some zs) : xs.length < 64 ∧ (∀ d ∈ xs, keyOk d = true) ∧ (∀ x ∈ xs, ∀ y ∈ xs, PySem.W.alike (toPy x) (toPy y) = true) ∧ zs = (dedup xs).mergeSort leD := by
  unfold canon at h
  split at h
  · rename_i c
    cases h
    simp only [Bool.and_eq_true, decide_eq_true_eq, List.all_eq_true, alikeL] at c
    exact ⟨c.1.1, c.1.2, c.2.1.1.1.1, rfl⟩
  · cases h
theorem sortedQ_ok {D' : Addr} {LD : List (Addr × D)} {xs zs : List D} {Q : Value → Shared → Prop} {E : Value → Shared → Prop} (hK : X.K = g.K) (hh : X.A.handled = none) (hu : X.A.units + 80 < cLine) (I : Inv X pins σ H s) (hD : H D' = some (SetDO X.w D' LD)) (hall : ∀ p ∈ LD, MemR g H p)
    (hc : canon xs = some zs) (hm : ∀ d, d ∈ xs ↔ d ∈ LD.map (·.2))
    (fin : ∀ q vs s', H q = none → RepL g.K g.q A 0 H vs zs → Inv X pins σ (upd H q (.lst vs)) s' → Q (.ref q) s') :
    wpAny (model X.prog X.w) X.A (call (.builtin "sorted") [.ref D']) Q E s := by
  obtain ⟨es, ep, t, R⟩ := setDO_get I hD
  obtain ⟨c1, c2, c3, c4⟩ := canon_some hc
  obtain ⟨o, ho, hex, hd⟩ := R.ob
  have hfew : LD.length < 64 := by simpa using R.few
  refine Calls.call_function_entry kind_sorted plain_sorted entry_sorted (args_sorted1 _) ?_
  unfold Builtin.«sorted»
  refine wpAny_bind (m := checkCount "sorted" 1 1 _) (wpAny_pure ?_)
  refine wpAny_bind (collect_set (A := X.A.in1) hh ⟨o, ho, hex.1, hd⟩ R.fits (by unfold scanBound; rw [R.size, List.length_map]; omega) R.tab.ris R.led fun s1 vs k1 hz g1 o1 pm => ?_)
  have hes : es.toList.map (·.2) = LD.map fun q => Value.ref q.1 := by
    rw [R.rows]
    simp [rowQ, List.map_map, Function.comp_def]
  obtain ⟨LD1, e1, p1⟩ := perm_unmap (f := fun q : Addr × D => Value.ref q.1) pm hes
  have inLD : ∀ {p}, p ∈ LD1 → p ∈ LD := fun h => p1.mem_iff.mp h
  have hvl : vs.length < 64 := by rw [e1, List.length_map, p1.length_eq]; exact hfew
  have I1 : Inv X pins σ H s1 := I.call' (ch := []) o1 (Un.kept k1) (I.hok.kept k1) (by rw [g1]; exact I.bare) (fun _ z => nomatch z)
  refine wpAny_bind (wpAny_newList ?_ (by rw [sizeLine_eq]; omega))
  have hoL : (s1.heap.push (seqObj "list" vs.toArray 0)).get? s1.heap.objs.size = some (seqObj "list" vs.toArray 0) := Heap.get?_push_size _ rfl
  have I2 : Inv X pins σ H { s1 with heap := s1.heap.push (seqObj "list" vs.toArray 0) } := I1.kept (t' := s1.toks) fun b u e => Heap.get?_push_of_some _ e
  have nd : (LD.map (·.2)).Nodup := by
    have := R.nd
    rw [List.map_map] at this
    exact L2.nodup_of_map (f := keyD) (by rw [List.map_map]; exact this)
  have pb : (LD1.map (·.2)).Perm (dedup xs) := by
    obtain ⟨d1, d2⟩ := dedup_ok fun d hd => (key_ok (c2 d hd)).2.1
    refine (List.perm_ext_iff_of_nodup ((p1.map (·.2)).nodup_iff.mpr nd) d1).mpr fun x => ?_
    rw [(p1.map (·.2)).mem_iff, d2, hm]
  have inX : ∀ d ∈ LD1.map (·.2), d ∈ xs := fun d h => (hm d).mpr ((p1.map (·.2)).mem_iff.mp h)
  refine wpAny_bind (wpAny_holding ?_)
  subst e1
  refine PySem.W.list_sort_data (enc := toPy) (R := ItR g A 0 H) (bs := LD1.map (·.2)) (s := { s1 with heap := s1.heap.push (seqObj "list" (LD1.map fun q : Addr × D => Value.ref q.1).toArray 0) }) hoL (each_mem fun p hp => ?_) (each_mem fun p hp => ?_) ?_ ?_ (by rw [List.length_map, p1.length_eq, sizeLine_eq]; omega) (fun b hb => ?_) fun out hl he => ?_
  · obtain ⟨_, A', k', r⟩ := hall p (inLD hp)
    exact ⟨.ref p.1, rfl, key_rep _ _ _ _ (key_ok (hall p (inLD hp)).1).2.1 r⟩
  · exact ⟨[], (hall p (inLD hp)).reads hK I2, by simp⟩
  · intro d hd d' hd'
    obtain ⟨y, hy, rfl⟩ := List.mem_map.mp hd
    obtain ⟨y', hy', rfl⟩ := List.mem_map.mp hd'
    exact c3 y (inX y hy) y' (inX y' hy')
  · refine .inl fun d hd => ?_
    obtain ⟨y, hy, rfl⟩ := List.mem_map.mp hd
    obtain ⟨⟨a, r, e⟩, _, _⟩ := key_ok (c2 y (inX y hy))
    subst e
    exact ⟨toPy a, toPyL r, by simp [toPy, toPyL]⟩
  · obtain ⟨_, k2, k3⟩ := key_ok (c2 b (inX b hb))
    rw [depth_py (keyF_pure _ k2), ← keyD_depth b k2]
    show X.A.units + 1 + 1 + _ < cLine
    omega
  · obtain ⟨vs', q1, q2⟩ := of_each he
    obtain ⟨c, hcs⟩ := sortedHeap_at (vs := LD1.map fun q : Addr × D => Value.ref q.1) (out := out.toArray) hoL
    have q3 : RepL g.K g.q A 0 H vs' zs := by
      rw [c4, ← sortK_perm pb (fun d hd => (key_ok (c2 d (inX d hd))).2.1) fun x hx y hy => c3 x (inX x hx) y (inX y hy)]
      exact q1
    refine wpAny_pure ⟨_, rfl, fin s1.heap.objs.size vs' _ (I1.hok.fresh (Nat.le_refl _)) q3 ?_⟩
    refine I1.laid (t' := s1.toks) (fun b u e => ?_) (Nat.le_refl _) ⟨?_, out, c, q2, hcs⟩
    · have hlt := Heap.lt_size e
      rw [sortedHeap_old (Nat.ne_of_lt hlt) (by rw [size_push']; exact Nat.lt_succ_of_lt hlt)]
      exact Heap.get?_push_of_some _ e
    · rw [q1.length, List.length_mergeSort, List.length_map, p1.length_eq, sizeLine_eq]
      omega
end O
end

section
set_option Elab.async false
set_option linter.all false
set_option maxRecDepth 100000
namespace O
open PySem PySem.Spec PyProof.Rows L2
variable {g : Gx} {W : WX} {ks : Nat → Nat} {σ : L2.St} {H H' H1 : Hp} {env : Env} {o o' : OS} {A : Addr → Prop} {τ : Ty} {Q : VK} {X : Cx} {pins : List (Addr × Obj)} {s : Shared}
variable {F : Nat → List D → OS → R D} {G : Nat → D}
/-! ### targets -/
mutual
def tgN : Tg → List Nat
  | .nm i => [i]
  | .tup ts => tgNs ts
def tgNs : Tgs → List Nat
  | .nil => []
  | .cons t ts => tgN t ++ tgNs ts
end
/-- slots as far as they are not stored into -/
def Keeps (vs : List Nat) (σ σ' : L2.St) (e e' : Env) : Prop := σ'.length = σ.length ∧ e'.length = e.length ∧ ∀ j, j ∉ vs → σ'[j]? = σ[j]? ∧ e'[j]? = e[j]?
theorem Keeps.refl {vs : List Nat} {e : Env} : Keeps vs σ σ e e := ⟨rfl, rfl, fun _ _ => ⟨rfl, rfl⟩⟩
theorem Keeps.trans {vs us : List Nat} {σ1 σ2 σ3 : L2.St} {e1 e2 e3 : Env} (a : Keeps vs σ1 σ2 e1 e2) (b : Keeps us σ2 σ3 e2 e3) : Keeps (vs ++ us) σ1 σ3 e1 e3 :=
  ⟨b.1.trans a.1, b.2.1.trans a.2.1, fun j h => by
    have h1 := a.2.2 j fun z => h (List.mem_append_left _ z)
    have h2 := b.2.2 j fun z => h (List.mem_append_right _ z)
    exact ⟨h2.1.trans h1.1, h2.2.trans h1.2⟩⟩
theorem Keeps.set {i : Nat} {v : V} {d : D} {e : Env} : Keeps [i] σ (σ.set i (some v)) e (e.set i (some d)) :=
  ⟨List.length_set, List.length_set, fun j h => by
    have : i ≠ j := fun z => h (by simp [z])
    exact ⟨List.getElem?_set_ne this, List.getElem?_set_ne this⟩⟩
theorem Slots.set {i : Nat} {v : V} {d : D} (s : Slots g A ks H σ env) (r : Rep g.K g.q A (ks i) H v d) : Slots g A ks H (σ.set i (some v)) (env.set i (some d)) := by
  refine ⟨by rw [List.length_set, List.length_set]; exact s.len, fun j e h => ?_⟩
  by_cases z : i = j
  · subst z
    rw [List.getElem?_set] at h ⊢
    simp only [if_true] at h ⊢
    have hl := s.len
    split at h
    · cases h
      rw [if_pos (by omega)]
      exact ⟨v, rfl, r⟩
    · cases h
  · rw [List.getElem?_set_ne z] at h ⊢
    exact s.get j e h
theorem At.set {i : Nat} {v : V} {d : D} (a : At g A ks σ H env o) (r : Rep g.K g.q A (ks i) H v d) : At g A ks (σ.set i (some v)) H (env.set i (some d)) o := ⟨a.sl.set r, a.or, a.dom⟩
/-- a value stored by a target, its names' slots not lent to anyone -/
def gRd (g : Gx) (ks : Nat → Nat) (t : Tg) : TG := fun v σ H Q => ∃ env o A d env', At g A ks σ H env o ∧ Rep g.K g.q A 0 H v d ∧ asgT t d env = some env' ∧
  ∀ σ', At g A ks σ' H env' o → Keeps (tgN t) σ σ' env env' → Q σ' H
def gRds (g : Gx) (ks : Nat → Nat) (ts : Tgs) : TGs := fun vs σ H Q => ∃ env o A ds env', At g A ks σ H env o ∧ RepL g.K g.q A 0 H vs ds ∧ asgTs ts ds env = some env' ∧ ds.length = Tg.n ts ∧
  ∀ σ', At g A ks σ' H env' o → Keeps (tgNs ts) σ σ' env env' → Q σ' H
theorem _root_.L2.PG.of {e : Expr} {t t' : TG} (h : PG X e t) (i : ∀ v σ H Q, t' v σ H Q → t v σ H Q) : PG X e t' := ⟨fun pins s σ H v u Q I r z => h.run pins s σ H v u Q I r (i v σ H Q z)⟩
theorem _root_.L2.PGs.of {e : List Expr} {t t' : TGs} (h : PGs X e t) (i : ∀ v σ H Q, t' v σ H Q → t v σ H Q) : PGs X e t' := ⟨fun pins s σ H v u Q I r z => h.run pins s σ H v u Q I r (i v σ H Q z)⟩
theorem g_nm {i : Nat} {x : PySem.Str} {pos : Pos} (hN : X.N.Nodup) (hi : X.N[i]? = some x) (hx : Loc X.env.scope x) (hf : X.fn x = true ∨ X.env.scope.names.lookup x = some .local) : PG X (.Name x pos) (gRd g ks (.nm i)) := by
  refine (pg_name hN hi hx hf).of fun v σ H Q ⟨env, o, A, d, env', a, r, h, k⟩ => ?_
  simp only [asgT, Option.some.injEq] at h; subst h
  exact k _ (a.set (r.le (Nat.zero_le _))) .set
theorem g_nil : PGs X [] (gRds g ks .nil) := by
  refine pgs_nil.of fun v σ H Q ⟨env, o, A, ds, env', a, r, h, hl, k⟩ => ?_
  simp only [asgTs, Option.some.injEq] at h; subst h
  have : ds = [] := List.eq_nil_of_length_eq_zero hl
  subst this
  unfold RepL at r
  exact ⟨r, k _ a .refl⟩
theorem n_cons (t : Tg) (ts : Tgs) : Tg.n (.cons t ts) = Tg.n ts + 1 := rfl
theorem g_cons {e : Expr} {es : List Expr} {t : Tg} {ts : Tgs} (h1 : PG X e (gRd g ks t)) (h2 : PGs X es (gRds g ks ts)) (hs : notStar e = true) : PGs X (e :: es) (gRds g ks (.cons t ts)) := by
  refine (pgs_cons h1 h2 ?_).of fun v σ H Q ⟨env, o, A, ds, env', a, r, h, hl, k⟩ => ?_
  · cases e <;> first | rfl | (simp [notStar] at hs)
  · match ds, r, h with
    | d :: ds, r, h =>
      unfold RepL at r
      obtain ⟨v, vr, rfl, r1, r2⟩ := r
      simp only [asgTs] at h
      cases e1 : asgT t d env with
      | none => rw [e1] at h; cases h
      | some env1 =>
        rw [e1] at h
        exact ⟨v, vr, rfl, env, o, A, d, env1, a, r1, e1, fun σ1 a1 k1 => ⟨env1, o, A, ds, env', a1, r2, h, by rw [List.length_cons, n_cons] at hl; omega, fun σ2 a2 k2 => k _ a2 (by unfold tgNs; exact k1.trans k2)⟩⟩
theorem eachLen : ∀ (es : List Expr), (assignEach es X.env).length = es.length
  | [] => rfl
  | e :: es => by
    have ih := eachLen es
    cases e <;> (show _ + 1 = _ + 1; rw [ih])
theorem eachStar : ∀ {es : List Expr}, es.all notStar = true → (assignEach es X.env).findIdx? (·.1) = none
  | [], _ => rfl
  | e :: es, h => by
    rw [List.all_cons, Bool.and_eq_true] at h
    have ih := eachStar h.2
    have : assignEach (e :: es) X.env = (false, assign e X.env) :: assignEach es X.env := by
      cases e <;> first | rfl | (simp [notStar] at h)
    rw [this, List.findIdx?_cons, ih]
    rfl
theorem g_tup {es : List Expr} {k : Nat} {pos : Pos} {ts : Tgs} (hK : X.K = g.K) (hc : X.calm = true) (h : PGs X es (gRds g ks ts)) (hn : es.length = Tg.n ts) (hs : es.all notStar = true) : PG X (.Tuple es k pos) (gRd g ks (.tup ts)) := by
  refine (pg_tup hc h (eachLen es) (eachStar hs)).of fun v σ H Q ⟨env, o, A, d, env', a, r, h, k⟩ => ?_
  cases d <;> first | (simp [asgT] at h; done) | skip
  case tup ds =>
    simp only [asgT] at h
    split at h
    · rename_i c
      unfold Rep at r
      obtain ⟨p, vs, rfl, r1, r2⟩ := r
      exact ⟨p, vs, rfl, hK ▸ r1, by rw [r2.length, c, hn], env, o, A, ds, env', a, r2, h, c, fun σ' a' k' => k σ' a' (by unfold tgN; exact k')⟩
    · cases h
/-! ### comprehensions -/
theorem wipe_get {vs : List Nat} : ∀ {σ : L2.St} {i : Nat}, i ∉ vs → (wipe σ vs)[i]? = σ[i]? := by
  induction vs with
  | nil => intro σ i _; rfl
  | cons v vs ih =>
    intro σ i h
    unfold wipe
    rw [List.getElem?_set_ne (fun z => h (by simp [z]))]
    exact ih fun z => h (List.mem_cons_of_mem _ z)
theorem wipe_own {vs : List Nat} : ∀ {σ : L2.St} {i : Nat}, i ∈ vs → i < σ.length → (wipe σ vs)[i]? = some none := by
  induction vs with
  | nil => intro σ i h; cases h
  | cons v vs ih =>
    intro σ i h hi
    unfold wipe
    by_cases z : v = i
    · subst z
      rw [List.getElem?_set_self (by rw [wipe_length]; exact hi)]
    · rw [List.getElem?_set_ne z]
      exact ih ((List.mem_cons.mp h).resolve_left fun e => z e.symm) hi
theorem wipe_keeps {vs us : List Nat} {σ σ' : L2.St} {e e' : Env} (k : Keeps us σ σ' e e') (h : ∀ i ∈ us, i ∈ vs) : wipe σ' vs = wipe σ vs := by
  refine List.ext_getElem? fun i => ?_
  by_cases z : i ∈ vs
  · by_cases hi : i < σ.length
    · rw [wipe_own z hi, wipe_own z (by rw [k.1]; exact hi)]
    · rw [List.getElem?_eq_none (by rw [wipe_length, k.1]; omega), List.getElem?_eq_none (by rw [wipe_length]; omega)]
  · rw [wipe_get z, wipe_get z]
    exact (k.2.2 i fun q => z (h i q)).1
theorem wipe_idem {vs : List Nat} : wipe (wipe σ vs) vs = wipe σ vs := by
  refine List.ext_getElem? fun i => ?_
  by_cases z : i ∈ vs
  · by_cases hi : i < σ.length
    · rw [wipe_own z (by rw [wipe_length]; exact hi), wipe_own z hi]
    · rw [List.getElem?_eq_none (by rw [wipe_length, wipe_length]; omega), List.getElem?_eq_none (by rw [wipe_length]; omega)]
  · rw [wipe_get z]
theorem wipeE_get {vs : List Nat} : ∀ {e : Env} {i : Nat} {d : D}, (wipeE e vs)[i]? = some (some d) → e[i]? = some (some d) ∧ i ∉ vs := by
  induction vs with
  | nil => intro e i d h; exact ⟨h, by simp⟩
  | cons v vs ih =>
    intro e i d h
    unfold wipeE at h
    by_cases z : v = i
    · subst z
      rw [List.getElem?_set] at h
      simp only [if_true] at h
      split at h <;> cases h
    · rw [List.getElem?_set_ne z] at h
      obtain ⟨h1, h2⟩ := ih h
      exact ⟨h1, by simp only [List.mem_cons, not_or]; exact ⟨fun q => z q.symm, h2⟩⟩
theorem wipeE_length {vs : List Nat} {e : Env} : (wipeE e vs).length = e.length := by
  induction vs with
  | nil => rfl
  | cons v vs ih => unfold wipeE; rw [List.length_set, ih]
theorem At.wipe {vs : List Nat} (a : At g A ks σ H env o) : At g A ks (wipe σ vs) H (wipeE env vs) o := by
  refine ⟨⟨by rw [wipeE_length, wipe_length]; exact a.sl.len, fun i d h => ?_⟩, a.or, a.dom⟩
  obtain ⟨h1, h2⟩ := wipeE_get h
  obtain ⟨v, hv, r⟩ := a.sl.get i d h1
  exact ⟨v, by rw [wipe_get h2]; exact hv, r⟩
/-- more places to be kept away from; lists that are not there yet may change -/
theorem At.grow {A' : Addr → Prop} (a : At g A ks σ H env o) (h : ∀ b, A' b → A b ∨ H b = none) {M : Addr → Prop} (c : Chg g.q M H H') (m : ∀ b, M b → H b = none) (d : ∀ b, A' b → H' b ≠ none) (r : Or g.q H' o') : At g A' ks σ H' env o' := by
  refine ⟨⟨a.sl.len, fun i d h' => ?_⟩, r, d⟩
  obtain ⟨v, hv, rv⟩ := a.sl.get i d h'
  exact ⟨v, hv, Rep.chg c d _ _ (fun b x => .inr (m b x)) (Rep.grow h d _ _ rv)⟩
theorem Post.nox {α β : Type} {x : R α} {f : α → OS → R β} {P : β → OS → Prop} {E E' : Nat → OS → Prop} (h : Post (x.nox.bind f) P E) : Post x (fun a o => Post (f a o) P E) E' := by
  cases x with
  | ok a o => exact h
  | ex c o => exact h.elim
  | bad => exact h

theorem R.bind_assoc {α β γ : Type} {x : R α} {f : α → OS → R β} {k : β → OS → R γ} : (x.bind f).bind k = x.bind fun a o => (f a o).bind k := by cases x <;> rfl
theorem Or.upd {p : Addr} {u : HO} (h : Or g.q H o) (n : ¬ ocOf g.q p) : Or g.q (upd H p u) o := fun a c e => by
  obtain ⟨h1, h2, h3, h4⟩ := h a c e
  have n1 : a ≠ p := fun z => n (by subst z; exact ⟨_, e, .inl rfl⟩)
  have n2 : c ≠ p := fun z => n (by subst z; exact ⟨_, e, .inr rfl⟩)
  exact ⟨h1, by rw [upd_ne n1]; exact h2, by rw [upd_ne n2]; exact h3, h4⟩
/-- nothing is raised -/
def WN : WX := fun _ _ _ _ => False
def stepC (F : Nat → List D → OS → R D) (G : Nat → D) (t : Tg) (cs : Es) (e : E) (env : Env) : D → OS → R (Option D) := fun d o => (R.of (asgT t d env) o).bind fun env' o2 => (evC F G cs env' o2).nox.bind fun b o3 => if b then (evE F G e env' o3).nox.bind fun x o4 => .ok (some x) o4 else .ok none o3
theorem lc_walk {t : Tg} {cs : Es} {e : E} {f j : Nat} {vs : List Nat} {gt : TG} {tt : TT} {te : TE} {J : L2.It} {ds : List D} {o1 : OS} {Qd : List D → OS → Prop} {EE : Nat → OS → Prop} {Qr : Hp → Prop} {D : Addr} (hj : j ≤ 1) (hsub : ∀ i ∈ tgN t, i ∈ vs)
    (a1 : At g A ks σ H1 env o1) (hit : ItOk g A j J H1 ds) (hD : H1 D = none) (h : Post (lcGo (stepC F G t cs e (wipeE env vs)) ds [] o1) Qd EE)
    (hgt : ∀ v σ H Q, gRd g ks t v σ H Q → gt v σ H Q) (htt : ∀ σ H Q, rdT g WN ks (evC F G cs) σ H Q → tt σ H Q) (hte : ∀ σ H Q, rdE g WN ks ⟨0, f⟩ (evE F G e) σ H Q → te σ H Q)
    (fin : ∀ xs us o' H', Qd xs o' → Chg g.q (· = D) H1 H' → Or g.q H' o' → H' D = some (.lst us) → RepL g.K g.q (fun b => A b ∨ b = D) 0 H' us xs → Qr H') :
    ∃ W : Nat → Nat → Hp → Prop, (∃ m, W 0 m (upd H1 D (.lst []))) ∧ ∀ i m H, W i m H →
      (J.stop i H ∧ Qr H) ∨ (J.go i H ∧ ∃ Nx : Hp → Prop, (∀ H', Nx H' → ∃ m', m' < m ∧ W (i + 1) m' H') ∧ ∀ x H', J.yld i H x H' → gt x (wipe σ vs) H' fun σ2 H2 => wipe σ2 vs = wipe σ vs ∧ tt σ2 H2 fun b H3 =>
        if b = true then te σ2 H3 fun y H4 => ∃ acc, H4 D = some (.lst acc) ∧ acc.length < sizeLine ∧ Nx (upd H4 D (.lst (acc ++ [y]))) else Nx H3) := by
  have nD : ¬ ocOf g.q D := (free_not a1.dom a1.or hD).2
  have hA2 : ∀ b, (A b ∨ b = D) → A b ∨ H1 b = none := fun b hb => hb.imp_right fun z => by rw [z]; exact hD
  have hM : ∀ b, b = D → H1 b = none := fun b z => by rw [z]; exact hD
  have J2 := hit _ hA2
  refine ⟨fun i m Hc => ∃ acc us oc, m = ds.length - i ∧ Chg g.q (· = D) H1 Hc ∧ Hc D = some (.lst us) ∧ RepL g.K g.q (fun b => A b ∨ b = D) 0 Hc us acc ∧ Or g.q Hc oc ∧ Post (lcGo (stepC F G t cs e (wipeE env vs)) (ds.drop i) acc oc) Qd EE,
    ⟨_, [], [], o1, rfl, (Ext.new hD).chg, upd_same, .nil, a1.or.new hD, h⟩, ?_⟩
  rintro i m Hc ⟨acc, us, oc, rfl, c, eD, rl, orc, hp⟩
  obtain ⟨j1, j2⟩ := J2 (· = D) Hc (fun b z => .inr (hM b z)) c i
  by_cases hi : i < ds.length
  · have hd : ds[i]? = some ds[i] := List.getElem?_eq_getElem hi
    obtain ⟨go, yl⟩ := j2 _ hd
    refine .inr ⟨go, fun Hn => ∃ acc us oc, Chg g.q (· = D) H1 Hn ∧ Hn D = some (.lst us) ∧ RepL g.K g.q (fun b => A b ∨ b = D) 0 Hn us acc ∧ Or g.q Hn oc ∧ Post (lcGo (stepC F G t cs e (wipeE env vs)) (ds.drop (i + 1)) acc oc) Qd EE,
      fun H' ⟨acc', us', oc', w⟩ => ⟨ds.length - (i + 1), by omega, acc', us', oc', rfl, w⟩, fun x H' y => ?_⟩
    obtain ⟨sm, rx⟩ := yl x H' y
    rw [show j - 1 = 0 by omega] at rx
    have eH : Ext g.q Hc H' := .of_same sm
    have c' : Chg g.q (· = D) H1 H' := c.trans eH.chg
    have a2 : At g (fun b => A b ∨ b = D) ks (wipe σ vs) H' (wipeE env vs) oc := At.wipe (a1.grow hA2 c' hM (fun b hb => hb.elim (fun z => c'.dom b (a1.dom b z)) fun z => by rw [z, eH.oth _ _ eD nD]; simp) (orc.same sm))
    rw [List.drop_eq_getElem_cons hi] at hp
    unfold lcGo at hp
    rw [show stepC F G t cs e (wipeE env vs) ds[i] oc = _ from rfl] at hp
    unfold stepC at hp
    rw [R.bind_assoc] at hp
    obtain ⟨env', he', hp⟩ := hp.ofb
    rw [R.bind_assoc] at hp
    refine hgt _ _ _ _ ⟨_, oc, _, ds[i], env', a2, rx, he', fun σ' a3 k3 => ⟨by rw [wipe_keeps k3 hsub, wipe_idem], htt _ _ _ ⟨env', oc, _, a3, (Post.nox hp).mono (fun b o3 hb H3 e3 or3 => ?_) fun _ _ z => z⟩⟩⟩
    have c3 := c'.trans e3.chg
    have e3D : H3 D = some (.lst us) := (eH.trans e3).oth _ _ eD nD
    have rl3 := rl.ext (eH.trans e3)
    cases b with
    | false =>
      simp only [Bool.false_eq_true, if_false] at hb ⊢
      exact ⟨acc, us, o3, c3, e3D, rl3, or3, hb⟩
    | true =>
      simp only [if_true] at hb ⊢
      rw [R.bind_assoc] at hb
      refine hte _ _ _ ⟨env', o3, _, a3.next e3 or3, (Post.nox hb).mono (fun yd o4 hy v H4 e4 or4 r4 => ?_) fun _ _ z => z⟩
      have e4D := e4.oth _ _ e3D nD
      have c4 := c3.trans e4.chg
      simp only [R.bind_ok] at hy
      split at hy
      · rename_i hlen
        refine ⟨us, e4D, by rw [rl3.length, lid_eq]; exact hlen, acc ++ [yd], us ++ [v], o4, c4.trans (Chg.set rfl e4D), upd_same, ?_, or4.upd nD, hy⟩
        exact RepL.chg' (Chg.set (M := (· = D)) rfl e4D) _ _ _ (fun b z => .inl ⟨rfl, .inr z⟩) ((rl3.ext e4).append (.cons r4.1 .nil))
      · exact hy.elim
  · refine .inl ⟨j1 (by omega), ?_⟩
    rw [List.drop_eq_nil_of_le (by omega)] at hp
    unfold lcGo at hp
    exact fin acc us oc Hc hp c orc eD rl
theorem c_lc {t : Tg} {it : It} {cs : Es} {e : E} {f j : Nat} {elt tg iter : Expr} {ifs : List Expr} {scope : Scope} {own : List (PySem.Str × Nat)} {pos : Pos} (hc : X.calm = true) (hN : X.N.Nodup) (hj : j ≤ 1) (hi : PI X tg iter (rdI g W ks j (evI F G it)))
    (ok : BlkOk X.N X.env.scope scope own) (hsub : ∀ i ∈ tgN t, i ∈ own.map (·.2)) (hf : ∀ x, foldedSetIterable iter X.env x = Pure.pure x)
    (hg : ∀ (s : Shared) (H : Hp) (C : Addr) (cl : List (PySem.Str × Addr)) (fp : List Addr), PG (X.blk s H scope (compEnvC scope cl C X.env) fp) tg (gRd g ks t))
    (ht : ∀ (s : Shared) (H : Hp) (C : Addr) (cl : List (PySem.Str × Addr)) (fp : List Addr), PTs (X.blk s H scope (compEnvC scope cl C X.env) fp) ifs (rdT g WN ks (evC F G cs)))
    (he : ∀ (s : Shared) (H : Hp) (C : Addr) (cl : List (PySem.Str × Addr)) (fp : List Addr), PE (X.blk s H scope (compEnvC scope cl C X.env) fp) elt (rdE g WN ks ⟨0, f⟩ (evE F G e))) :
    PE X (.ListComp elt [⟨tg, iter, ifs, 0⟩] scope pos) (rdE g W ks ⟨0, 1⟩ (evE F G (.lc (own.map (·.2)) t it cs e))) := by
  refine (pe_lc hc hN hi ok hg ht he hf).of fun σ H Q ⟨env, o, A, a, h⟩ => ?_
  unfold evE at h
  refine ⟨env, o, A, a, h.bind.mono (fun ds o1 hd J H1 e1 or1 hit D hD => ?_) fun _ _ z => z⟩
  have a1 := a.next e1 or1
  refine lc_walk (f := f) hj hsub a1 hit hD hd.bind (fun _ _ _ _ z => z) (fun _ _ _ z => z) (fun _ _ _ z => z) fun xs us o' H' hq c r eD rl => ?_
  have hM : ∀ b, b = D → H1 b = none := fun b z => by rw [z]; exact hD
  have nD := free_not a1.dom a1.or hD
  refine hq (.ref D) H' (e1.trans (c.ext hM)) r ⟨?_, fun _ => ⟨[D], ?_, by simp, fun b hb => ?_, ?_⟩⟩
  · unfold Rep
    exact ⟨D, us, rfl, eD, nD.2, fun _ => nD.1, RepL.mono (A := fun b => A b ∨ b = D) .refl (fun b z => .inl z) _ _ _ _ (Nat.le_refl _) rl⟩
  · unfold OwnR
    exact ⟨D, us, [], rfl, eD, rfl, ownL0 rl.length⟩
  · rw [List.mem_singleton.mp hb]
    exact ⟨e1.free hD, nD.2⟩
  · unfold Rep
    exact ⟨D, us, rfl, eD, nD.2, fun z => absurd z (by decide), RepL.mono (A := fun b => A b ∨ b = D) .refl (fun b (z : A b ∨ b ∈ [D]) => z.imp_right fun q => List.mem_singleton.mp q) _ _ _ _ (Nat.le_refl _) rl⟩
theorem tests_nil : PTs X [] (rdT g W ks (evC F G .nil)) := ⟨fun pins s σ H Q I ⟨env, o, A, a, h⟩ => pts_nil.run pins s σ H Q I (by unfold evC at h; exact h H .refl a.or)⟩
theorem tests_one {c : E} {ec : Expr} (h : PT X ec (rdT g W ks (tst (evE F G c)))) : PTs X [ec] (rdT g W ks (evC F G (.cons c .nil))) := ⟨fun pins s σ H Q I ⟨env, o, A, a, z⟩ => (pts_one h).run pins s σ H Q I ⟨env, o, A, a, by
  unfold evC evC at z
  unfold tst
  cases e : evE F G c env o with
  | ok x o1 =>
    rw [e] at z
    simp only [R.bind_ok] at z ⊢
    cases t : truthy x <;> rw [t] at z <;> exact z
  | ex c o1 => rw [e] at z; exact z
  | bad => rw [e] at z; exact z⟩⟩
end O
end

section
set_option Elab.async false
set_option linter.all false
set_option maxRecDepth 100000
set_option maxHeartbeats 4000000
/-! OSetC: a set's comprehension. -/
namespace O
open PySem PySem.Spec PyProof.Rows L2 PpSet
section
variable {X : Cx} {g : Gx}
abbrev newSetO (w : World) : Obj := { cls := .type "set", dict := none, data := .set #[] 0 (.fresh 0 0 (!w.params.followText "set-order")) }
/-- {elt for target in iter if ..}, elt a tuple: D the new set -/
def tSq (g : Gx) (w : World) (wi : TI) (gt : TG) (tt : TT) (te : TE) (vs : List Nat) : TE := fun σ H Q => wi σ H fun J H1 => ∀ D', H1 D' = none → ∃ W : Nat → Nat → Hp → Prop, (∃ m, W 0 m (upd H1 D' (SetDO w D' []))) ∧ ∀ i m H, W i m H →
  (J.stop i H ∧ Q (.ref D') H) ∨ (J.go i H ∧ ∃ Nx : Hp → Prop, (∀ H', Nx H' → ∃ m', m' < m ∧ W (i + 1) m' H') ∧ ∀ x H', J.yld i H x H' → gt x (wipe σ vs) H' fun σ2 H2 => wipe σ2 vs = wipe σ vs ∧ tt σ2 H2 fun b H3 =>
    if b = true then te σ2 H3 fun y H4 => ∃ (bb : Addr) (d : D) (LD : List (Addr × D)), y = .ref bb ∧ H4 D' = some (SetDO w D' LD) ∧ MemR g H4 (bb, d) ∧ (∀ p ∈ LD, MemR g H4 p) ∧ LD.length + 1 < 64 ∧
      (∀ LD', (d ∈ LD.map (·.2) → LD' = LD) → (d ∉ LD.map (·.2) → LD'.Perm ((bb, d) :: LD)) → Nx (upd H4 D' (SetDO w D' LD'))) else Nx H3)
theorem pe_sq {elt tg iter : Expr} {ifs : List Expr} {scope : Scope} {own : List (PySem.Str × Nat)} {pos : Pos} {wi : TI} {gt : TG} {tt : TT} {te : TE} (hK : X.K = g.K) (hu : X.A.units + 80 < cLine) (hc : X.calm = true) (hN : X.N.Nodup) (hi : PI X tg iter wi) (ok : BlkOk X.N X.env.scope scope own)
    (hg : ∀ (s : Shared) (H : Hp) (C : Addr) (cl : List (PySem.Str × Addr)) (fp : List Addr), PG (X.blk s H scope (compEnvC scope cl C X.env) fp) tg gt) (ht : ∀ (s : Shared) (H : Hp) (C : Addr) (cl : List (PySem.Str × Addr)) (fp : List Addr), PTs (X.blk s H scope (compEnvC scope cl C X.env) fp) ifs tt)
    (he : ∀ (s : Shared) (H : Hp) (C : Addr) (cl : List (PySem.Str × Addr)) (fp : List Addr), PE (X.blk s H scope (compEnvC scope cl C X.env) fp) elt te) (hs : ∀ x, foldedSetIterable iter X.env x = Pure.pure x) :
    PE X (.SetComp elt [⟨tg, iter, ifs, 0⟩] scope pos) (tSq g X.w wi gt tt te (own.map (·.2))) := by
  refine ⟨fun pins s σ H Q I h => ?_⟩
  rw [eval_SetComp]
  have fr : ∀ y ∈ scope.names, y.2 = .free → ∃ c, X.env.cells.lookup y.1 = some c := fun y hy e => (ok.free y hy e).elim (fun k => I.ok.has _ (.inl k)) fun k => I.ok.has _ (.inr k)
  refine wpAny_comprehension_free (use := none) rfl hs (closure_ok fr) ok.kind (fun y hy e => by rw [ok.uniq y hy, e]) (thn (hi.run pins s σ H _ I h) fun xv s1 hx => thn hx fun itv s2 ⟨it, fp, tn, J, H2, e, I2, T, st2, f2, q⟩ => ?_)
  subst e
  refine newSet_ok (newEnv_comp ?_)
  generalize eD : s2.heap.objs.size = D'
  have nD : H2 D' = none := I2.hok.fresh (Nat.le_of_eq eD)
  obtain ⟨W, ⟨m0, w0⟩, turn⟩ := q D' nD
  generalize e3 : ({ s2 with heap := s2.heap.push (newSetO X.w) } : Shared) = s3
  have h3 : s3.heap = s2.heap.push (newSetO X.w) := by rw [← e3]
  have I3 : Inv X pins σ (upd H2 D' (SetDO X.w D' [])) s3 := by
    rw [← e3]
    exact I2.laid (t' := s2.toks) (fun b o z => Heap.get?_push_of_some _ z) (Nat.le_of_eq eD) (setDO_ok (sq_fresh (by rw [← eD]; exact Heap.get?_push_size _ rfl)))
  have below : ∀ b ∈ fp, b < s2.heap.objs.size := fun b hb => let ⟨o, z, _⟩ := T.obj _ _ st2 b hb; Heap.lt_size z
  have f3 : ∀ b ∈ fp, FpOk X pins (upd H2 D' (SetDO X.w D' [])) b ∧ b < s3.heap.objs.size := fun b hb =>
    ⟨⟨by rw [upd_ne (by rw [← eD]; exact Nat.ne_of_lt (below b hb))]; exact (f2 b hb).1, (f2 b hb).2⟩, by rw [h3, Heap.size_push]; exact Nat.lt_succ_of_lt (below b hb)⟩
  have st3 : tn 0 s3.heap := T.keep _ _ _ st2 fun b _ o z => by rw [h3]; exact Heap.get?_push_of_some _ z
  have I4 := block_start I3 ok hN f3
  have pg := hg s3 (upd H2 D' (SetDO X.w D' [])) s3.heap.objs.size (cellsFrom (s3.heap.objs.size + 1) scope.names (cloFrom X.env.cells scope.names [])) fp
  have pt := ht s3 (upd H2 D' (SetDO X.w D' [])) s3.heap.objs.size (cellsFrom (s3.heap.objs.size + 1) scope.names (cloFrom X.env.cells scope.names [])) fp
  have pe := he s3 (upd H2 D' (SetDO X.w D' [])) s3.heap.objs.size (cellsFrom (s3.heap.objs.size + 1) scope.names (cloFrom X.env.cells scope.names [])) fp
  show codeAny _ _ (.compStart (.SetComp elt [⟨tg, iter, ifs, 0⟩] scope pos) 0 (.ref it) (.ref D') (compEnvC scope (cellsFrom (s3.heap.objs.size + 1) scope.names (cloFrom X.env.cells scope.names [])) s3.heap.objs.size X.env)) (compPost (model X.prog X.w) X.A X.xe none (EP X pins σ Q) (.ref D') s3.heap.objs.size) { s3 with heap := pushCells (s3.heap.push { cls := .type "dict", data := .dict #[] }) scope.names }
  have free0 : ∀ b ∈ fp, (upd H2 D' (SetDO X.w D' [])) b = none := fun b hb => (f3 b hb).1.1
  generalize hce : compEnvC scope (cellsFrom (s3.heap.objs.size + 1) scope.names (cloFrom X.env.cells scope.names [])) s3.heap.objs.size X.env = ce at I4 pg pt pe ⊢
  have cL : ce.locals = s3.heap.objs.size := by subst hce; rfl
  generalize hH3 : upd H2 D' (SetDO X.w D' []) = H3 at I3 I4 pg pt pe w0 free0 f3
  generalize hs4 : ({ s3 with heap := pushCells (s3.heap.push { cls := .type "dict", data := .dict #[] }) scope.names } : Shared) = s4 at I4 ⊢
  have st4 : tn 0 s4.heap := T.keep _ _ _ st3 fun b _ o z => by rw [← hs4]; exact pushCells_keeps _ _ _ _ (Heap.get?_push_of_some _ z)
  have fpk : ∀ {σ' : L2.St} {H' : Hp} {s' : Shared}, Inv (X.blk s3 H3 scope ce fp) [] σ' H' s' → (∀ b ∈ fp, H' b = none) → ∀ b ∈ fp, FpOk (X.blk s3 H3 scope ce fp) [] H' b := fun {σ' H' s'} J' hn b hb =>
    ⟨hn b hb, (J'.ok.exf b hb).1, J'.ok.exfs b hb, .inl hb, fun x c z => (J'.ok.exf b hb).2 x c z, fun p hp => absurd (show p ∈ ([] : List (Addr × Obj)) ++ [] from hp) (by simp)⟩
  refine codeAny_compStart_set ?_ (T.self X.A 0 _ _ _ st4 ?_)
  all_goals
    refine compLoopS_any (fun n s' => ∃ i H', Inv (X.blk s3 H3 scope ce fp) [] (wipe σ (own.map (·.2))) H' s' ∧ tn i s'.heap ∧ (∀ b ∈ fp, H' b = none) ∧ W i n H') ?_ m0 ⟨0, H3, I4, st4, free0, w0⟩
    rintro n s5 ⟨i, H5, I5, st5, n5, w5⟩
    rcases turn i n H5 w5 with ⟨stop, fin⟩ | ⟨go, Nx, hNx, step⟩
    · refine thnF (T.done (X.blk s3 H3 scope ce fp) rfl rfl rfl hc i [] s5 _ H5 (fun _ _ => False) I5 (fpk I5 n5) st5 stop) fun r s6 ⟨hr, I6⟩ => ?_
      subst hr
      have I7 : Inv X pins σ H5 s6 := I3.call' (ch := fp) I6.os I6.base I6.hok I6.bare fun b hb => ⟨(f3 b hb).1.2.2.2.1, (f3 b hb).1.2.1, (f3 b hb).1.2.2.2.2.1, (f3 b hb).1.2.2.2.2.2⟩
      have nC : H5 s3.heap.objs.size = none := by rw [← cL]; exact I6.free
      obtain ⟨m, hn, _⟩ := I6.loc
      obtain ⟨z0, z1, z2, z3, z4, z5⟩ := I3.fpOk (Nat.le_refl _) nC
      refine ⟨m, by rw [← cL]; exact hn, fun h'' sb => ?_⟩
      exact ⟨.ref D', H5, I7.turned (t' := s6.toks) (fun b o hb e => (sb.2 b hb).trans e) z0 z1 z3 z4 z5, rfl, fin⟩
    · refine thnF (T.item (X.blk s3 H3 scope ce fp) rfl rfl rfl hc i [] s5 _ H5 (fun _ _ => False) I5 (fpk I5 n5) st5 go) fun r s6 ⟨u, hr, h6⟩ => ?_
      subst hr
      refine thnF h6 fun _ s7 ⟨x, H7, I7, r7, y7, st7, n7⟩ => thnF (pg.run _ s7 _ H7 x u _ (I7.pinned (fpk I7 n7) (T.obj _ _ st7)) r7 (step x H7 y7)) fun _ s8 ⟨σ8, H8, I8, hw8, q8⟩ => thnF (pt.run _ s8 σ8 H8 _ I8 q8) fun b s9 ⟨H9, I9, q9⟩ => ?_
      have last : ∀ {s' : Shared} {H' : Hp}, Inv (X.blk s3 H3 scope ce fp) ([] ++ pinsAt fp s7.heap) σ8 H' s' → Nx H' → ∃ m, m < n ∧ ∃ i H', Inv (X.blk s3 H3 scope ce fp) [] (wipe σ (own.map (·.2))) H' s' ∧ tn i s'.heap ∧ (∀ b ∈ fp, H' b = none) ∧ W i m H' := fun {s' H'} J' nx => by
        obtain ⟨m', hm, w'⟩ := hNx H' nx
        have keep : ∀ b ∈ fp, ∀ o, s7.heap.get? b = some o → s'.heap.get? b = some o ∧ H' b = none := fun b hb o z =>
          ⟨(J'.pin (b, o) (List.mem_append_right _ (List.mem_append_right _ (mem_pinsAt hb z)))).1, (J'.pin (b, o) (List.mem_append_right _ (List.mem_append_right _ (mem_pinsAt hb z)))).2.1⟩
        refine ⟨m', hm, i + 1, H', (J'.unpinned (pins := [])).weak (by rw [← hw8, wipe_length]) (fun j v z => by rw [← hw8] at z; exact (wipe_some z).1), T.keep _ _ _ st7 fun b hb o z => (keep b hb o z).1, fun b hb => let ⟨o, z, _⟩ := T.obj _ _ st7 b hb; (keep b hb o z).2, w'⟩
      cases b with
      | false =>
        simp only [Bool.false_eq_true, if_false] at q9 ⊢
        exact last I9 q9
      | true =>
        simp only [if_true] at q9 ⊢
        refine thnF (pe.run _ s9 σ8 H9 _ I9 q9) fun z s10 ⟨yv, H10, I10, r10, bb, d, LD, ey, hD10, hm10, ha10, hf10, nx⟩ => ?_
        subst ey
        cases (show z = Value.ref bb from r10)
        exact addQ_ok (X := X.blk s3 H3 scope ce fp) hK (by show X.A.units + 16 < cLine; omega) I10 hD10 hm10 ha10 hf10 fun LD' s11 q1 q2 I11 => last I11 (nx LD' q1 q2)
end

section
variable {X : Cx} {g : Gx} {A : Addr → Prop} {ks : Nat → Nat} {σ : L2.St} {H H1 : Hp} {env : Env} {o : OS} {F : Nat → List D → OS → R D} {G : Nat → D} {W : WX}
theorem MemR.chg {M : Addr → Prop} {H H' : Hp} {p : Addr × D} (m : MemR g H p) (c : Chg g.q M H H') : MemR g H' p := by
  obtain ⟨k, A', k', r⟩ := m
  exact ⟨k, fun _ => True, 0, Rep.chg c _ _ _ (fun b _ => .inl ⟨rfl, trivial⟩) (key_rep _ _ _ _ (key_ok k).2.1 r)⟩
theorem Chg.setO {M : Addr → Prop} {q : Option (Addr × Addr)} {w : World} {H : Hp} {p : Addr} {LD : List (Addr × D)} {u : HO} (m : M p) (e : H p = some (SetDO w p LD)) : Chg q M H (upd H p u) := by
  have ne : ∀ {b v}, H b = some v → (∀ f, v ≠ .ext f) → b ≠ p := fun {b v} h n z => by
    subst z; rw [e] at h; cases h; exact n _ rfl
  refine ⟨fun b xs h => by rw [upd_ne (ne h fun f z => by cases z)]; exact h, fun b v u' h => by rw [upd_ne (ne h fun f z => by cases z)]; exact h, fun b v h _ nm => ?_, fun b h => ?_⟩
  · rw [upd_ne fun z => nm (by rw [z]; exact m)]; exact h
  · by_cases z : b = p
    · subst z; rw [upd_same]; simp
    · rw [upd_ne z]; exact h
theorem sq_walk {w : World} {t : Tg} {cs : Es} {e : E} {f j : Nat} {vs : List Nat} {gt : TG} {tt : TT} {te : TE} {J : L2.It} {ds : List D} {o1 : OS} {Qd : List D → OS → Prop} {EE : Nat → OS → Prop} {Qr : Hp → Prop} {D' : Addr} (hj : j ≤ 1) (hsub : ∀ i ∈ tgN t, i ∈ vs)
    (a1 : At g A ks σ H1 env o1) (hit : ItOk g A j J H1 ds) (hD : H1 D' = none) (h : Post (scGo (stepC F G t cs e (wipeE env vs)) ds [] o1) Qd EE)
    (hgt : ∀ v σ H Q, gRd g ks t v σ H Q → gt v σ H Q) (htt : ∀ σ H Q, rdT g WN ks (evC F G cs) σ H Q → tt σ H Q) (hte : ∀ σ H Q, rdE g WN ks ⟨0, f⟩ (evE F G e) σ H Q → te σ H Q)
    (fin : ∀ xs LD o' H', Qd xs o' → Chg g.q (· = D') H1 H' → Or g.q H' o' → H' D' = some (SetDO w D' LD) → (∀ p ∈ LD, MemR g H' p) → (∀ d, d ∈ xs ↔ d ∈ LD.map (·.2)) → Qr H') :
    ∃ W : Nat → Nat → Hp → Prop, (∃ m, W 0 m (upd H1 D' (SetDO w D' []))) ∧ ∀ i m H, W i m H →
      (J.stop i H ∧ Qr H) ∨ (J.go i H ∧ ∃ Nx : Hp → Prop, (∀ H', Nx H' → ∃ m', m' < m ∧ W (i + 1) m' H') ∧ ∀ x H', J.yld i H x H' → gt x (wipe σ vs) H' fun σ2 H2 => wipe σ2 vs = wipe σ vs ∧ tt σ2 H2 fun b H3 =>
        if b = true then te σ2 H3 fun y H4 => ∃ (bb : Addr) (d : D) (LD : List (Addr × D)), y = .ref bb ∧ H4 D' = some (SetDO w D' LD) ∧ MemR g H4 (bb, d) ∧ (∀ p ∈ LD, MemR g H4 p) ∧ LD.length + 1 < 64 ∧
          (∀ LD', (d ∈ LD.map (·.2) → LD' = LD) → (d ∉ LD.map (·.2) → LD'.Perm ((bb, d) :: LD)) → Nx (upd H4 D' (SetDO w D' LD'))) else Nx H3) := by
  have nD : ¬ ocOf g.q D' := (free_not a1.dom a1.or hD).2
  have hA2 : ∀ b, (A b ∨ b = D') → A b ∨ H1 b = none := fun b hb => hb.imp_right fun z => by rw [z]; exact hD
  have hM : ∀ b, b = D' → H1 b = none := fun b z => by rw [z]; exact hD
  have J2 := hit _ hA2
  refine ⟨fun i m Hc => ∃ acc LD oc, m = ds.length - i ∧ Chg g.q (· = D') H1 Hc ∧ Hc D' = some (SetDO w D' LD) ∧ (∀ p ∈ LD, MemR g Hc p) ∧ (∀ d, d ∈ acc ↔ d ∈ LD.map (·.2)) ∧ LD.length ≤ acc.length ∧ Or g.q Hc oc ∧ Post (scGo (stepC F G t cs e (wipeE env vs)) (ds.drop i) acc oc) Qd EE,
    ⟨_, [], [], o1, rfl, (Ext.new hD).chg, upd_same, (fun p hp => by cases hp), (fun d => by simp), Nat.le_refl _, a1.or.new hD, h⟩, ?_⟩
  rintro i m Hc ⟨acc, LD, oc, rfl, c, eD, mr, mem, lens, orc, hp⟩
  obtain ⟨j1, j2⟩ := J2 (· = D') Hc (fun b z => .inr (hM b z)) c i
  by_cases hi : i < ds.length
  · obtain ⟨go, yl⟩ := j2 _ (List.getElem?_eq_getElem hi)
    refine .inr ⟨go, fun Hn => ∃ acc LD oc, Chg g.q (· = D') H1 Hn ∧ Hn D' = some (SetDO w D' LD) ∧ (∀ p ∈ LD, MemR g Hn p) ∧ (∀ d, d ∈ acc ↔ d ∈ LD.map (·.2)) ∧ LD.length ≤ acc.length ∧ Or g.q Hn oc ∧ Post (scGo (stepC F G t cs e (wipeE env vs)) (ds.drop (i + 1)) acc oc) Qd EE,
      fun H' ⟨acc', LD', oc', r⟩ => ⟨ds.length - (i + 1), by omega, acc', LD', oc', rfl, r⟩, fun x H' y => ?_⟩
    obtain ⟨sm, rx⟩ := yl x H' y
    rw [show j - 1 = 0 by omega] at rx
    have eH : Ext g.q Hc H' := .of_same sm
    have c' : Chg g.q (· = D') H1 H' := c.trans eH.chg
    have a2 : At g (fun b => A b ∨ b = D') ks (wipe σ vs) H' (wipeE env vs) oc := At.wipe (a1.grow hA2 c' hM (fun b hb => hb.elim (fun z => c'.dom b (a1.dom b z)) fun z => by rw [z, eH.oth _ _ eD nD]; simp) (orc.same sm))
    rw [List.drop_eq_getElem_cons hi] at hp
    unfold scGo at hp
    rw [show stepC F G t cs e (wipeE env vs) ds[i] oc = _ from rfl] at hp
    unfold stepC at hp
    rw [R.bind_assoc] at hp
    obtain ⟨env', he', hp⟩ := hp.ofb
    rw [R.bind_assoc] at hp
    refine hgt _ _ _ _ ⟨_, oc, _, ds[i], env', a2, rx, he', fun σ' a3 k3 => ⟨by rw [wipe_keeps k3 hsub, wipe_idem], htt _ _ _ ⟨env', oc, _, a3, (Post.nox hp).mono (fun b o3 hb H3 e3 or3 => ?_) fun _ _ z => z⟩⟩⟩
    have c3 := c'.trans e3.chg
    have e3D : H3 D' = some (SetDO w D' LD) := (eH.trans e3).oth _ _ eD nD
    have m3 : ∀ p ∈ LD, MemR g H3 p := fun p hp => (mr p hp).ext (eH.trans e3)
    cases b with
    | false =>
      simp only [Bool.false_eq_true, if_false] at hb ⊢
      exact ⟨acc, LD, o3, c3, e3D, m3, mem, lens, or3, hb⟩
    | true =>
      simp only [if_true] at hb ⊢
      rw [R.bind_assoc] at hb
      refine hte _ _ _ ⟨env', o3, _, a3.next e3 or3, (Post.nox hb).mono (fun yd o4 hy v H4 e4 or4 r4 => ?_) fun _ _ z => z⟩
      have e4D := e4.oth _ _ e3D nD
      have c4 := c3.trans e4.chg
      simp only [R.bind_ok] at hy
      split at hy
      · rename_i hlen
        simp only [Bool.and_eq_true, decide_eq_true_eq] at hlen
        obtain ⟨⟨ya, yr, ye⟩, k2, k3'⟩ := key_ok hlen.2
        subst ye
        have rr := r4.1
        have rr0 := rr
        unfold Rep at rr
        obtain ⟨bb, vs', rfl, _⟩ := rr
        refine ⟨bb, _, LD, rfl, e4D, ⟨hlen.2, _, _, rr0⟩, fun p hp => (m3 p hp).ext e4, by omega, fun LD' q1 q2 => ⟨acc ++ [_], LD', o4, c4.trans (Chg.setO rfl e4D), upd_same, ?_, ?_, ?_, or4.upd nD, hy⟩⟩
        · intro p hp
          rcases Classical.em (D.tup (ya :: yr) ∈ LD.map (·.2)) with z | z
          · rw [q1 z] at hp
            exact ((m3 p hp).ext e4).chg (Chg.setO (M := (· = D')) rfl e4D)
          · rcases List.mem_cons.mp ((q2 z).mem_iff.mp hp) with e | hp
            · rw [e]; exact MemR.chg ⟨hlen.2, _, _, rr0⟩ (Chg.setO (M := (· = D')) rfl e4D)
            · exact ((m3 p hp).ext e4).chg (Chg.setO (M := (· = D')) rfl e4D)
        · intro d
          rw [List.mem_append, List.mem_singleton, mem d]
          rcases Classical.em (D.tup (ya :: yr) ∈ LD.map (·.2)) with z | z
          · rw [q1 z]
            exact ⟨fun h => h.elim id fun h => h ▸ z, .inl⟩
          · rw [((q2 z).map (·.2)).mem_iff, List.map_cons, List.mem_cons]
            exact Or.comm
        · rw [List.length_append]
          rcases Classical.em (D.tup (ya :: yr) ∈ LD.map (·.2)) with z | z
          · rw [q1 z]; exact Nat.le_succ_of_le lens
          · rw [(q2 z).length_eq]; exact Nat.succ_le_succ lens
      · exact hy.elim
  · refine .inl ⟨j1 (by omega), ?_⟩
    rw [List.drop_eq_nil_of_le (by omega)] at hp
    unfold scGo at hp
    exact fin acc LD oc Hc hp c orc eD mr mem
/-- sorted of a set -/
def rSortQ (g : Gx) (w : World) : List V → Hp → VK → Prop := fun vs H Q => ∃ (D' : Addr) (LD : List (Addr × D)) (xs zs : List D), vs = [.ref D'] ∧ H D' = some (SetDO w D' LD) ∧ (∀ p ∈ LD, MemR g H p) ∧ canon xs = some zs ∧ (∀ d, d ∈ xs ↔ d ∈ LD.map (·.2)) ∧
  ∀ q us, H q = none → (∀ A, RepL g.K g.q A 0 H us zs) → Q (.ref q) (upd H q (.lst us))
theorem canon_key {xs zs : List D} (h : canon xs = some zs) : ∀ d ∈ zs, keyF d = true := fun d hd => by
  obtain ⟨_, c2, _, rfl⟩ := canon_some h
  exact (key_ok (c2 d ((dedup_ok fun d hd => (key_ok (c2 d hd)).2.1).2 d |>.mp ((List.mergeSort_perm _ _).mem_iff.mp hd)))).2.1
theorem keyFL_of {ds : List D} (h : ∀ d ∈ ds, keyF d = true) : keyFL ds = true := by
  induction ds with
  | nil => rfl
  | cons d ds ih => simp [keyFL, h d List.mem_cons_self, ih fun x hx => h x (List.mem_cons_of_mem _ hx)]
theorem cr_sortQ (hK : X.K = g.K) (hc : X.calm = true) (hu : X.A.units + 80 < cLine) : CallR X (.builtin "sorted") (rSortQ g X.w) := by
  intro pins s σ H xs us Q I rv ⟨D', LD, ys, zs, e, h1, h2, h3, h4, h5⟩
  subst e
  obtain ⟨u, rfl, ru⟩ := vals1 rv
  cases ru
  refine sortedQ_ok (A := fun _ => True) hK (I.ok.hd hc) hu I h1 h2 h3 h4 fun q vs s' hn rl I' => ⟨.ref q, _, I', rfl, h5 q vs hn fun A' => keyL_rep zs _ _ vs (keyFL_of (canon_key h3)) rl⟩
theorem c_sortSc {t : Tg} {it : It} {cs : Es} {e : E} {f j : Nat} {elt tg iter : Expr} {ifs : List Expr} {scope : Scope} {own : List (PySem.Str × Nat)} {p pos pos2 : Pos} (hK : X.K = g.K) (hu : X.A.units + 80 < cLine) (hgS : Gl X "sorted") (hmS : X.mg "sorted" = none) (hc : X.calm = true) (hN : X.N.Nodup) (hj : j ≤ 1) (hi : PI X tg iter (rdI g W ks j (evI F G it)))
    (ok : BlkOk X.N X.env.scope scope own) (hsub : ∀ i ∈ tgN t, i ∈ own.map (·.2)) (hf : ∀ x, foldedSetIterable iter X.env x = Pure.pure x)
    (hg : ∀ (s : Shared) (H : Hp) (C : Addr) (cl : List (PySem.Str × Addr)) (fp : List Addr), PG (X.blk s H scope (compEnvC scope cl C X.env) fp) tg (gRd g ks t))
    (ht : ∀ (s : Shared) (H : Hp) (C : Addr) (cl : List (PySem.Str × Addr)) (fp : List Addr), PTs (X.blk s H scope (compEnvC scope cl C X.env) fp) ifs (rdT g WN ks (evC F G cs)))
    (he : ∀ (s : Shared) (H : Hp) (C : Addr) (cl : List (PySem.Str × Addr)) (fp : List Addr), PE (X.blk s H scope (compEnvC scope cl C X.env) fp) elt (rdE g WN ks ⟨0, f⟩ (evE F G e))) :
    PE X (.Call (.Name "sorted" p) [.SetComp elt [⟨tg, iter, ifs, 0⟩] scope pos] [] pos2) (rdE g W ks ⟨0, 1⟩ (evE F G (.sc (own.map (·.2)) t it cs e))) := by
  refine (pe_callB (cr_sortQ hK hc hu) hgS hmS (by decide +kernel) (pa_cons (pe_sq hK hu hc hN hi ok hg ht he hf) pa_nil (star_of rfl)) (by decide) (by decide) (star_of rfl) rfl).of fun σ H Q ⟨env, o, A, a, h⟩ => ?_
  unfold evE at h
  refine ⟨env, o, A, a, h.bind.mono (fun ds o1 hd J H1 e1 or1 hit D' hD => ?_) fun _ _ z => z⟩
  have a1 := a.next e1 or1
  refine sq_walk (w := X.w) (f := f) hj hsub a1 hit hD hd.bind (fun _ _ _ _ z => z) (fun _ _ _ z => z) (fun _ _ _ z => z) fun xs LD o' H' hq c r eD mr mem => ?_
  cases hz : canon xs with
  | none => rw [hz] at hq; exact hq.elim
  | some zs =>
    rw [hz] at hq
    have hM : ∀ b, b = D' → H1 b = none := fun b z => by rw [z]; exact hD
    have c' := e1.trans (c.ext hM)
    refine ⟨D', LD, xs, zs, rfl, eD, mr, hz, mem, fun q us hn rl => ?_⟩
    have dom' : ∀ b, A b → H' b ≠ none := fun b hb => c.dom b (a1.dom b hb)
    exact hq _ _ (c'.trans (.new hn)) (r.new hn) (fresh1 (k := 0) c' hn (rl A) dom' r)
/-! ### sorted(set(xs)), xs a list of tuples of numbers -/
def tupI (k : List Int) : D := .tup (k.map .int)
theorem keyDs_ints : ∀ k : List Int, keyDs (k.map D.int) = k.map NestedKey.num
  | [] => rfl
  | x :: k => by simp [keyDs, keyD, keyDs_ints k]
theorem num_inj : ∀ {a b : List Int}, a.map NestedKey.num = b.map NestedKey.num → a = b
  | [], [], _ => rfl
  | [], _ :: _, h => by cases h
  | _ :: _, [], h => by cases h
  | x :: a, y :: b, h => by
    simp only [List.map_cons, List.cons.injEq, NestedKey.num.injEq] at h
    rw [h.1, num_inj h.2]
theorem hashes_ints (w : World) : ∀ k : List Int, NestedKey.hashes w (k.map NestedKey.num) = k.map hashInt
  | [] => rfl
  | x :: k => by simp [NestedKey.hashes, NestedKey.hash, hashes_ints w k]
theorem hash_same (P : Program) (w : World) (k : List Int) : (keyD (tupI k)).hash w = thash P w k := by
  unfold tupI keyD
  rw [keyDs_ints]
  unfold NestedKey.hash
  rw [hashes_ints]
  rfl
theorem SetT0.q {P : Program} {w : World} {h : Heap} {a : Addr} {L : List (Addr × List Int)} (R : SetT0 P w h a L) : ∃ es ep t, SQ w h a (rowsD (L.map fun p => (p.1, tupI p.2))) es ep t := by
  obtain ⟨es, ep, t, h1, h2, h3, h4, h5, h6, h7, h8⟩ := R.ex
  have er : rowQ w (rowsD (L.map fun p => (p.1, tupI p.2))) = rowsOf P w L := by
    unfold rowQ rowsOf
    rw [List.map_map, List.map_map]
    exact List.map_congr_left fun p _ => by simp [hash_same P w p.2]
  have eh : hashQ w (rowsD (L.map fun p => (p.1, tupI p.2))) = L.map fun p => thash P w p.2 := by
    unfold hashQ
    rw [List.map_map, List.map_map]
    exact List.map_congr_left fun p _ => by simp [hash_same P w p.2]
  refine ⟨es, ep, t, h1, by rw [er]; exact h2, by rw [eh]; exact h3, ?_, h6, by simpa using h7, by simpa using h8⟩
  rw [List.map_map, List.map_map]
  have inj : ∀ a b : List Int, keyD (tupI a) = keyD (tupI b) → a = b := fun a b e => by
    simp only [tupI, keyD, keyDs_ints, NestedKey.tup.injEq] at e
    exact num_inj e
  have : ((L.map (·.2)).map fun k => keyD (tupI k)).Nodup := by
    refine List.Pairwise.map _ ?_ h4
    exact fun a b hne e => hne (inj a b e)
  rw [List.map_map] at this
  exact this
/-- sorted of such a set -/
def rSortI (g : Gx) (w : World) (P : Program) : List V → Hp → VK → Prop := fun vs H Q => ∃ (a : Addr) (L : List (Addr × List Int)) (xs zs : List D), vs = [.ref a] ∧ H a = some (SetTO P w a L) ∧ (∀ p ∈ L, MemR g H (p.1, tupI p.2)) ∧ canon xs = some zs ∧ (∀ d, d ∈ xs ↔ d ∈ L.map fun p => tupI p.2) ∧
  ∀ u q us, (upd H a u) q = none → (∀ A, RepL g.K g.q A 0 (upd H a u) us zs) → Q (.ref q) (upd (upd H a u) q (.lst us))
theorem cr_sortI (hK : X.K = g.K) (hc : X.calm = true) (hu : X.A.units + 80 < cLine) : CallR X (.builtin "sorted") (rSortI g X.w X.prog) := by
  intro pins s σ H xs us Q I rv ⟨a, L, ys, zs, e, h1, h2, h3, h4, h5⟩
  subst e
  obtain ⟨u, rfl, ru⟩ := vals1 rv
  cases ru
  obtain ⟨es, ep, t, R⟩ := SetT0.q (I.hok a _ h1).1
  obtain ⟨o, ho, _⟩ := R.ob
  have I2 : Inv X pins σ (upd H a (SetDO X.w a (L.map fun p => (p.1, tupI p.2)))) s := I.write (t' := s.toks) (h' := s.heap) (x := a) (e := a) (by rw [h1]; exact True.intro) (.inl rfl) (fun _ _ _ z => z) ⟨o, ho⟩ (setDO_ok R)
  have mr : ∀ p ∈ L.map (fun p => (p.1, tupI p.2)), MemR g (upd H a (SetDO X.w a (L.map fun p => (p.1, tupI p.2)))) p := fun p hp => by
    obtain ⟨q, hq, rfl⟩ := List.mem_map.mp hp
    have ne : ∀ {b v}, H b = some v → (∀ f, v ≠ .ext f) → b ≠ a := fun {b v} h n z => by
      subst z; rw [h1] at h; cases h; exact n _ rfl
    refine (h2 q hq).chg (M := (· = a)) ⟨fun b xs h => by rw [upd_ne (ne h fun f z => by cases z)]; exact h, fun b v u' h => by rw [upd_ne (ne h fun f z => by cases z)]; exact h, fun b v h _ nm => by rw [upd_ne nm]; exact h, fun b h => ?_⟩
    by_cases z : b = a
    · subst z; rw [upd_same]; simp
    · rw [upd_ne z]; exact h
  refine sortedQ_ok (A := fun _ => True) hK (I.ok.hd hc) hu I2 upd_same mr h3 (fun d => by rw [h4 d, List.map_map]; rfl) fun q vs s' hn rl I' => ⟨.ref q, _, I', rfl, h5 _ q vs hn fun A' => keyL_rep zs _ _ vs (keyFL_of (canon_key h3)) rl⟩
theorem ints_of {K : PySem.W.Frag} {q : Option (Addr × Addr)} {A : Addr → Prop} {H : Hp} {k : Nat} : ∀ {xs : List D} {vs : List V}, isIntT (.tup xs) = true → RepL K q A k H vs xs → ∃ is : List Int, xs = is.map .int ∧ vs = is.map V.int
  | [], vs, _, r => by unfold RepL at r; exact ⟨[], rfl, r⟩
  | x :: xs, vs, h, r => by
    unfold RepL at r
    obtain ⟨v, vr, rfl, h1, h2⟩ := r
    simp only [isIntT, List.all_cons, Bool.and_eq_true] at h
    obtain ⟨is, e1, e2⟩ := ints_of (xs := xs) (by simp only [isIntT]; exact h.2) h2
    cases x with
    | int i =>
      unfold Rep at h1
      exact ⟨i :: is, by rw [e1]; rfl, by rw [e2, h1]; rfl⟩
    | _ => exact absurd h.1 (by simp)
theorem tups_of {K : PySem.W.Frag} {q : Option (Addr × Addr)} {A : Addr → Prop} {H : Hp} {k : Nat} : ∀ {ds : List D} {vs : List V}, ds.all isIntT = true → RepL K q A k H vs ds → ∃ ksx : List (Addr × List Int), ds = ksx.map (fun p => tupI p.2) ∧ vs = ksx.map (fun p => V.ref p.1) ∧ ∀ p ∈ ksx, SqT K H p.1 (p.2.map V.int) ∧ Rep K q A k H (.ref p.1) (tupI p.2)
  | [], vs, _, r => by unfold RepL at r; exact ⟨[], rfl, r, fun p hp => by cases hp⟩
  | d :: ds, vs, h, r => by
    unfold RepL at r
    obtain ⟨v, vr, rfl, h1, h2⟩ := r
    rw [List.all_cons, Bool.and_eq_true] at h
    obtain ⟨ksx, e1, e2, e3⟩ := tups_of h.2 h2
    cases d with
    | tup xs =>
      have h1' := h1
      unfold Rep at h1
      obtain ⟨a, us, rfl, g1, g2⟩ := h1
      obtain ⟨is, q1, q2⟩ := ints_of h.1 g2
      subst q1 q2
      refine ⟨(a, is) :: ksx, by rw [e1]; rfl, by rw [e2]; rfl, fun p hp => ?_⟩
      rcases List.mem_cons.mp hp with e | hp
      · rw [e]; exact ⟨g1, h1'⟩
      · exact e3 p hp
    | _ => exact absurd h.1 (by simp [isIntT])
theorem c_sortSet {a : E} {ea : Expr} {ta : Ty} {p p2 pos pos2 : Pos} (hK : X.K = g.K) (hu : X.A.units + 80 < cLine) (hgS : Gl X "sorted") (hmS : X.mg "sorted" = none) (hgT : Gl X "set") (hmT : X.mg "set" = none) (hc : X.calm = true) (hs : notStar ea = true)
    (ha : PE X ea (rdE g W ks ta (evE F G a))) : PE X (.Call (.Name "sorted" p) [.Call (.Name "set" p2) [ea] [] pos] [] pos2) (rdE g W ks ⟨0, 1⟩ (evE F G (.bi .set (.cons a .nil)))) := by
  refine (pe_callB (cr_sortI hK hc hu) hgS hmS (by decide +kernel) (pa_cons (pe_callTy (cr_setOfT hc (by omega)) hgT hmT (by decide +kernel) (pa_cons ha pa_nil (star_of hs)) (by decide) (by decide) (star_of hs) rfl) pa_nil (star_of rfl)) (by decide) (by decide) (star_of rfl) rfl).of fun σ H Q ⟨env, o, A, a', h⟩ => ?_
  unfold evE evEs at h
  rw [R.bind_assoc] at h
  refine rdE.use a' h fun d o1 v H1 e1 a1 r1 h1 => ?_
  unfold evEs at h1
  simp only [R.bind_ok] at h1
  cases d <;> first | (exact h1.elim) | skip
  case lst ds =>
    simp only [biD] at h1
    split at h1
    case isFalse => exact h1.elim
    case isTrue hi =>
      cases hz : canon ds with
      | none => rw [hz] at h1; exact h1.elim
      | some zs =>
        rw [hz] at h1
        have rr := r1.1
        unfold Rep at rr
        obtain ⟨l, vs, rfl, g1, g2, g3, g4⟩ := rr
        obtain ⟨ksx, q1, q2, q3⟩ := tups_of hi g4
        subst q1 q2
        obtain ⟨c1, c2, c3, c4⟩ := canon_some hz
        refine ⟨l, ksx, rfl, hK ▸ SqL.of g1, fun p hp => hK ▸ (q3 p hp).1, by simpa using c1, fun b L hb h2 h3 => ?_⟩
        have eb : Ext g.q H1 (upd H1 b (SetTO X.prog X.w b L)) := .new hb
        have nb := free_not a1.dom a1.or hb
        refine ⟨b, L, _, zs, rfl, upd_same, fun p hp => ?_, hz, fun d => ?_, fun u q us hn rl => ?_⟩
        · exact MemR.ext ⟨c2 _ (List.mem_map.mpr ⟨p, h2 p hp, rfl⟩), _, _, (q3 p (h2 p hp)).2⟩ eb
        · constructor
          · intro hd
            obtain ⟨p, hp, e⟩ := List.mem_map.mp hd
            obtain ⟨p', hp', e'⟩ := List.mem_map.mp (h3 p hp)
            exact List.mem_map.mpr ⟨p', hp', by rw [e', e]⟩
          · intro hd
            obtain ⟨p, hp, e⟩ := List.mem_map.mp hd
            exact List.mem_map.mpr ⟨p, h2 p hp, e⟩
        · rw [upd_upd] at hn rl ⊢
          have c' : Ext g.q H (upd H1 b u) := e1.trans (.new hb)
          exact h1 _ _ (c'.trans (.new hn)) ((a1.or.new hb).new hn) (fresh1 (k := 0) c' hn (rl A) (fun x hx => (Ext.new (q := g.q) (o := u) hb).dom x (a1.dom x hx)) (a1.or.new hb))
end
end O
end

section
set_option Elab.async false
set_option linter.all false
set_option maxRecDepth 100000
namespace O
open PySem PySem.Spec PyProof.Rows L2
variable {g : Gx} {W : WX} {ks : Nat → Nat} {σ : L2.St} {H H' H1 H0 Hb : Hp} {Bs : Addr → Prop} {env : Env} {o o' : OS} {A A0 : Addr → Prop} {τ : Ty} {Q : VK} {X : Cx} {pins : List (Addr × Obj)} {s : Shared}
variable {F : Nat → List D → OS → R D} {G : Nat → D} {fu : Nat}
/-! ### where a statement begins -/
/-- lending by slots, own depth by slots, what is returned -/
structure Fx where
  ks : Nat → Nat
  ms : Nat → Nat
  rt : Ty
structure SIx (g : Gx) (x : Fx) (A0 : Addr → Prop) (H0 Hb : Hp) (Bs : Addr → Prop) (A : Addr → Prop) (Os : Nat → List Addr) (σ : L2.St) (H : Hp) (env : Env) (o : OS) : Prop where
  at_ : At g A x.ks σ H env o
  a0 : ∀ b, A0 b → A b
  aw : ∀ b, A b → A0 b ∨ H0 b = none
  lent : ∀ j, x.ms j = 0 → x.ks j ≠ 0 → ∀ d, env[j]? = some (some d) → ∃ v, σ[j]? = some (some v) ∧ Rep g.K g.q A0 (x.ks j) H0 v d
  dom0 : ∀ b, A0 b → H0 b ≠ none
  os : ∀ i, ∀ b ∈ Os i, A b ∧ H0 b = none ∧ ¬ ocOf g.q b
  own : ∀ i, x.ms i ≠ 0 → ∀ d, env[i]? = some (some d) → ∃ v, σ[i]? = some (some v) ∧ OwnR (x.ms i) H v d (Os i)
  nd : ∀ i, (Os i).Nodup
  dis : ∀ i j b, b ∈ Os i → b ∈ Os j → i = j
  grew : Ext g.q H0 H
  chg : Chg g.q Bs Hb H
  osB : ∀ i, ∀ b ∈ Os i, Bs b
  frB : ∀ b, Hb b = none → Bs b
def SI (g : Gx) (x : Fx) (A0 : Addr → Prop) (H0 Hb : Hp) (Bs : Addr → Prop) (σ : L2.St) (H : Hp) (env : Env) (o : OS) : Prop := ∃ A Os, SIx g x A0 H0 Hb Bs A Os σ H env o
def EndP (g : Gx) (x : Fx) (A0 : Addr → Prop) (H0 Hb : Hp) (Bs : Addr → Prop) (D : Ends) (fl : Fl) (o : OS) : Prop :=
  match fl with
  | .nx env => ∀ σ H, SI g x A0 H0 Hb Bs σ H env o → D.nx σ H
  | .rt d => ∀ v H, Ext g.q H0 H → Or g.q H o → RepT g A0 x.rt H0 H v d → D.rt v H
  | .bk env => ∀ σ H, SI g x A0 H0 Hb Bs σ H env o → D.bk σ H
  | .ct env => ∀ σ H, SI g x A0 H0 Hb Bs σ H env o → D.ct σ H
def ExP (g : Gx) (EX : XK) (H0 : Hp) (c : Nat) (o : OS) : Prop := ∀ dd H', Ext g.q H0 H' → Or g.q H' o → EX (g.ct c) dd H'
def rdS (g : Gx) (x : Fx) (EX : XK) (ev : Env → OS → R Fl) : TS := fun D σ H => ∃ A0 H0 Hb Bs env o, SI g x A0 H0 Hb Bs σ H env o ∧ Post (ev env o) (EndP g x A0 H0 Hb Bs D) (ExP g EX H0)
/-- what is wished of exceptions, at whatever slots -/
def wx (EX : XK) : WX := fun cls d _ H => EX cls d H
variable {x : Fx} {EX : XK} {Os : Nat → List Addr}
mutual
theorem OwnR.ext (e : Ext g.q H H') : ∀ (d : D) (m : Nat) (v : V) (O : List Addr), (∀ b ∈ O, ¬ ocOf g.q b) → OwnR m H v d O → OwnR m H' v d O
  | .lst ds, m, v, O, n, h => by
    cases m with
    | zero => unfold OwnR at h ⊢; exact h
    | succ m =>
      unfold OwnR at h ⊢
      obtain ⟨p, vs, O', rfl, h1, rfl, h2⟩ := h
      exact ⟨p, vs, O', rfl, e.oth _ _ h1 (n p List.mem_cons_self), rfl, OwnL.ext e ds m vs O' (fun b hb => n b (List.mem_cons_of_mem _ hb)) h2⟩
  | .non, m, v, O, n, h | .bl _, m, v, O, n, h | .int _, m, v, O, n, h | .str _, m, v, O, n, h | .tup _, m, v, O, n, h | .dct _, m, v, O, n, h | .set _, m, v, O, n, h | .fn _ _, m, v, O, n, h | .src, m, v, O, n, h => by unfold OwnR at h ⊢; exact h
theorem OwnL.ext (e : Ext g.q H H') : ∀ (ds : List D) (m : Nat) (vs : List V) (O : List Addr), (∀ b ∈ O, ¬ ocOf g.q b) → OwnL m H vs ds O → OwnL m H' vs ds O
  | [], m, vs, O, n, h => by unfold OwnL at h ⊢; exact h
  | d :: ds, m, vs, O, n, h => by
    unfold OwnL at h ⊢
    obtain ⟨v, r, O1, O2, rfl, rfl, h1, h2⟩ := h
    exact ⟨v, r, O1, O2, rfl, rfl, OwnR.ext e d m v O1 (fun b hb => n b (List.mem_append_left _ hb)) h1, OwnL.ext e ds m r O2 (fun b hb => n b (List.mem_append_right _ hb)) h2⟩
end
theorem SIx.ext (i : SIx g x A0 H0 Hb Bs A Os σ H env o) (e : Ext g.q H H') (r : Or g.q H' o') : SIx g x A0 H0 Hb Bs A Os σ H' env o' :=
  ⟨i.at_.next e r, i.a0, i.aw, i.lent, i.dom0, i.os, fun j hj d hd => by
    obtain ⟨v, h1, h2⟩ := i.own j hj d hd
    exact ⟨v, h1, h2.ext e _ _ _ _ (fun b hb => (i.os j b hb).2.2)⟩, i.nd, i.dis, i.grew.trans e, i.chg.trans e.chg, i.osB, i.frB⟩
theorem SIx.fresh (i : SIx g x A0 H0 Hb Bs A Os σ H env o) {b : Addr} (h : H b = none) : Bs b := i.frB b (by
  cases z : Hb b with
  | none => rfl
  | some u => exact absurd h (i.chg.dom b (by rw [z]; simp)))
theorem SI.ext (i : SI g x A0 H0 Hb Bs σ H env o) (e : Ext g.q H H') (r : Or g.q H' o') : SI g x A0 H0 Hb Bs σ H' env o' := by
  obtain ⟨A, Os, i⟩ := i
  exact ⟨A, Os, i.ext e r⟩
theorem ExP.ew {c : Nat} (e : Ext g.q H0 H) (h : ExP g EX H0 c o) : Ew g (wx EX) σ H c o := fun dd H' e' r => h dd H' (e.trans e') r
/-- an expression within a statement -/
theorem SIx.use {ev : Env → OS → R D} {f : D → OS → R Fl} {P : Fl → OS → Prop} (i : SIx g x A0 H0 Hb Bs A Os σ H env o) (h : Post ((ev env o).bind f) P (ExP g EX H0))
    (k : ∀ d o' v H', Ext g.q H H' → SIx g x A0 H0 Hb Bs A Os σ H' env o' → RepT g A τ H H' v d → Post (f d o') P (ExP g EX H0) → Q v H') : rdE g (wx EX) x.ks τ ev σ H Q :=
  ⟨env, o, A, i.at_, h.bind.mono (fun d o' z v H' e r t => k d o' v H' e (i.ext e r) t z) fun _ _ z => z.ew i.grew⟩
theorem SIx.useT {ev : Env → OS → R D} {f : D → OS → R Fl} {P : Fl → OS → Prop} {Q : Bool → Hp → Prop} (i : SIx g x A0 H0 Hb Bs A Os σ H env o) (h : Post ((ev env o).bind f) P (ExP g EX H0))
    (k : ∀ d o' H', Ext g.q H H' → SIx g x A0 H0 Hb Bs A Os σ H' env o' → Post (f d o') P (ExP g EX H0) → Q (truthy d) H') : rdT g (wx EX) x.ks (tst ev) σ H Q := by
  refine ⟨env, o, A, i.at_, ?_⟩
  unfold tst
  have h' := h.bind
  cases e : ev env o with
  | ok d o1 => rw [e] at h'; exact fun H' e' r' => k d o1 H' e' (i.ext e' r') h'
  | ex c o1 => rw [e] at h'; exact ExP.ew i.grew h'
  | bad => rw [e] at h'; exact h'
/-! ### one statement -/
theorem s_nil : PSs X [] (rdS g x EX (evSs F G fu .nil)) := by
  refine pss_nil.of fun D σ H ⟨A0, H0, Hb, Bs, env, o, i, h⟩ => ?_
  unfold evSs at h
  exact h σ H i
theorem s_cons {a : O.St} {b : Sts} {st : Stmt} {rest : List Stmt} (h1 : PS X st (rdS g x EX (evS F G fu a))) (h2 : PSs X rest (rdS g x EX (evSs F G fu b))) : PSs X (st :: rest) (rdS g x EX (evSs F G fu (.cons a b))) := by
  refine (pss_cons h1 h2).of fun D σ H ⟨A0, H0, Hb, Bs, env, o, i, h⟩ => ?_
  unfold evSs at h
  refine ⟨A0, H0, Hb, Bs, env, o, i, h.bind.mono (fun fl o1 z => ?_) fun _ _ z => z⟩
  cases fl with
  | nx env1 => exact fun σ1 H1 i1 => ⟨A0, H0, Hb, Bs, env1, o1, i1, z⟩
  | rt d => exact z
  | bk env1 => exact z
  | ct env1 => exact z
theorem s_never {st : Stmt} : PS X st (rdS g x EX (evS F G fu .never)) := ⟨fun _ _ _ _ _ _ ⟨_, _, _, _, _, _, _, h⟩ => by unfold evS at h; exact h.elim⟩
theorem s_pas {pos : Pos} : PS X (.Pass pos) (rdS g x EX (evS F G fu .pas)) := ps_pass.of fun D σ H ⟨A0, H0, Hb, Bs, env, o, i, h⟩ => by unfold evS at h; exact h σ H i
theorem s_brk {pos : Pos} : PS X (.Break pos) (rdS g x EX (evS F G fu .brk)) := ps_break.of fun D σ H ⟨A0, H0, Hb, Bs, env, o, i, h⟩ => by unfold evS at h; exact h σ H i
theorem s_cnt {pos : Pos} : PS X (.Continue pos) (rdS g x EX (evS F G fu .cnt)) := ps_continue.of fun D σ H ⟨A0, H0, Hb, Bs, env, o, i, h⟩ => by unfold evS at h; exact h σ H i
theorem s_iff {c : E} {a b : Sts} {ec : Expr} {sa sb : List Stmt} {pos : Pos} (hc : PT X ec (rdT g (wx EX) x.ks (tst (evE F G c)))) (ha : PSs X sa (rdS g x EX (evSs F G fu a))) (hb : PSs X sb (rdS g x EX (evSs F G fu b))) :
    PS X (.If ec sa sb pos) (rdS g x EX (evS F G fu (.iff c a b))) := by
  refine (ps_if hc ha hb).of fun D σ H ⟨A0, H0, Hb, Bs, env, o, ⟨A, Os, i⟩, h⟩ => ?_
  unfold evS at h
  refine i.useT h fun d o1 H1 e1 i1 h1 => ?_
  cases t : truthy d <;> rw [t] at h1 <;> simp only [Bool.false_eq_true, if_false, if_true] at h1 ⊢
  · exact ⟨A0, H0, Hb, Bs, env, o1, ⟨A, Os, i1⟩, h1⟩
  · exact ⟨A0, H0, Hb, Bs, env, o1, ⟨A, Os, i1⟩, h1⟩
mutual
/-- what an own slot holds, all its lists being its own, is lent to no one once the def is left -/
theorem own_free (ha : ∀ b, A0 b → A b) : ∀ (d : D) (m : Nat) (v : V) (O : List Addr), Rep g.K g.q A m H v d → OwnR m H v d O → (∀ b ∈ O, ¬ A0 b) → Rep g.K g.q A0 0 H v d
  | .lst ds, m, v, O, r, w, n => by
    cases m with
    | zero => exact Rep.mono .refl ha _ _ _ _ (Nat.le_refl _) r
    | succ m =>
      unfold Rep at r ⊢
      unfold OwnR at w
      obtain ⟨a, vs, rfl, h1, h2, h3, h4⟩ := r
      obtain ⟨p, us, O', e1, h5, rfl, h6⟩ := w
      cases e1
      rw [h1] at h5; cases h5
      exact ⟨a, vs, rfl, h1, h2, fun _ => n a List.mem_cons_self, ownL_free ha ds m vs O' h4 h6 fun b hb => n b (List.mem_cons_of_mem _ hb)⟩
  | .non, m, v, O, r, w, n | .bl _, m, v, O, r, w, n | .int _, m, v, O, r, w, n | .str _, m, v, O, r, w, n | .tup _, m, v, O, r, w, n | .dct _, m, v, O, r, w, n | .set _, m, v, O, r, w, n | .fn _ _, m, v, O, r, w, n | .src, m, v, O, r, w, n => by
    unfold OwnR at w
    obtain ⟨rfl, _⟩ := w
    exact Rep.mono .refl ha _ _ _ _ (Nat.le_refl _) r
theorem ownL_free (ha : ∀ b, A0 b → A b) : ∀ (ds : List D) (m : Nat) (vs : List V) (O : List Addr), RepL g.K g.q A m H vs ds → OwnL m H vs ds O → (∀ b ∈ O, ¬ A0 b) → RepL g.K g.q A0 0 H vs ds
  | [], m, vs, O, r, w, n => by unfold RepL at r ⊢; exact r
  | d :: ds, m, vs, O, r, w, n => by
    unfold RepL at r ⊢
    unfold OwnL at w
    obtain ⟨v, vr, rfl, r1, r2⟩ := r
    obtain ⟨v', vr', O1, O2, e1, rfl, w1, w2⟩ := w
    cases e1
    exact ⟨v, vr, rfl, own_free ha d m v O1 r1 w1 (fun b hb => n b (List.mem_append_left _ hb)), ownL_free ha ds m vr O2 r2 w2 fun b hb => n b (List.mem_append_right _ hb)⟩
end
theorem s_ret {e : E} {ee : Expr} {t : Ty} {pos : Pos} (hk : t.k ≤ x.rt.k) (hf : x.rt.fr = 0 ∨ x.rt.fr = t.fr) (he : PE X ee (rdE g (wx EX) x.ks t (evE F G e))) : PS X (.Return (some ee) pos) (rdS g x EX (evS F G fu (.ret e))) := by
  refine (ps_ret he).of fun D σ H ⟨A0, H0, Hb, Bs, env, o, ⟨A, Os, i⟩, h⟩ => ?_
  unfold evS at h
  refine i.use h fun d o1 v H1 e1 i1 r1 h1 => h1 v H1 i1.grew i1.at_.or ⟨Rep.mono .refl i.a0 _ _ _ _ hk r1.1, fun q => ?_⟩
  rcases hf with hf | hf
  · exact absurd hf q
  · rw [hf] at q ⊢
    obtain ⟨O, h1, h2, h3, h4⟩ := r1.2 q
    exact ⟨O, h1, h2, fun p hp => ⟨i.grew.free (h3 p hp).1, (h3 p hp).2⟩, Rep.mono (A := fun b => A b ∨ b ∈ O) .refl (fun b (z : A0 b ∨ b ∈ O) => z.imp_left (i.a0 b)) _ _ _ _ (Nat.le_refl _) h4⟩
/-- return name, an own slot's -/
theorem s_retOwn {j : Nat} {y : PySem.Str} {py pos : Pos} (hm : x.ms j ≠ 0) (hk : x.ks j = x.ms j) (hf : x.rt.fr = 0 ∨ x.rt.fr = x.ms j) (hN : X.N[j]? = some y) (hv : Vis X.env.scope y) (hd : (y == ("__debug__" : PySem.Str)) = false) (hcd : (y == ("__classdict__" : PySem.Str)) = false) :
    PS X (.Return (some (.Name y py)) pos) (rdS g x EX (evS F G fu (.ret (.var j)))) := by
  refine (ps_ret (pe_var hN hv hd hcd)).of fun D σ H ⟨A0, H0, Hb, Bs, env, o, ⟨A, Os, i⟩, h⟩ => ?_
  unfold evS evE at h
  split at h
  · rename_i d e
    obtain ⟨v, h1, h2⟩ := i.at_.sl.get j d e
    obtain ⟨v', h3, h4⟩ := i.own j hm d e
    rw [h1] at h3; cases h3
    rw [hk] at h2
    refine ⟨v, h1, h v H i.grew i.at_.or ⟨(own_free i.a0 d _ v _ h2 h4 fun b hb z => ?_).le (Nat.zero_le _), fun q => ?_⟩⟩
    · exact i.dom0 b z (i.os j b hb).2.1
    · have e : x.rt.fr = x.ms j := hf.resolve_left q
      rw [e]
      exact ⟨Os j, h4, i.nd j, fun p hp => ⟨(i.os j p hp).2.1, (i.os j p hp).2.2⟩, Rep.mono (A := A) .refl (fun b (z : A0 b ∨ b ∈ Os j) => z.elim (i.a0 b) fun q => (i.os j b q).1) _ _ _ _ (Nat.le_refl _) h2⟩
  · exact h.elim
theorem s_exp {e : E} {ee : Expr} {t : Ty} {pos : Pos} (hs : swapsWith ee none pos.line X.env = Pure.pure false) (he : PE X ee (rdE g (wx EX) x.ks t (evE F G e))) : PS X (.Expr ee pos) (rdS g x EX (evS F G fu (.exp e))) := by
  refine (ps_expr he hs).of fun D σ H ⟨A0, H0, Hb, Bs, env, o, ⟨A, Os, i⟩, h⟩ => ?_
  unfold evS at h
  exact i.use h fun d o1 v H1 e1 i1 r1 h1 => h1 σ H1 ⟨A, Os, i1⟩

mutual
theorem own_dom : ∀ (d : D) (m : Nat) (v : V) (O : List Addr), OwnR m H v d O → ∀ b ∈ O, H b ≠ none
  | .lst ds, m, v, O, h => by
    cases m with
    | zero => unfold OwnR at h; rw [h]; simp
    | succ m =>
      unfold OwnR at h
      obtain ⟨p, vs, O', rfl, h1, rfl, h2⟩ := h
      intro b hb
      rcases List.mem_cons.mp hb with rfl | hb
      · rw [h1]; simp
      · exact ownL_dom ds m vs O' h2 b hb
  | .non, m, v, O, h | .bl _, m, v, O, h | .int _, m, v, O, h | .str _, m, v, O, h | .tup _, m, v, O, h | .dct _, m, v, O, h | .set _, m, v, O, h | .fn _ _, m, v, O, h | .src, m, v, O, h => by unfold OwnR at h; rw [h.2]; simp
theorem ownL_dom : ∀ (ds : List D) (m : Nat) (vs : List V) (O : List Addr), OwnL m H vs ds O → ∀ b ∈ O, H b ≠ none
  | [], m, vs, O, h => by unfold OwnL at h; rw [h.2]; simp
  | d :: ds, m, vs, O, h => by
    unfold OwnL at h
    obtain ⟨v, r, O1, O2, rfl, rfl, h1, h2⟩ := h
    intro b hb
    rcases List.mem_append.mp hb with hb | hb
    · exact own_dom d m v O1 h1 b hb
    · exact ownL_dom ds m r O2 h2 b hb
end
/-! ### stores -/
/-- the slots that a target does not touch stay owned -/
theorem SIx.stored {vs : List Nat} {σ' : L2.St} {env' : Env} (i : SIx g x A0 H0 Hb Bs A Os σ H env o) (a : At g A x.ks σ' H env' o) (k : Keeps vs σ σ' env env') (hv : ∀ j ∈ vs, x.ms j = 0 ∧ x.ks j = 0) : SIx g x A0 H0 Hb Bs A Os σ' H env' o :=
  ⟨a, i.a0, i.aw, fun j hj hk d hd => by
    have n : j ∉ vs := fun z => hk (hv j z).2
    obtain ⟨k1, k2⟩ := k.2.2 j n
    rw [k2] at hd
    obtain ⟨v, h1, h2⟩ := i.lent j hj hk d hd
    exact ⟨v, by rw [k1]; exact h1, h2⟩, i.dom0, i.os, fun j hj d hd => by
    have n : j ∉ vs := fun z => hj (hv j z).1
    obtain ⟨k1, k2⟩ := k.2.2 j n
    rw [k2] at hd
    obtain ⟨v, h1, h2⟩ := i.own j hj d hd
    exact ⟨v, by rw [k1]; exact h1, h2⟩, i.nd, i.dis, i.grew, i.chg, i.osB, i.frB⟩
theorem s_asg {t : Tg} {e : E} {tg ee : Expr} {ty : Ty} {pos : Pos} (hk : ty.k = 0) (hv : ∀ j ∈ tgN t, x.ms j = 0 ∧ x.ks j = 0) (hs : swapsWithSole [tg] ee pos.line X.env = Pure.pure false) (hw : swappedStores [tg] ee X.env = Pure.pure none) (hst : notStar tg = true)
    (he : PE X ee (rdE g (wx EX) x.ks ty (evE F G e))) (hg : PG X tg (gRd g x.ks t)) : PS X (.Assign [tg] ee pos) (rdS g x EX (evS F G fu (.asg t e))) := by
  refine (ps_asg he hg hs hw ?_).of fun D σ H ⟨A0, H0, Hb, Bs, env, o, ⟨A, Os, i⟩, h⟩ => ?_
  · cases tg <;> first | rfl | (simp [notStar] at hst)
  · unfold evS at h
    refine i.use h fun d o1 v H1 e1 i1 r1 h1 => ?_
    obtain ⟨env1, he1, h2⟩ := h1.ofb
    have r := r1.1
    rw [hk] at r
    exact ⟨env, o1, A, d, env1, i1.at_, r, he1, fun σ' a' k' => h2 σ' H1 ⟨A, Os, i1.stored a' k' hv⟩⟩
/-- name = a comprehension on one line -/
theorem s_asgLc {i : Nat} {e : E} {y : PySem.Str} {py : Pos} {ee : Expr} {ty : Ty} {pos : Pos} (hm : x.ms i = 0 ∧ x.ks i = 0) (hk : ty.k = 0) (he : PS X (.Assign [.Name y py] ee pos) (tAsg (rdE g (wx EX) x.ks ty (evE F G e)) (gName i))) : PS X (.Assign [.Name y py] ee pos) (rdS g x EX (evS F G fu (.asg (.nm i) e))) := by
  refine he.of fun D σ H ⟨A0, H0, Hb, Bs, env, o, ⟨A, Os, i0⟩, h⟩ => ?_
  unfold evS at h
  refine i0.use h fun d o1 v H1 e1 i1 r1 h1 => ?_
  obtain ⟨env1, he1, h2⟩ := h1.ofb
  simp only [asgT, Option.some.injEq] at he1; subst he1
  have r := r1.1
  rw [hk] at r
  refine h2 _ H1 ⟨A, Os, i1.stored (i1.at_.set (r.le (Nat.zero_le _))) (.set (i := i)) fun j hj => ?_⟩
  rw [List.mem_singleton.mp hj]; exact hm
/-- one own slot gets a new value -/
theorem SIx.put {i : Nat} {v : V} {d : D} {O : List Addr} {A' : Addr → Prop} (s : SIx g x A0 H0 Hb Bs A Os σ H env o) (a : At g A' x.ks σ H env o) (hA : ∀ b, A b → A' b) (hW : ∀ b, A' b → A0 b ∨ H0 b = none) (hki : x.ms i = 0 → x.ks i = 0) (hO : ∀ b ∈ O, A' b ∧ H0 b = none ∧ ¬ ocOf g.q b) (hB : ∀ b ∈ O, Bs b) (nd : O.Nodup) (ap : ∀ j, ∀ b ∈ Os j, b ∉ O)
    (r : Rep g.K g.q A' (x.ks i) H v d) (w : x.ms i ≠ 0 → OwnR (x.ms i) H v d O) : SIx g x A0 H0 Hb Bs A' (fun j => if j = i then O else Os j) (σ.set i (some v)) H (env.set i (some d)) o := by
  refine ⟨a.set r, fun b h => hA b (s.a0 b h), hW, fun j hj hk e he => ?_, s.dom0, fun j b hb => ?_, fun j hj e he => ?_, fun j => ?_, fun j l b h1 h2 => ?_, s.grew, s.chg, fun j b hb => ?_, s.frB⟩
  · have z : j ≠ i := fun z => hk (by subst z; exact hki hj)
    rw [List.getElem?_set_ne (fun q => z q.symm)] at he ⊢
    exact s.lent j hj hk e he
  · by_cases z : j = i
    · simp only [z, if_true] at hb; exact hO b hb
    · simp only [z, if_false] at hb; exact ⟨hA b (s.os j b hb).1, (s.os j b hb).2⟩
  · by_cases z : j = i
    · subst z
      have hl := a.sl.len
      rw [List.getElem?_set] at he ⊢
      simp only [if_true] at he ⊢
      split at he
      · cases he
        rw [if_pos (by omega)]
        exact ⟨v, rfl, w hj⟩
      · cases he
    · rw [List.getElem?_set_ne (fun q => z q.symm)] at he ⊢
      obtain ⟨u, h1, h2⟩ := s.own j hj e he
      exact ⟨u, h1, by simp only [z, if_false]; exact h2⟩
  · by_cases z : j = i
    · simp only [z, if_true]; exact nd
    · simp only [z, if_false]; exact s.nd j
  · by_cases z : j = i <;> by_cases y : l = i
    · rw [z, y]
    · simp only [z, y, if_true, if_false] at h1 h2
      exact absurd h1 (ap l b h2)
    · simp only [z, y, if_true, if_false] at h1 h2
      exact absurd h2 (ap j b h1)
    · simp only [z, y, if_false] at h1 h2
      exact s.dis j l b h1 h2
  · by_cases z : j = i
    · simp only [z, if_true] at hb; exact hB b hb
    · simp only [z, if_false] at hb; exact s.osB j b hb
theorem s_own {i : Nat} {e : E} {y : PySem.Str} {py : Pos} {ee : Expr} {ty : Ty} {pos : Pos} (hm : x.ms i ≠ 0) (hf : ty.fr = x.ms i) (hk : x.ms i ≤ x.ks i) (he : PS X (.Assign [.Name y py] ee pos) (tAsg (rdE g (wx EX) x.ks ty (evE F G e)) (gName i))) :
    PS X (.Assign [.Name y py] ee pos) (rdS g x EX (evS F G fu (.asg (.nm i) e))) := by
  refine he.of fun D σ H ⟨A0, H0, Hb, Bs, env, o, ⟨A, Os, i0⟩, h⟩ => ?_
  unfold evS at h
  refine ⟨env, o, A, i0.at_, h.bind.mono (fun d o1 h1 v H1 e1 or1 r1 => ?_) fun _ _ z => z.ew i0.grew⟩
  have i1 := i0.ext e1 or1
  obtain ⟨env1, he1, h2⟩ := h1.ofb
  simp only [asgT, Option.some.injEq] at he1; subst he1
  obtain ⟨O, w1, w2, w3, w4⟩ := r1.2 (by rw [hf]; exact hm)
  rw [hf] at w1 w4
  have dO : ∀ b ∈ O, H1 b ≠ none := own_dom d _ v O w1
  have a2 : At g (fun b => A b ∨ b ∈ O) x.ks σ H1 env o1 := i0.at_.grow (M := fun _ => False) (fun b hb => hb.imp_right fun z => (w3 b z).1) e1.chg (fun _ z => z.elim) (fun b hb => hb.elim (fun z => i1.at_.dom b z) (dO b)) or1
  exact h2 _ H1 ⟨_, _, i1.put a2 (fun b => .inl) (fun b hb => hb.elim (i1.aw b) fun z => .inr (i0.grew.free (w3 b z).1)) (fun z => absurd z hm) (fun b hb => ⟨.inr hb, i0.grew.free (w3 b hb).1, (w3 b hb).2⟩) (fun b hb => i0.fresh (w3 b hb).1) w2 (fun j b hb hO => i0.at_.dom b (i0.os j b hb).1 (w3 b hO).1) (w4.le hk) fun _ => w1⟩

/-! ### a, b = .. -/
def RepAT (g : Gx) (A' : Addr → Prop) (H' : Hp) : List Ty → List V → List D → List (List Addr) → Prop
  | [], vs, ds, Ol => vs = [] ∧ ds = [] ∧ Ol = []
  | τ :: tys, vs, ds, Ol => ∃ v r d e O Or', vs = v :: r ∧ ds = d :: e ∧ Ol = O :: Or' ∧ ((τ.fr = 0 ∧ O = [] ∧ Rep g.K g.q A' τ.k H' v d) ∨ (τ.fr ≠ 0 ∧ OwnR τ.fr H' v d O ∧ Rep g.K g.q A' τ.fr H' v d)) ∧ RepAT g A' H' tys r e Or'
def rdAT (g : Gx) (W : WX) (ks : Nat → Nat) (tys : List Ty) (ev : Env → OS → R (List D)) : TA := fun σ H Q => ∃ env o A, At g A ks σ H env o ∧
  Post (ev env o) (fun ds o' => ∀ vs H' A' Ol, Ext g.q H H' → At g A' ks σ H' env o' → (∀ b, A b → A' b) → (∀ b, A' b → A b ∨ H b = none) → RepAT g A' H' tys vs ds Ol → Ol.flatten.Nodup → (∀ p ∈ Ol.flatten, H p = none ∧ ¬ ocOf g.q p ∧ A' p) → Q vs H') (Ew g W σ H)
theorem t_nil : PA X [] (rdAT g W ks [] (evEs F G .nil)) := by
  refine pa_nil.of fun σ H Q ⟨env, o, A, a, h⟩ => ?_
  unfold evEs at h
  exact h [] H A [] .refl a (fun _ z => z) (fun _ z => .inl z) ⟨rfl, rfl, rfl⟩ (by simp) (by simp)
theorem t_cons {e : E} {es : Es} {ee : Expr} {ees : List Expr} {t : Ty} {tys : List Ty} (hs : notStar ee = true) (he : PE X ee (rdE g W ks t (evE F G e))) (hes : PA X ees (rdAT g W ks tys (evEs F G es))) :
    PA X (ee :: ees) (rdAT g W ks (t :: tys) (evEs F G (.cons e es))) := by
  refine (pa_cons he hes (star_of hs)).of fun σ H Q ⟨env, o, A, at_, h⟩ => ?_
  unfold evEs at h
  refine ⟨env, o, A, at_, h.bind.mono (fun d o1 h1 v H1 e1 or1 r1 => ?_) fun _ _ z => z⟩
  by_cases hf : t.fr = 0
  · refine ⟨env, o1, A, at_.next e1 or1, h1.bind.mono (fun ds o2 h2 vs H2 A' Ol e2 a2 hA hB ra nd fr => ?_) fun _ _ z => z.ext e1⟩
    refine h2 (v :: vs) H2 A' ([] :: Ol) (e1.trans e2) a2 hA (fun b z => (hB b z).imp_right e1.free) ⟨v, vs, d, ds, [], Ol, rfl, rfl, rfl, .inl ⟨hf, rfl, (Rep.grow hB _ _ _ r1.1).ext e2⟩, ra⟩ (by simpa using nd) fun p hp => ?_
    obtain ⟨f1, f2, f3⟩ := fr p (by simpa using hp)
    exact ⟨e1.free f1, f2, f3⟩
  · obtain ⟨O, w1, w2, w3, w4⟩ := r1.2 hf
    have dO := own_dom d _ v O w1
    have a1 : At g (fun b => A b ∨ b ∈ O) ks σ H1 env o1 := at_.grow (M := fun _ => False) (fun b hb => hb.imp_right fun z => (w3 b z).1) e1.chg (fun _ z => z.elim) (fun b hb => hb.elim (fun z => e1.dom b (at_.dom b z)) (dO b)) or1
    refine ⟨env, o1, _, a1, h1.bind.mono (fun ds o2 h2 vs H2 A' Ol e2 a2 hA hB ra nd fr => ?_) fun _ _ z => z.ext e1⟩
    refine h2 (v :: vs) H2 A' (O :: Ol) (e1.trans e2) a2 (fun b z => hA b (.inl z)) (fun b z => (hB b z).elim (fun y => y.imp_right fun q => (w3 b q).1) fun y => .inr (e1.free y)) ⟨v, vs, d, ds, O, Ol, rfl, rfl, rfl, .inr ⟨hf, w1.ext e2 _ _ _ _ (fun b hb => (w3 b hb).2), (Rep.grow hB _ _ _ w4).ext e2⟩, ra⟩ ?_ fun p hp => ?_
    · rw [List.flatten_cons, List.nodup_append]
      exact ⟨w2, nd, fun a ha b hb e => dO a ha (e ▸ (fr b hb).1)⟩
    · rw [List.flatten_cons] at hp
      rcases List.mem_append.mp hp with hp | hp
      · exact ⟨(w3 p hp).1, (w3 p hp).2, hA p (.inr hp)⟩
      · obtain ⟨f1, f2, f3⟩ := fr p hp
        exact ⟨e1.free f1, f2, f3⟩
/-- a value for slot i -/
def fits (x : Fx) (i : Nat) (t : Ty) : Bool := (x.ms i == 0 && t.fr == 0 && decide (t.k = 0) && decide (x.ks i = 0)) || (x.ms i != 0 && t.fr == x.ms i && decide (x.ms i ≤ x.ks i))
/-- several stores, one after another -/
theorem SIx.puts : ∀ {is : List Nat} {tys : List Ty} {vs : List V} {ds : List D} {Ol : List (List Addr)} {Os : Nat → List Addr} {σ : L2.St} {env env1 : Env}, is.length = tys.length → (∀ i ∈ is, True) → SIx g x A0 H0 Hb Bs A Os σ H env o →
    (∀ p ∈ is.zip tys, fits x p.1 p.2 = true) → RepAT g A H tys vs ds Ol → Ol.flatten.Nodup → (∀ b ∈ Ol.flatten, A b ∧ H0 b = none ∧ ¬ ocOf g.q b) → (∀ b ∈ Ol.flatten, Bs b) → (∀ j, ∀ b ∈ Os j, b ∉ Ol.flatten) → parE is ds env = some env1 →
    SI g x A0 H0 Hb Bs ((is.zip vs).foldl (fun σ p => σ.set p.1 (some p.2)) σ) H env1 o
  | [], [], vs, ds, Ol, Os, σ, env, env1, _, _, s, _, ⟨h1, h2, h3⟩, _, _, _, _, hp => by
    subst h1 h2 h3
    simp only [parE, Option.some.injEq] at hp; subst hp
    exact ⟨A, Os, s⟩
  | i :: is, t :: tys, vs, ds, Ol, Os, σ, env, env1, hl, _, s, hf, ⟨v, r, d, e, O, Ol', h1, h2, h3, h4, h5⟩, nd, fr, fb, ap, hp => by
    subst h1 h2 h3
    rw [List.flatten_cons, List.nodup_append] at nd
    have hfi := hf (i, t) (by simp)
    simp only [parE] at hp
    have key : Rep g.K g.q A (x.ks i) H v d ∧ (x.ms i = 0 → x.ks i = 0) ∧ (x.ms i ≠ 0 → OwnR (x.ms i) H v d O) := by
      simp only [fits, Bool.or_eq_true, Bool.and_eq_true, beq_iff_eq, decide_eq_true_eq, bne_iff_ne] at hfi
      rcases hfi with ⟨⟨⟨c1, c2⟩, c3⟩, c4⟩ | ⟨⟨c1, c2⟩, c3⟩
      · rcases h4 with ⟨_, _, q3⟩ | ⟨q1, _, _⟩
        · exact ⟨q3.le (by omega), fun _ => c4, fun z => absurd c1 z⟩
        · exact absurd c2 q1
      · rcases h4 with ⟨q1, _, _⟩ | ⟨_, q2, q3⟩
        · exact absurd (c2.symm.trans q1) c1
        · exact ⟨q3.le (by rw [c2]; exact c3), fun z => absurd z c1, fun _ => by rw [← c2]; exact q2⟩
    have s2 := s.put (i := i) (O := O) s.at_ (fun b z => z) s.aw key.2.1 (fun b hb => fr b (by rw [List.flatten_cons]; exact List.mem_append_left _ hb)) (fun b hb => fb b (by rw [List.flatten_cons]; exact List.mem_append_left _ hb)) nd.1 (fun j b hb q => ap j b hb (by rw [List.flatten_cons]; exact List.mem_append_left _ q)) key.1 key.2.2
    refine SIx.puts (is := is) (tys := tys) (by simpa using hl) (fun _ _ => trivial) s2 (fun p hp => hf p (by simp [hp])) h5 nd.2.1 (fun b hb => fr b (by rw [List.flatten_cons]; exact List.mem_append_right _ hb)) (fun b hb => fb b (by rw [List.flatten_cons]; exact List.mem_append_right _ hb)) (fun j b hb q => ?_) hp
    by_cases z : j = i
    · simp only [z, if_true] at hb
      exact nd.2.2 b hb b q rfl
    · simp only [z, if_false] at hb
      exact ap j b hb (by rw [List.flatten_cons]; exact List.mem_append_right _ q)
theorem rdAT_len {es : Es} : True := trivial
theorem s_par2 {i j : Nat} {y z : PySem.Str} {a b : Expr} {es : Es} {t1 t2 : Ty} {py pz pt : Pos} {kt k2 pt2} {pos : Pos} (hc : X.calm = true) (hN : X.N.Nodup) (hi : X.N[i]? = some y) (hj : X.N[j]? = some z) (hij : i ≠ j)
    (hx : X.env.scope.names.lookup y = some .local) (hy : X.env.scope.names.lookup z = some .local) (ha : PA X [a, b] (rdAT g (wx EX) x.ks [t1, t2] (evEs F G es)))
    (hw : swappedStores [.Tuple [.Name y py, .Name z pz] kt pt] (.Tuple [a, b] k2 pt2) X.env = Pure.pure (some [y, z])) (f1 : fits x i t1 = true) (f2 : fits x j t2 = true) :
    PS X (.Assign [.Tuple [.Name y py, .Name z pz] kt pt] (.Tuple [a, b] k2 pt2) pos) (rdS g x EX (evS F G fu (.par [i, j] es))) := by
  refine (ps_par hc hN hi hj hij hx hy ha hw).of fun D σ H ⟨A0, H0, Hb, Bs, env, o, ⟨A, Os, i0⟩, h⟩ => ?_
  unfold evS at h
  refine ⟨env, o, A, i0.at_, h.bind.mono (fun ds o1 h1 vs H1 A' Ol e1 a1 hA hB ra nd fr => ?_) fun _ _ z => z.ew i0.grew⟩
  obtain ⟨env1, he1, h2⟩ := h1.ofb
  have sx : SIx g x A0 H0 Hb Bs A' Os σ H1 env o1 := by
    have := i0.ext e1 a1.or
    exact ⟨a1, fun b z => hA b (this.a0 b z), fun b z => (hB b z).elim (this.aw b) fun y => .inr (i0.grew.free y), this.lent, this.dom0, fun j b hb => ⟨hA b (this.os j b hb).1, (this.os j b hb).2⟩, this.own, this.nd, this.dis, this.grew, this.chg, this.osB, this.frB⟩
  have fin := SIx.puts (is := [i, j]) (tys := [t1, t2]) rfl (fun _ _ => trivial) sx (fun p hp => by
    simp only [List.zip_cons_cons, List.zip_nil_right, List.mem_cons, List.not_mem_nil, or_false] at hp
    rcases hp with rfl | rfl
    · exact f1
    · exact f2) ra nd (fun b hb => ⟨(fr b hb).2.2, i0.grew.free (fr b hb).1, (fr b hb).2.1⟩) (fun b hb => i0.fresh (fr b hb).1) (fun j b hb q => i0.at_.dom b (i0.os j b hb).1 (fr b q).1) he1
  obtain ⟨v, r, d, e, O, Or', rfl, rfl, rfl, _, v2, r2, d2, e2, O2, Or2, rfl, rfl, rfl, _, rfl, _, _⟩ := ra
  exact ⟨v, v2, rfl, h2 _ H1 fin⟩
theorem s_par3 {i j l : Nat} {y z w : PySem.Str} {a b c : Expr} {es : Es} {t1 t2 t3 : Ty} {py pz pw pt : Pos} {kt k2 pt2} {pos : Pos} (hc : X.calm = true) (hN : X.N.Nodup) (hi : X.N[i]? = some y) (hj : X.N[j]? = some z) (hl : X.N[l]? = some w) (hij : i ≠ j) (hil : i ≠ l) (hjl : j ≠ l)
    (hx : X.env.scope.names.lookup y = some .local) (hy : X.env.scope.names.lookup z = some .local) (hz : X.env.scope.names.lookup w = some .local) (ha : PA X [a, b, c] (rdAT g (wx EX) x.ks [t1, t2, t3] (evEs F G es)))
    (hw : swappedStores [.Tuple [.Name y py, .Name z pz, .Name w pw] kt pt] (.Tuple [a, b, c] k2 pt2) X.env = Pure.pure (some [y, z, w])) (f1 : fits x i t1 = true) (f2 : fits x j t2 = true) (f3 : fits x l t3 = true) :
    PS X (.Assign [.Tuple [.Name y py, .Name z pz, .Name w pw] kt pt] (.Tuple [a, b, c] k2 pt2) pos) (rdS g x EX (evS F G fu (.par [i, j, l] es))) := by
  refine (ps_par3 hc hN hi hj hl hij hil hjl hx hy hz ha hw).of fun D σ H ⟨A0, H0, Hb, Bs, env, o, ⟨A, Os, i0⟩, h⟩ => ?_
  unfold evS at h
  refine ⟨env, o, A, i0.at_, h.bind.mono (fun ds o1 h1 vs H1 A' Ol e1 a1 hA hB ra nd fr => ?_) fun _ _ z => z.ew i0.grew⟩
  obtain ⟨env1, he1, h2⟩ := h1.ofb
  have sx : SIx g x A0 H0 Hb Bs A' Os σ H1 env o1 := by
    have := i0.ext e1 a1.or
    exact ⟨a1, fun b z => hA b (this.a0 b z), fun b z => (hB b z).elim (this.aw b) fun y => .inr (i0.grew.free y), this.lent, this.dom0, fun j b hb => ⟨hA b (this.os j b hb).1, (this.os j b hb).2⟩, this.own, this.nd, this.dis, this.grew, this.chg, this.osB, this.frB⟩
  have fin := SIx.puts (is := [i, j, l]) (tys := [t1, t2, t3]) rfl (fun _ _ => trivial) sx (fun p hp => by
    simp only [List.zip_cons_cons, List.zip_nil_right, List.mem_cons, List.not_mem_nil, or_false] at hp
    rcases hp with rfl | rfl | rfl
    · exact f1
    · exact f2
    · exact f3) ra nd (fun b hb => ⟨(fr b hb).2.2, i0.grew.free (fr b hb).1, (fr b hb).2.1⟩) (fun b hb => i0.fresh (fr b hb).1) (fun j b hb q => i0.at_.dom b (i0.os j b hb).1 (fr b q).1) he1
  obtain ⟨v, r, d, e, O, Or', rfl, rfl, rfl, _, v2, r2, d2, e2, O2, Or2, rfl, rfl, rfl, _, v3, r3, d3, e3, O3, Or3, rfl, rfl, rfl, _, rfl, _, _⟩ := ra
  exact ⟨v, v2, v3, rfl, h2 _ H1 fin⟩

/-! ### loops -/
theorem SIx.shrink (i : SIx g x A0 H0 Hb Bs A Os σ H env o) : SIx g x A0 H0 Hb Bs (fun b => A0 b ∨ ∃ j, b ∈ Os j) Os σ H env o := by
  have sub : ∀ b, (A0 b ∨ ∃ j, b ∈ Os j) → A b := fun b z => z.elim (i.a0 b) fun ⟨j, y⟩ => (i.os j b y).1
  refine ⟨⟨⟨i.at_.sl.len, fun j d h => ?_⟩, i.at_.or, fun b z => i.at_.dom b (sub b z)⟩, fun b z => .inl z, fun b z => i.aw b (sub b z), i.lent, i.dom0, fun j b hb => ⟨.inr ⟨j, hb⟩, (i.os j b hb).2⟩, i.own, i.nd, i.dis, i.grew, i.chg, i.osB, i.frB⟩
  obtain ⟨v, h1, h2⟩ := i.at_.sl.get j d h
  exact ⟨v, h1, Rep.mono .refl sub _ _ _ _ (Nat.le_refl _) h2⟩
/-- the ground moved up to where a loop begins -/
theorem SIx.base (i : SIx g x A0 H0 Hb Bs A Os σ H env o) : SIx g x A0 H0 H (fun b => (∃ j, b ∈ Os j) ∨ H b = none) A Os σ H env o :=
  ⟨i.at_, i.a0, i.aw, i.lent, i.dom0, i.os, i.own, i.nd, i.dis, i.grew, Ext.refl.chg, fun j b h => .inl ⟨j, h⟩, fun b h => .inr h⟩
theorem SIx.unbase {A1 : Addr → Prop} {Os1 : Nat → List Addr} {σ1 : L2.St} {env1 : Env} {o1 : OS} (i : SIx g x A0 H0 Hb Bs A1 Os1 σ1 H1 env1 o1) (h : SI g x A0 H0 H1 (fun b => (∃ j, b ∈ Os1 j) ∨ H1 b = none) σ H env o) : SI g x A0 H0 Hb Bs σ H env o := by
  obtain ⟨A, Os, s⟩ := h
  have up : ∀ b, ((∃ j, b ∈ Os1 j) ∨ H1 b = none) → Bs b := fun b z => by
    rcases z with ⟨j, z⟩ | z
    · exact i.osB j b z
    · exact i.fresh z
  exact ⟨A, Os, s.at_, s.a0, s.aw, s.lent, s.dom0, s.os, s.own, s.nd, s.dis, s.grew, i.chg.trans (s.chg.mono up), fun j b h => up b (s.osB j b h), i.frB⟩
def bodyF (F : Nat → List D → OS → R D) (G : Nat → D) (fu : Nat) (t : Tg) (b : Sts) : D → Env → OS → R Fl := fun d env o => (R.of (asgT t d env) o).bind fun env1 o1 => evSs F G fu b env1 o1
theorem s_for {t : Tg} {it : It} {b : Sts} {tg iter : Expr} {body : List Stmt} {pos : Pos} {j : Nat} (hj : j = 0) (hp : PassesOwn (model X.prog X.w) X.A X.env X.xe) (hc : X.calm = true) (hv : ∀ j ∈ tgN t, x.ms j = 0 ∧ x.ks j = 0) (hf : ∀ v, foldedSetIterable iter X.env v = Pure.pure v)
    (hi : PI X tg iter (rdI g (wx EX) x.ks j (evI F G it))) (hg : PG X tg (gRd g x.ks t)) (hb : PSs X body (rdS g x EX (evSs F G fu b))) : PS X (.For tg iter body [] pos) (rdS g x EX (evS F G fu (.forr t it b))) := by
  subst hj
  refine (ps_for hp hc hi hg hb hf).of fun D σ H ⟨A0, H0, Hb, Bs, env, o, ⟨A, Os, i0⟩, h⟩ => ?_
  unfold evS at h
  refine ⟨env, o, A, i0.at_, h.bind.mono (fun ds o1 h1 J H1 e1 or1 hit => ?_) fun _ _ z => z.ew i0.grew⟩
  have i1 := i0.ext e1 or1
  have J2 := hit (fun b => A b ∨ H1 b = none) (fun b z => z)
  refine ⟨fun i m σ H => ∃ env o, m = ds.length - i ∧ SI g x A0 H0 H1 (fun b => (∃ j, b ∈ Os j) ∨ H1 b = none) σ H env o ∧ Post (frGo (bodyF F G fu t b) (ds.drop i) env o) (EndP g x A0 H0 Hb Bs D) (ExP g EX H0), ⟨_, env, o1, rfl, ⟨A, Os, i1.base⟩, h1⟩, ?_⟩
  rintro i m σ2 H2 ⟨env2, o2, rfl, ⟨A2, Os2, i2⟩, hp2⟩
  obtain ⟨j1, j2⟩ := J2 _ H2 (fun b z => z.imp_left fun ⟨j, y⟩ => ⟨rfl, .inl (i1.os j b y).1⟩) i2.chg i
  by_cases hi : i < ds.length
  · have hd : ds[i]? = some ds[i] := List.getElem?_eq_getElem hi
    obtain ⟨go, yl⟩ := j2 _ hd
    refine .inr ⟨go, fun σ' H' => ∃ env o, SI g x A0 H0 H1 (fun b => (∃ j, b ∈ Os j) ∨ H1 b = none) σ' H' env o ∧ Post (frGo (bodyF F G fu t b) (ds.drop (i + 1)) env o) (EndP g x A0 H0 Hb Bs D) (ExP g EX H0), fun σ' H' ⟨env', o', w⟩ => ⟨ds.length - (i + 1), by omega, env', o', rfl, w⟩, fun y H' hy => ?_⟩
    obtain ⟨sm, rx⟩ := yl y H' hy
    have eH : Ext g.q H2 H' := .of_same sm
    have i3 := (i2.shrink).ext eH (i2.at_.or.same sm)
    have rx' : Rep g.K g.q (fun b => A0 b ∨ ∃ j, b ∈ Os2 j) 0 H' y ds[i] := Rep.mono (A := fun b => A b ∨ H1 b = none) .refl (fun b z => by
      rcases z with z | ⟨l, z⟩
      · exact .inl (i1.a0 b z)
      · exact (i2.osB l b z).imp_left fun ⟨l', y⟩ => (i1.os l' b y).1) _ _ _ _ (Nat.le_refl _) rx
    rw [List.drop_eq_getElem_cons hi] at hp2
    unfold frGo at hp2
    rw [show bodyF F G fu t b ds[i] env2 o2 = _ from rfl] at hp2
    unfold bodyF at hp2
    rw [R.bind_assoc] at hp2
    obtain ⟨env3, he3, hp3⟩ := hp2.ofb
    refine ⟨env2, o2, _, ds[i], env3, i3.at_, rx', he3, fun σ' a' k' => ⟨A0, H0, H1, _, env3, o2, ⟨_, Os2, i3.stored a' k' hv⟩, hp3.bind.mono (fun fl o4 h4 => ?_) fun _ _ z => z⟩⟩
    cases fl with
    | nx env4 => exact fun σ4 H4 i4 => ⟨env4, o4, i4, h4⟩
    | ct env4 => exact fun σ4 H4 i4 => ⟨env4, o4, i4, h4⟩
    | bk env4 => exact fun σ4 H4 i4 => h4 σ4 H4 (i1.unbase i4)
    | rt d => exact h4
  · refine .inl ⟨j1 (by omega), ?_⟩
    rw [List.drop_eq_nil_of_le (by omega)] at hp2
    unfold frGo at hp2
    exact hp2 σ2 H2 (i1.unbase ⟨A2, Os2, i2⟩)
theorem s_while {c : E} {b : Sts} {ec : Expr} {body : List Stmt} {pos : Pos} (hp : PassesOwn (model X.prog X.w) X.A X.env X.xe) (hc : PT X ec (rdT g (wx EX) x.ks (tst (evE F G c)))) (hb : PSs X body (rdS g x EX (evSs F G fu b))) :
    PS X (.While ec body [] pos) (rdS g x EX (evS F G fu (.whil c b))) := by
  refine (ps_while hp hc hb).of fun D σ H ⟨A0, H0, Hb, Bs, env, o, i0, h⟩ => ?_
  unfold evS at h
  refine ⟨fun m σ H => ∃ env o, SI g x A0 H0 Hb Bs σ H env o ∧ Post (whGo (fun env o => (evE F G c env o).bind fun x o1 => .ok (truthy x) o1) (fun env o => evSs F G fu b env o) m env o) (EndP g x A0 H0 Hb Bs D) (ExP g EX H0), ⟨fu, env, o, i0, h⟩, ?_⟩
  rintro m σ1 H1 ⟨env1, o1, ⟨A, Os, i1⟩, h1⟩
  cases m with
  | zero => unfold whGo at h1; exact h1.elim
  | succ m =>
    unfold whGo at h1
    rw [R.bind_assoc] at h1
    refine i1.useT h1 fun d o2 H2 e2 i2 h2 => ?_
    simp only [R.bind_ok] at h2
    cases t : truthy d with
    | false => rw [t] at h2; simp only [Bool.false_eq_true, if_false] at h2 ⊢; exact h2 σ1 H2 ⟨A, Os, i2⟩
    | true =>
      rw [t] at h2
      simp only [if_true] at h2 ⊢
      refine ⟨fun σ H => ∃ env o, SI g x A0 H0 Hb Bs σ H env o ∧ Post (whGo (fun env o => (evE F G c env o).bind fun x o1 => .ok (truthy x) o1) (fun env o => evSs F G fu b env o) m env o) (EndP g x A0 H0 Hb Bs D) (ExP g EX H0), fun σ' H' z => ⟨m, Nat.lt_succ_self _, z⟩, A0, H0, Hb, Bs, env1, o2, ⟨A, Os, i2⟩, h2.bind.mono (fun fl o4 h4 => ?_) fun _ _ z => z⟩
      cases fl with
      | nx env4 => exact fun σ4 H4 i4 => ⟨env4, o4, i4, h4⟩
      | ct env4 => exact fun σ4 H4 i4 => ⟨env4, o4, i4, h4⟩
      | bk env4 => exact fun σ4 H4 i4 => h4 σ4 H4 i4
      | rt d => exact h4

/-! ### op=, append, raise, try -/
def ipD (g : Gx) (op : Bop) : TIp := fun x y H Q => ∃ (A : Addr → Prop) (j k : Nat) (d e z : D), Rep g.K g.q A j H x d ∧ Rep g.K g.q A k H y e ∧ augD op d e = some z ∧ ∀ v, Rep g.K g.q A 0 H v z → Q v H
theorem ip_addD : PIp X .Add (ipD g .add) := by
  intro pins s σ H x y v u Q I r1 r2 ⟨A, j, k, d, e, z, ra, rb, hz, q⟩
  cases d <;> cases e <;> first | (simp [augD] at hz; done) | skip
  case int.int a b =>
    simp only [augD, Option.some.injEq] at hz; subst hz
    unfold Rep at ra rb; subst ra; subst rb
    exact ip_add pins s σ H _ _ v u Q I r1 r2 ⟨a, b, rfl, rfl, q _ rep_int⟩
  case str.str a b =>
    simp only [augD] at hz
    split at hz
    · rename_i c
      cases hz
      unfold Rep at ra rb
      obtain ⟨rfl, ok1⟩ := ra
      obtain ⟨rfl, ok2⟩ := rb
      obtain ⟨t, rfl⟩ := r1
      obtain ⟨t', rfl⟩ := r2
      refine SB.iadd (fun t2 k2 => ⟨.str _, H, I.tok _, ⟨t2, rfl⟩, q _ ?_⟩) (by rw [len_str, len_str, ← lid_eq] at *; exact c)
      unfold Rep
      refine ⟨by show V.str (⟨a.toArray ++ b.toArray⟩ : PySem.Str) = _; simp, fun c' hc => ?_, by simpa using c⟩
      rcases List.mem_append.mp hc with z | z
      · exact ok1.1 c' z
      · exact ok2.1 c' z
    · cases hz
theorem ip_subD : PIp X .Sub (ipD g .sub) := by
  intro pins s σ H x y v u Q I r1 r2 ⟨A, j, k, d, e, z, ra, rb, hz, q⟩
  cases d <;> cases e <;> first | (simp [augD] at hz; done) | skip
  case int.int a b =>
    simp only [augD, Option.some.injEq] at hz; subst hz
    unfold Rep at ra rb; subst ra; subst rb
    exact ip_sub pins s σ H _ _ v u Q I r1 r2 ⟨a, b, rfl, rfl, q _ rep_int⟩
theorem getE_some {i : Nat} {d : D} (h : getE env i = some d) : env[i]? = some (some d) := by
  unfold getE at h
  cases e : env[i]? with
  | none => rw [e] at h; cases h
  | some z => rw [e] at h; cases z <;> first | (cases h; done) | (cases h; rfl)
theorem s_aug {i : Nat} {op : Bop} {pop : Operator} {e : E} {y : PySem.Str} {py : Pos} {ee : Expr} {t : Ty} {pos : Pos} (hm : x.ms i = 0 ∧ x.ks i = 0) (hip : PIp X pop (ipD g op)) (hN : X.N.Nodup) (hi : X.N[i]? = some y) (hx : Loc X.env.scope y) (hf : X.fn y = true ∨ X.env.scope.names.lookup y = some .local)
    (he : PE X ee (rdE g (wx EX) x.ks t (evE F G e))) : PS X (.AugAssign (.Name y py) pop ee pos) (rdS g x EX (evS F G fu (.aug i op e))) := by
  refine (ps_aug hN hi hx he hip hf).of fun D σ H ⟨A0, H0, Hb, Bs, env, o, ⟨A, Os, i0⟩, h⟩ => ?_
  unfold evS at h
  obtain ⟨d0, hd0, h⟩ := h.ofb
  obtain ⟨v0, hv0, rv0⟩ := i0.at_.sl.get i d0 (getE_some hd0)
  refine ⟨v0, hv0, i0.use h fun d o1 v H1 e1 i1 r1 h1 => ?_⟩
  obtain ⟨z, hz, h2⟩ := h1.ofb
  refine ⟨A, _, _, d0, d, z, rv0.ext e1, r1.1, hz, fun w rw' => h2 _ H1 ⟨A, Os, i1.stored (i1.at_.set (rw'.le (Nat.zero_le _))) (.set (i := i)) fun j hj => ?_⟩⟩
  rw [List.mem_singleton.mp hj]; exact hm
/-- what a class's call makes, to be raised -/
def Rz (X : Cx) (cls : Value) (y : PySem.Str) : Prop := ∀ {ea : Expr} {p pos : Pos} {te : TE}, notStar ea = true → PE X ea te → PMk X (.Call (.Name y p) [ea] [] pos) (fun σ H Q => te σ H fun v H1 => ∃ i, v = .int i ∧ ∀ dd H', Same H1 H' → Q cls dd H')
theorem s_rai {c : Nat} {e : E} {y : PySem.Str} {ea : Expr} {p pos pos' : Pos} {t : Ty} (hc : X.calm = true) (tk : Takes X (wx EX)) (rz : Rz X (g.ct c) y) (hs : notStar ea = true) (he : PE X ea (rdE g (wx EX) x.ks t (evE F G e))) :
    PS X (.Raise (some (.Call (.Name y p) [ea] [] pos)) none pos') (rdS g x EX (evS F G fu (.rai c e))) := by
  refine (ps_raise hc tk (rz (p := p) (pos := pos) hs he)).of fun D σ H ⟨A0, H0, Hb, Bs, env, o, ⟨A, Os, i0⟩, h⟩ => ?_
  unfold evS at h
  refine i0.use h fun d o1 v H1 e1 i1 r1 h1 => ?_
  obtain ⟨i, hi, h2⟩ := h1.ofb
  have := isInt_some hi; subst this
  have r := r1.1
  unfold Rep at r
  exact ⟨i, r, fun dd H' sm => h2 dd H' (i1.grew.trans (.of_same sm)) (i1.at_.or.same sm)⟩
end O
end

section
set_option Elab.async false
set_option linter.all false
set_option maxRecDepth 100000
/-! OMut: an own list is changed. -/
namespace O
open PySem PySem.Spec PyProof.Rows L2
variable {g : Gx} {W : WX} {ks : Nat → Nat} {σ : L2.St} {H H' H1 H0 Hb : Hp} {Bs : Addr → Prop} {env : Env} {o o' : OS} {A A0 : Addr → Prop} {τ : Ty} {Q : VK} {X : Cx} {pins : List (Addr × Obj)} {s : Shared}
variable {F : Nat → List D → OS → R D} {G : Nat → D} {fu : Nat} {x : Fx} {EX : XK} {Os : Nat → List Addr}
theorem Ext.set {p : Addr} {u : HO} (e : Ext g.q H0 H) (h : H0 p = none) : Ext g.q H0 (upd H p u) := by
  have ne : ∀ {b o}, H0 b = some o → b ≠ p := fun {b o} e z => by subst z; rw [h] at e; cases e
  refine ⟨fun b xs q => by rw [upd_ne (ne q)]; exact e.tup b xs q, fun b o u q => by rw [upd_ne (ne q)]; exact e.frz b o u q, fun b o q n => by rw [upd_ne (ne q)]; exact e.oth b o q n, fun b q => ?_⟩
  cases z : H0 b with
  | none => exact absurd z q
  | some o => rw [upd_ne (ne z)]; exact e.dom b q
mutual
/-- a change at a list of another owner -/
theorem own_upd {p : Addr} {ws us : List V} (e : H p = some (.lst ws)) (ap : A p) : ∀ (d : D) (m : Nat) (v : V) (O : List Addr), Rep g.K g.q A m H v d → OwnR m H v d O → p ∉ O → Rep g.K g.q A m (upd H p (.lst us)) v d ∧ OwnR m (upd H p (.lst us)) v d O
  | .lst ds, m, v, O, r, w, n => by
    have c : Chg g.q (· = p) H (upd H p (.lst us)) := Chg.set rfl e
    cases m with
    | zero =>
      unfold OwnR at w ⊢
      exact ⟨Rep.chg c _ _ _ (fun b z => .inl ⟨rfl, by rw [z]; exact ap⟩) r, w⟩
    | succ m =>
      unfold Rep at r ⊢
      unfold OwnR at w ⊢
      obtain ⟨a, vs, rfl, h1, h2, h3, h4⟩ := r
      obtain ⟨a', us', O', e1, h5, rfl, h6⟩ := w
      cases e1
      rw [h1] at h5; cases h5
      have na : a ≠ p := fun z => n (by simp [z])
      obtain ⟨k1, k2⟩ := ownL_upd e ap ds m vs O' h4 h6 fun z => n (List.mem_cons_of_mem _ z)
      exact ⟨⟨a, vs, rfl, by rw [upd_ne na]; exact h1, h2, h3, k1⟩, a, vs, O', rfl, by rw [upd_ne na]; exact h1, rfl, k2⟩
  | .non, m, v, O, r, w, n | .bl _, m, v, O, r, w, n | .int _, m, v, O, r, w, n | .str _, m, v, O, r, w, n | .tup _, m, v, O, r, w, n | .dct _, m, v, O, r, w, n | .set _, m, v, O, r, w, n | .fn _ _, m, v, O, r, w, n | .src, m, v, O, r, w, n => by
    have c : Chg g.q (· = p) H (upd H p (.lst us)) := Chg.set rfl e
    unfold OwnR at w ⊢
    obtain ⟨rfl, w2⟩ := w
    exact ⟨Rep.chg c _ _ _ (fun b z => .inl ⟨rfl, by rw [z]; exact ap⟩) r, rfl, w2⟩
theorem ownL_upd {p : Addr} {ws us : List V} (e : H p = some (.lst ws)) (ap : A p) : ∀ (ds : List D) (m : Nat) (vs : List V) (O : List Addr), RepL g.K g.q A m H vs ds → OwnL m H vs ds O → p ∉ O → RepL g.K g.q A m (upd H p (.lst us)) vs ds ∧ OwnL m (upd H p (.lst us)) vs ds O
  | [], m, vs, O, r, w, n => by
    unfold RepL at r ⊢
    unfold OwnL at w ⊢
    exact ⟨r, w⟩
  | d :: ds, m, vs, O, r, w, n => by
    unfold RepL at r ⊢
    unfold OwnL at w ⊢
    obtain ⟨v, vr, rfl, r1, r2⟩ := r
    obtain ⟨v', vr', O1, O2, e1, rfl, w1, w2⟩ := w
    cases e1
    obtain ⟨k1, k2⟩ := own_upd e ap d m v O1 r1 w1 fun z => n (List.mem_append_left _ z)
    obtain ⟨k3, k4⟩ := ownL_upd e ap ds m vr O2 r2 w2 fun z => n (List.mem_append_right _ z)
    exact ⟨⟨v, vr, rfl, k1, k3⟩, v, vr, O1, O2, rfl, rfl, k2, k4⟩
end
/-- slot i's list (or one within) changed at p, the slot now holding d', its lists being O -/
theorem SIx.mutate {i : Nat} {p : Addr} {ws us : List V} {v : V} {d' : D} {O : List Addr} (ok : ∀ j, x.ms j ≠ 0 → x.ks j = x.ms j) (s : SIx g x A0 H0 Hb Bs A Os σ H env o) (hm : x.ms i ≠ 0) (hp : p ∈ Os i) (e : H p = some (.lst ws))
    (hs : σ[i]? = some (some v)) (hi : i < env.length) (hO : ∀ b ∈ O, A b ∧ H0 b = none ∧ ¬ ocOf g.q b ∧ Bs b ∧ ∀ j, j ≠ i → b ∉ Os j) (nd : O.Nodup) (r : Rep g.K g.q A (x.ks i) (upd H p (.lst us)) v d') (w : OwnR (x.ms i) (upd H p (.lst us)) v d' O) :
    SIx g x A0 H0 Hb Bs A (fun j => if j = i then O else Os j) σ (upd H p (.lst us)) (env.set i (some d')) o := by
  obtain ⟨ap, h0p, nq⟩ := s.os i p hp
  have c : Chg g.q (· = p) H (upd H p (.lst us)) := Chg.set rfl e
  have hl := s.at_.sl.len
  refine ⟨⟨⟨by rw [List.length_set]; exact hl, fun j d h => ?_⟩, s.at_.or.upd nq, fun b z => c.dom b (s.at_.dom b z)⟩, s.a0, s.aw, fun j hj hk d h => ?_, s.dom0, fun j b hb => ?_, fun j hj d h => ?_, fun j => ?_, fun j l b h1 h2 => ?_, s.grew.set h0p, s.chg.trans (c.mono fun b z => by rw [z]; exact s.osB i p hp), fun j b hb => ?_, s.frB⟩
  · by_cases z : j = i
    · subst z
      rw [List.getElem?_set_self hi] at h
      cases h
      exact ⟨v, hs, r⟩
    · rw [List.getElem?_set_ne (fun q => z q.symm)] at h
      obtain ⟨u, h1, h2⟩ := s.at_.sl.get j d h
      refine ⟨u, h1, ?_⟩
      by_cases mj : x.ms j = 0
      · by_cases kj : x.ks j = 0
        · rw [kj] at h2 ⊢
          exact Rep.chg c _ _ _ (fun b z => .inl ⟨rfl, by rw [z]; exact ap⟩) h2
        · obtain ⟨u', h3, h4⟩ := s.lent j mj kj d h
          rw [h1] at h3; cases h3
          exact (Rep.grow s.aw _ _ _ h4).ext (s.grew.set h0p)
      · obtain ⟨u', h3, h4⟩ := s.own j mj d h
        rw [h1] at h3; cases h3
        rw [ok j mj] at h2 ⊢
        exact (own_upd e ap d _ _ _ h2 h4 fun q => z (s.dis j i p q hp)).1
  · have z : j ≠ i := fun z => by subst z; exact hm hj
    rw [List.getElem?_set_ne (fun q => z q.symm)] at h
    exact s.lent j hj hk d h
  · by_cases z : j = i
    · simp only [z, if_true] at hb; exact ⟨(hO b hb).1, (hO b hb).2.1, (hO b hb).2.2.1⟩
    · simp only [z, if_false] at hb; exact s.os j b hb
  · by_cases z : j = i
    · subst z
      rw [List.getElem?_set_self hi] at h
      cases h
      exact ⟨v, hs, by simp only [if_true]; exact w⟩
    · rw [List.getElem?_set_ne (fun q => z q.symm)] at h
      obtain ⟨u', h3, h4⟩ := s.own j hj d h
      obtain ⟨u, h1, h2⟩ := s.at_.sl.get j d h
      rw [h1] at h3; cases h3
      rw [ok j hj] at h2
      exact ⟨_, h1, by simp only [z, if_false]; exact (own_upd e ap d _ _ _ h2 h4 fun q => z (s.dis j i p q hp)).2⟩
  · by_cases z : j = i
    · simp only [z, if_true]; exact nd
    · simp only [z, if_false]; exact s.nd j
  · by_cases z : j = i <;> by_cases y : l = i
    · rw [z, y]
    · simp only [z, y, if_true, if_false] at h1 h2
      exact absurd h2 ((hO b h1).2.2.2.2 l y)
    · simp only [z, y, if_true, if_false] at h1 h2
      exact absurd h1 ((hO b h2).2.2.2.2 j z)
    · simp only [z, y, if_false] at h1 h2
      exact s.dis j l b h1 h2
  · by_cases z : j = i
    · simp only [z, if_true] at hb; exact (hO b hb).2.2.2.1
    · simp only [z, if_false] at hb; exact s.osB j b hb
theorem SIx.hO {i : Nat} (s : SIx g x A0 H0 Hb Bs A Os σ H env o) {b : Addr} (h : b ∈ Os i) : A b ∧ H0 b = none ∧ ¬ ocOf g.q b ∧ Bs b ∧ ∀ j, j ≠ i → b ∉ Os j :=
  ⟨(s.os i b h).1, (s.os i b h).2.1, (s.os i b h).2.2, s.osB i b h, fun j n z => n (s.dis j i b z h)⟩
theorem SIx.more {A' : Addr → Prop} (s : SIx g x A0 H0 Hb Bs A Os σ H env o) (a : At g A' x.ks σ H' env o') (e : Ext g.q H H') (hA : ∀ b, A b → A' b) (hB : ∀ b, A' b → A b ∨ H b = none) : SIx g x A0 H0 Hb Bs A' Os σ H' env o' := by
  have t := s.ext e a.or
  exact ⟨a, fun b z => hA b (t.a0 b z), fun b z => (hB b z).elim (t.aw b) fun y => .inr (s.grew.free y), t.lent, t.dom0, fun j b hb => ⟨hA b (t.os j b hb).1, (t.os j b hb).2⟩, t.own, t.nd, t.dis, t.grew, t.chg, t.osB, t.frB⟩
/-- what a call of append on a name is -/
theorem pe_app {i : Nat} {y : PySem.Str} {ee : Expr} {te : TE} {py apos cpos : Pos} (hN : X.N[i]? = some y) (hv : Vis X.env.scope y) (hd : (y == ("__debug__" : PySem.Str)) = false) (hcd : (y == ("__classdict__" : PySem.Str)) = false)
    (hline : (apos.endLine == cpos.line) = true) (hs : notStar ee = true) (he : PE X ee te) : PE X (.Call (.Attribute (.Name y py) "append" apos) [ee] [] cpos) (tBM X.K "list" rAppend (tVar i) (tCons te tNil)) := by
  refine pe_bm F.plainAttrs_list F.slot_list_append F.type_list_append mt_append (pe_var hN hv hd hcd) (pa_cons he pa_nil (star_of hs)) rfl ?_ hline (star_of hs) rfl
  rw [star_of hs]
  rfl

/-- name.append(e), the name's list being its own and its items no one's own -/
theorem s_app {i : Nat} {e : E} {y : PySem.Str} {ee : Expr} {t : Ty} {py apos cpos pos : Pos} (ok : ∀ j, x.ms j ≠ 0 → x.ks j = x.ms j) (hm : x.ms i = 1) (hk : t.k = 0) (hN : X.N[i]? = some y) (hv : Vis X.env.scope y) (hd : (y == ("__debug__" : PySem.Str)) = false) (hcd : (y == ("__classdict__" : PySem.Str)) = false)
    (hline : (apos.endLine == cpos.line) = true) (hs : notStar ee = true) (he : PE X ee (rdE g (wx EX) x.ks t (evE F G e))) : PS X (.Expr (.Call (.Attribute (.Name y py) "append" apos) [ee] [] cpos) pos) (rdS g x EX (evS F G fu (.app i e))) := by
  refine (ps_expr (pe_app hN hv hd hcd hline hs he) rfl).of fun D σ H ⟨A0, H0, Hb, Bs, env, o, ⟨A, Os, i0⟩, h⟩ => ?_
  unfold evS at h
  have m1 : x.ms i ≠ 0 := by rw [hm]; decide
  split at h
  case h_2 => exact h.elim
  case h_1 ds hds =>
    obtain ⟨v, hv1, hw⟩ := i0.own i m1 _ (getE_some hds)
    obtain ⟨v', hv2, hr⟩ := i0.at_.sl.get i _ (getE_some hds)
    rw [hv1] at hv2; cases hv2
    rw [hm] at hw
    unfold OwnR at hw
    obtain ⟨p, vs, O', rfl, hp, hO, _⟩ := hw
    have hl := i0.at_.sl.len
    have hi : i < env.length := (List.getElem?_eq_some_iff.mp (getE_some hds)).1
    refine ⟨_, hv1, .inl ⟨rfl, vs, SqL.of hp⟩, i0.use h fun d o1 v H1 e1 i1 r1 h1 => ?_⟩
    split at h1
    case isFalse => exact h1.elim
    case isTrue c =>
      have h2 := h1
      obtain ⟨v3, q1, q2⟩ := i1.own i m1 _ (getE_some hds)
      rw [hv1] at q1; cases q1
      obtain ⟨v4, q3, q4⟩ := i1.at_.sl.get i _ (getE_some hds)
      rw [hv1] at q3; cases q3
      rw [hm] at q2
      unfold OwnR at q2
      obtain ⟨p', vs', O'', e2, hp1, hO1, hq⟩ := q2
      cases e2
      have hpm : p ∈ Os i := by rw [hO1]; exact List.mem_cons_self
      rw [ok i m1, hm] at q4
      unfold Rep at q4
      obtain ⟨a, us, e3, g1, g2, g3, g4⟩ := q4
      cases e3
      rw [hp1] at g1; cases g1
      have r := r1.1
      rw [hk] at r
      have c2 : Chg g.q (· = p) H1 (upd H1 p (.lst (vs' ++ [v]))) := Chg.set rfl hp1
      have ap := (i1.os i p hpm).1
      have len := g4.length
      refine ⟨p, vs', v, rfl, rfl, hp1, by rw [len, lid_eq]; exact c, ?_⟩
      refine h2 σ _ ⟨A, _, i1.mutate ok m1 hpm hp1 hv1 hi (O := [p]) (us := vs' ++ [v]) (fun b hb => by rw [List.mem_singleton.mp hb]; exact i1.hO hpm) (by simp) ?_ ?_⟩
      · rw [ok i m1, hm]
        unfold Rep
        exact ⟨p, _, rfl, upd_same, g2, fun z => absurd z (by decide), RepL.chg' c2 _ _ _ (fun b z => .inl ⟨rfl, by rw [z]; exact ap⟩) (g4.append (.cons r .nil))⟩
      · rw [hm]
        unfold OwnR
        exact ⟨p, _, [], rfl, upd_same, rfl, ownL0 (by simp [len])⟩

/-! ### a list of own lists -/
theorem SIx.two {i : Nat} {ds : List D} (ok : ∀ j, x.ms j ≠ 0 → x.ks j = x.ms j) (s : SIx g x A0 H0 Hb Bs A Os σ H env o) (hm : x.ms i = 2) (hd : getE env i = some (.lst ds)) :
    ∃ p vs O', σ[i]? = some (some (.ref p)) ∧ H p = some (.lst vs) ∧ Os i = p :: O' ∧ ¬ ocOf g.q p ∧ OwnL 1 H vs ds O' ∧ RepL g.K g.q A 1 H vs ds ∧ i < env.length := by
  have m1 : x.ms i ≠ 0 := by rw [hm]; decide
  obtain ⟨v, hv, hw⟩ := s.own i m1 _ (getE_some hd)
  obtain ⟨v', hv', hr⟩ := s.at_.sl.get i _ (getE_some hd)
  rw [hv] at hv'; cases hv'
  rw [hm] at hw
  rw [ok i m1, hm] at hr
  unfold OwnR at hw
  unfold Rep at hr
  obtain ⟨p, vs, O', rfl, h1, h2, h3⟩ := hw
  obtain ⟨p', vs', e, h4, h5, _, h6⟩ := hr
  cases e
  rw [h1] at h4; cases h4
  exact ⟨p, vs, O', hv, h1, h2, h5, h3, h6, (List.getElem?_eq_some_iff.mp (getE_some hd)).1⟩
theorem OwnL.snoc {m : Nat} {v : V} {d : D} {O2 : List Addr} (w : OwnR m H v d O2) : ∀ {ds : List D} {vs : List V} {O : List Addr}, OwnL m H vs ds O → OwnL m H (vs ++ [v]) (ds ++ [d]) (O ++ O2)
  | [], vs, O, h => by
    unfold OwnL at h
    obtain ⟨rfl, rfl⟩ := h
    show OwnL m H [v] [d] O2
    unfold OwnL
    exact ⟨v, [], O2, [], rfl, by simp, w, by unfold OwnL; exact ⟨rfl, rfl⟩⟩
  | e :: ds, vs, O, h => by
    unfold OwnL at h
    obtain ⟨u, r, O1, O3, rfl, rfl, h1, h2⟩ := h
    show OwnL m H (u :: (r ++ [v])) (e :: (ds ++ [d])) _
    unfold OwnL
    exact ⟨u, r ++ [v], O1, O3 ++ O2, rfl, by simp, h1, OwnL.snoc w h2⟩
/-- the last one apart -/
theorem OwnL.last {m : Nat} {d : D} : ∀ {ds : List D} {vs : List V} {O : List Addr}, OwnL m H vs (ds ++ [d]) O → ∃ us v O1 O2, vs = us ++ [v] ∧ O = O1 ++ O2 ∧ OwnL m H us ds O1 ∧ OwnR m H v d O2
  | [], vs, O, h => by
    have h : OwnL m H vs [d] O := h
    unfold OwnL at h
    obtain ⟨u, r, O1, O3, rfl, rfl, h1, h2⟩ := h
    unfold OwnL at h2
    obtain ⟨rfl, rfl⟩ := h2
    exact ⟨[], u, [], O1, rfl, by simp, by unfold OwnL; exact ⟨rfl, rfl⟩, h1⟩
  | e :: ds, vs, O, h => by
    have h : OwnL m H vs (e :: (ds ++ [d])) O := h
    unfold OwnL at h
    obtain ⟨u, r, O1, O3, rfl, rfl, h1, h2⟩ := h
    obtain ⟨us, v, O4, O5, rfl, rfl, h3, h4⟩ := OwnL.last h2
    exact ⟨u :: us, v, O1 ++ O4, O5, rfl, by simp, by unfold OwnL; exact ⟨u, us, O1, O4, rfl, rfl, h1, h3⟩, h4⟩
theorem RepL.last {k : Nat} {d : D} {v : V} : ∀ {ds : List D} {us : List V}, RepL g.K g.q A k H (us ++ [v]) (ds ++ [d]) → RepL g.K g.q A k H us ds ∧ Rep g.K g.q A k H v d
  | [], [], h => by
    have h : RepL g.K g.q A k H [v] [d] := h
    unfold RepL at h
    obtain ⟨u, r, e, h1, h2⟩ := h
    cases e
    exact ⟨.nil, h1⟩
  | [], u :: us, h => by have := h.length; simp at this
  | e :: ds, [], h => by have := h.length; simp at this
  | e :: ds, u :: us, h => by
    have h : RepL g.K g.q A k H (u :: (us ++ [v])) (e :: (ds ++ [d])) := h
    unfold RepL at h
    obtain ⟨u', r, e', h1, h2⟩ := h
    cases e'
    obtain ⟨h3, h4⟩ := RepL.last h2
    exact ⟨.cons h1 h3, h4⟩
theorem s_appN {i : Nat} {y : PySem.Str} {py apos cpos lp pos : Pos} (ok : ∀ j, x.ms j ≠ 0 → x.ks j = x.ms j) (hm : x.ms i = 2) (hN : X.N[i]? = some y) (hv : Vis X.env.scope y) (hd : (y == ("__debug__" : PySem.Str)) = false) (hcd : (y == ("__classdict__" : PySem.Str)) = false)
    (hline : (apos.endLine == cpos.line) = true) : PS X (.Expr (.Call (.Attribute (.Name y py) "append" apos) [.List [] lp] [] cpos) pos) (rdS g x EX (evS F G fu (.appN i))) := by
  refine (ps_expr (pe_app hN hv hd hcd hline rfl (pe_lst pa_nil)) rfl).of fun D σ H ⟨A0, H0, Hb, Bs, env, o, ⟨A, Os, i0⟩, h⟩ => ?_
  unfold evS at h
  have m1 : x.ms i ≠ 0 := by rw [hm]; decide
  split at h
  case h_2 => exact h.elim
  case h_1 ds hds =>
    obtain ⟨p, vs, O', hs, hp, hO, nq, hw, hr, hi⟩ := i0.two ok hm hds
    split at h
    case isFalse => exact h.elim
    case isTrue c =>
      refine ⟨_, hs, .inl ⟨rfl, vs, SqL.of hp⟩, by show 0 ≤ sizeLine; exact Nat.zero_le _, fun r hr0 => ?_⟩
      have e1 : Ext g.q H (upd H r (.lst [])) := .new hr0
      have nr := free_not i0.at_.dom i0.at_.or hr0
      have pr : p ≠ r := fun z => by subst z; rw [hp] at hr0; cases hr0
      have hp1 : upd H r (.lst []) p = some (.lst vs) := by rw [upd_ne pr]; exact hp
      have a1 : At g (fun b => A b ∨ b = r) x.ks σ (upd H r (.lst [])) env o := i0.at_.grow (M := fun _ => False) (fun b z => z.imp_right fun y => by rw [y]; exact hr0) e1.chg (fun _ z => z.elim) (fun b z => z.elim (fun y => e1.dom b (i0.at_.dom b y)) fun y => by rw [y, upd_same]; simp) (i0.at_.or.new hr0)
      have i1 := i0.more a1 e1 (fun b => .inl) (fun b z => z.imp_right fun y => by rw [y]; exact hr0)
      have len := hr.length
      have hpm : p ∈ Os i := by rw [hO]; exact List.mem_cons_self
      have hnd := i0.nd i
      rw [hO, List.nodup_cons] at hnd
      have hrO : ∀ j, r ∉ Os j := fun j z => i0.at_.dom r (i0.os j r z).1 hr0
      have w1 : OwnL 1 (upd H r (.lst [])) vs ds O' := OwnL.ext e1 _ _ _ _ (fun b hb => (i0.os i b (by rw [hO]; exact List.mem_cons_of_mem _ hb)).2.2) hw
      have r1 : RepL g.K g.q (fun b => A b ∨ b = r) 1 (upd H r (.lst [])) vs ds := (RepL.grow (fun b z => z.imp_right fun y => by rw [y]; exact hr0) hr).ext e1
      obtain ⟨r2, w2⟩ := ownL_upd (us := vs ++ [V.ref r]) hp1 (.inl (i0.os i p hpm).1) _ _ _ _ r1 w1 hnd.1
      have hr2 : upd (upd H r (.lst [])) p (.lst (vs ++ [V.ref r])) r = some (.lst []) := by rw [upd_ne pr.symm, upd_same]
      refine ⟨p, vs, .ref r, rfl, rfl, hp1, by rw [len, lid_eq]; exact c, h σ _ ⟨_, _, i1.mutate ok m1 hpm hp1 hs hi (O := p :: (O' ++ [r])) (fun b hb => ?_) ?_ ?_ ?_⟩⟩
      · rcases List.mem_cons.mp hb with rfl | hb
        · exact i1.hO hpm
        · rcases List.mem_append.mp hb with hb | hb
          · exact i1.hO (by rw [hO]; exact List.mem_cons_of_mem _ hb)
          · rw [List.mem_singleton.mp hb]
            exact ⟨.inr rfl, i0.grew.free hr0, nr.2, i0.fresh hr0, fun j _ => hrO j⟩
      · rw [List.nodup_cons, List.nodup_append]
        refine ⟨fun z => ?_, hnd.2, by simp, fun a ha b hb e => ?_⟩
        · rcases List.mem_append.mp z with z | z
          · exact hnd.1 z
          · exact pr (List.mem_singleton.mp z)
        · rw [List.mem_singleton.mp hb] at e
          exact hrO i (by rw [hO, ← e]; exact List.mem_cons_of_mem _ ha)
      · rw [ok i m1, hm]
        unfold Rep
        refine ⟨p, _, rfl, upd_same, nq, fun z => absurd z (by decide), r2.append (.cons ?_ .nil)⟩
        unfold Rep
        exact ⟨r, [], rfl, hr2, nr.2, fun z => absurd z (by decide), .nil⟩
      · rw [hm]
        unfold OwnR
        refine ⟨p, _, _, rfl, upd_same, rfl, w2.snoc ?_⟩
        unfold OwnR
        exact ⟨r, [], [], rfl, hr2, rfl, by unfold OwnL; exact ⟨rfl, rfl⟩⟩

theorem at_last {us : List V} {v : V} : L2.atI (us ++ [v]) (-1) = some v := by
  rw [at_eq]
  unfold at?
  rw [if_neg (by decide), if_pos (by simp; omega)]
  have e : (((us ++ [v]).length : Int) + -1).toNat = us.length := by simp; omega
  rw [e, List.getElem?_append_right (Nat.le_refl _), Nat.sub_self]
  rfl
theorem getLast_snoc {ds : List D} {d : D} (h : ds.getLast? = some d) : ds = ds.dropLast ++ [d] := by
  obtain ⟨ys, rfl⟩ := List.getLast?_eq_some_iff.mp h
  rw [List.dropLast_concat]
theorem ownL_nil : ∀ {ds : List D} {vs : List V} {O : List Addr}, OwnL 0 H vs ds O → O = []
  | [], vs, O, h => by unfold OwnL at h; exact h.2
  | d :: ds, vs, O, h => by
    unfold OwnL at h
    obtain ⟨v, r, O1, O2, rfl, rfl, h1, h2⟩ := h
    have e1 : O1 = [] := by cases d <;> unfold OwnR at h1 <;> first | exact h1 | exact h1.2
    rw [e1, ownL_nil h2]; rfl
/-- where the last list of a list of own lists lies -/
theorem SIx.last {i : Nat} {ds : List D} {xs : List D} (ok : ∀ j, x.ms j ≠ 0 → x.ks j = x.ms j) (i1 : SIx g x A0 H0 Hb Bs A Os σ H env o) (hm : x.ms i = 2) (hds : getE env i = some (.lst ds)) (hxs : ds.getLast? = some (.lst xs)) :
    ∃ p us r O1, σ[i]? = some (some (.ref p)) ∧ H p = some (.lst (us ++ [.ref r])) ∧ Os i = p :: (O1 ++ [r]) ∧ ¬ ocOf g.q p ∧ OwnL 1 H us ds.dropLast O1 ∧ RepL g.K g.q A 1 H us ds.dropLast ∧ i < env.length ∧
      ∃ ws, H r = some (.lst ws) ∧ ¬ ocOf g.q r ∧ RepL g.K g.q A 0 H ws xs := by
  have eds := getLast_snoc hxs
  obtain ⟨p, vs, O', hs, hp, hO, nq, hw, hr, hi⟩ := i1.two ok hm hds
  rw [eds] at hw hr
  obtain ⟨us, v, O1, O2, rfl, rfl, w1, w2⟩ := hw.last
  obtain ⟨r1, r2⟩ := hr.last
  unfold OwnR at w2
  obtain ⟨r, ws, O3, rfl, h1, rfl, h2⟩ := w2
  unfold Rep at r2
  obtain ⟨r', ws', e', h3, h4, _, h5⟩ := r2
  cases e'
  rw [h1] at h3; cases h3
  have z := ownL_nil h2
  subst z
  exact ⟨p, us, r, O1, hs, hp, hO, nq, w1, r1, hi, ws, h1, h4, h5⟩
/-- name[-1].append(e), the lists being the name's own -/
theorem s_appL {i kc : Nat} {e : E} {y : PySem.Str} {ee : Expr} {t : Ty} {py sp p1 p2 apos cpos pos : Pos} (ok : ∀ j, x.ms j ≠ 0 → x.ks j = x.ms j) (hm : x.ms i = 2) (hk : t.k = 0) (hN : X.N[i]? = some y) (hv : Vis X.env.scope y) (hd : (y == ("__debug__" : PySem.Str)) = false) (hcd : (y == ("__classdict__" : PySem.Str)) = false)
    (hline : (apos.endLine == cpos.line) = true) (hs : notStar ee = true) (he : PE X ee (rdE g (wx EX) x.ks t (evE F G e))) :
    PS X (.Expr (.Call (.Attribute (.Subscript (.Name y py) (.UnaryOp .USub (.Constant (.int 1) kc p1) p2) sp) "append" apos) [ee] [] cpos) pos) (rdS g x EX (evS F G fu (.appL i e))) := by
  have recv : PE X (.Subscript (.Name y py) (.UnaryOp .USub (.Constant (.int 1) kc p1) p2) sp) (tOp (rIxL X.K) (tVar i) (tUn (fun x H Q => ∃ i, x = V.int i ∧ Q (.int (-i)) H) (tC (.int 1)))) :=
    pe_ix ix_list (pe_var hN hv hd hcd) (pe_un un_neg pe_int) (plainIx_of rfl)
  refine (ps_expr (pe_bm PySem.F.plainAttrs_list PySem.F.slot_list_append PySem.F.type_list_append mt_append recv (pa_cons he pa_nil (star_of hs)) rfl (by rw [star_of hs]; rfl) hline (star_of hs) rfl) rfl).of fun D σ H ⟨A0, H0, Hb, Bs, env, o, ⟨A, Os, i0⟩, h⟩ => ?_
  unfold evS at h
  have m1 : x.ms i ≠ 0 := by rw [hm]; decide
  split at h
  case h_2 => exact h.elim
  case h_1 ds hds =>
    split at h
    case h_2 => exact h.elim
    case h_1 xs hxs =>
      obtain ⟨p, us, r, O1, hs1, hp, hO, nq, hw, hr, hi, ws, hrr, nqr, hws⟩ := i0.last ok hm hds hxs
      refine ⟨_, hs1, ⟨1, rfl, p, _, -1, _, rfl, rfl, SqL.of hp, at_last, .inl ⟨rfl, ws, SqL.of hrr⟩, i0.use h fun d o1 v H1 e1 i1 rr h1 => ?_⟩⟩
      split at h1
      case isFalse => exact h1.elim
      case isTrue c =>
        obtain ⟨p', us', r', O1', hs', hp1, hO', _, hw1, hr1, _, ws1, hrr1, _, hws1⟩ := i1.last ok hm hds hxs
        rw [hs1] at hs'; cases hs'
        have hp2 := e1.oth _ _ hp nq
        rw [hp1] at hp2
        obtain ⟨eu, er⟩ : us' = us ∧ r' = r := by
          have z : us' ++ [V.ref r'] = us ++ [V.ref r] := by injection hp2 with z; injection z
          obtain ⟨z1, z2⟩ := List.append_inj' z rfl
          exact ⟨z1, by injection z2 with z2; injection z2⟩
        subst eu er
        have rk := rr.1
        rw [hk] at rk
        have len := hws1.length
        have hrm : r' ∈ Os i := by rw [hO]; simp
        have hpm : p ∈ Os i := by rw [hO]; simp
        have hnd := i1.nd i
        rw [hO', List.nodup_cons, List.nodup_append] at hnd
        have pr : p ≠ r' := fun z => hnd.1 (by simp [z])
        have ar := (i1.os i r' hrm).1
        refine ⟨r', ws1, v, rfl, rfl, hrr1, by rw [len, lid_eq]; exact c, h1 σ _ ⟨A, _, i1.mutate ok m1 hrm hrr1 hs1 hi (O := p :: (O1' ++ [r'])) (us := ws1 ++ [v]) (fun b hb => i1.hO (by rw [hO']; exact hb)) (by rw [← hO']; exact i1.nd i) ?_ ?_⟩⟩
        all_goals
          have c2 : Chg g.q (· = r') H1 (upd H1 r' (.lst (ws1 ++ [v]))) := Chg.set rfl hrr1
          obtain ⟨k1, k2⟩ := ownL_upd (us := ws1 ++ [v]) hrr1 ar _ _ _ _ hr1 hw1 fun z => hnd.2.2.2 r' z r' (by simp) rfl
        · rw [ok i m1, hm]
          unfold Rep
          refine ⟨p, _, rfl, by rw [upd_ne pr]; exact hp1, nq, fun z => absurd z (by decide), k1.append (.cons ?_ .nil)⟩
          unfold Rep
          exact ⟨r', _, rfl, upd_same, nqr, fun z => absurd z (by decide), RepL.chg' c2 _ _ _ (fun b z => .inl ⟨rfl, by rw [z]; exact ar⟩) (hws1.append (.cons rk .nil))⟩
        · rw [hm]
          unfold OwnR
          refine ⟨p, _, _, rfl, by rw [upd_ne pr]; exact hp1, rfl, k2.snoc ?_⟩
          unfold OwnR
          exact ⟨r', _, [], rfl, upd_same, rfl, ownL0 (by simp [len])⟩

theorem set3 {a b i : Nat} {α : Type} {l : List α} : True := trivial
/-- w, y = tuple(name.pop()), e -/
theorem s_popT {i a b : Nat} {e : E} {z w y : PySem.Str} {ee : Expr} {t : Ty} {pz pw py pt ap cp tp tpos : Pos} {kt k2 pt2} {pos : Pos} (ok : ∀ j, x.ms j ≠ 0 → x.ks j = x.ms j) (hc : X.calm = true) (hN : X.N.Nodup) (hm : x.ms i = 2) (hk : t.k = 0) (ha : X.N[a]? = some w) (hb : X.N[b]? = some y) (hab : a ≠ b)
    (fa : x.ms a = 0 ∧ x.ks a = 0) (fb : x.ms b = 0 ∧ x.ks b = 0)
    (hw : X.env.scope.names.lookup w = some .local) (hy : X.env.scope.names.lookup y = some .local) (hi : X.N[i]? = some z) (hv : Vis X.env.scope z) (hd : (z == ("__debug__" : PySem.Str)) = false) (hcd : (z == ("__classdict__" : PySem.Str)) = false)
    (hline : (ap.endLine == cp.line) = true) (hgt : Gl X "tuple") (hmt : X.mg "tuple" = none) (hs : notStar ee = true) (he : PE X ee (rdE g (wx EX) x.ks t (evE F G e)))
    (hsw : swappedStores [.Tuple [.Name w pw, .Name y py] kt pt] (.Tuple [.Call (.Name "tuple" tp) [.Call (.Attribute (.Name z pz) "pop" ap) [] [] cp] [] tpos, ee] k2 pt2) X.env = Pure.pure (some [w, y])) :
    PS X (.Assign [.Tuple [.Name w pw, .Name y py] kt pt] (.Tuple [.Call (.Name "tuple" tp) [.Call (.Attribute (.Name z pz) "pop" ap) [] [] cp] [] tpos, ee] k2 pt2) pos) (rdS g x EX (evS F G fu (.popT i a b e))) := by
  have p1 := pe_bm0 (X := X) (apos := ap) (cpos := cp) PySem.F.plainAttrs_list PySem.F.slot_list_pop PySem.F.type_list_pop mt_pop (pe_var (pos := pz) hi hv hd hcd) rfl hline
  have p2 := pe_callTy (p := tp) (pos := tpos) call_tuple_of hgt hmt boot_tuple (pa_cons p1 pa_nil (star_of rfl)) (by decide) (by decide) (star_of rfl) rfl
  refine (ps_par hc hN ha hb hab hw hy (pa_cons p2 (pa_cons he pa_nil (star_of hs)) (star_of rfl)) hsw).of fun D σ H ⟨A0, H0, Hb, Bs, env, o, ⟨A, Os, i0⟩, h⟩ => ?_
  unfold evS at h
  have m1 : x.ms i ≠ 0 := by rw [hm]; decide
  split at h
  case h_2 => exact h.elim
  case h_1 ds hds =>
    split at h
    case h_2 => exact h.elim
    case h_1 xs hxs =>
      obtain ⟨p, us, r, O1, hs1, hp, hO, nq, hwl, hr, hi', ws, hrr, nqr, hws⟩ := i0.last ok hm hds hxs
      have hpm : p ∈ Os i := by rw [hO]; simp
      have hnd := i0.nd i
      rw [hO, List.nodup_cons, List.nodup_append] at hnd
      have pr : p ≠ r := fun z => hnd.1 (by simp [z])
      obtain ⟨k1, k2⟩ := ownL_upd (us := us) hp (i0.os i p hpm).1 _ _ _ _ hr hwl fun z => hnd.1 (List.mem_append_left _ z)
      have i1 := i0.mutate ok m1 hpm hp hs1 hi' (d' := .lst ds.dropLast) (O := p :: O1) (us := us) (fun b hb => i0.hO (by
        rw [hO]
        rcases List.mem_cons.mp hb with rfl | hb
        · simp
        · simp [hb])) (by rw [List.nodup_cons]; exact ⟨fun z => hnd.1 (List.mem_append_left _ z), hnd.2.1⟩) (by
          rw [ok i m1, hm]
          unfold Rep
          exact ⟨p, us, rfl, upd_same, nq, fun z => absurd z (by decide), k1⟩) (by
          rw [hm]
          unfold OwnR
          exact ⟨p, us, O1, rfl, upd_same, rfl, k2⟩)
      have hr1 : upd H p (.lst us) r = some (.lst ws) := by rw [upd_ne pr.symm]; exact hrr
      have hws1 : RepL g.K g.q A 0 (upd H p (.lst us)) ws xs := RepL.chg' (Chg.set (M := (· = p)) rfl hp) _ _ _ (fun b z => .inl ⟨rfl, by rw [z]; exact (i0.os i p hpm).1⟩) hws
      refine ⟨_, hs1, .inl ⟨rfl, _, SqL.of hp⟩, p, _, V.ref r, rfl, rfl, hp, ?_, ?_⟩
      · rw [List.length_append, List.getElem?_append_right (by simp)]
        simp only [List.length_singleton, Nat.add_sub_cancel, Nat.sub_self]
        rfl
      · rw [List.dropLast_concat]
        refine ⟨r, ws, rfl, .inl ⟨SqL.of hr1, fun T hT => ?_⟩⟩
        have e2 : Ext g.q (upd H p (.lst us)) (upd (upd H p (.lst us)) T (.tup ws)) := .new hT
        have i2 := i1.ext e2 (i1.at_.or.new hT)
        have rT : Rep g.K g.q A 0 (upd (upd H p (.lst us)) T (.tup ws)) (.ref T) (.tup xs) := rep_tup hT hws1
        refine i2.use h fun d o1 v H1 e3 i3 rr h1 => ?_
        have rk := rr.1
        rw [hk] at rk
        have s1 := i3.stored (i3.at_.set (i := a) (v := .ref T) (d := .tup xs) (by rw [fa.2]; exact rT.ext e3)) (.set (i := a)) fun j hj => by rw [List.mem_singleton.mp hj]; exact fa
        have s2 := s1.stored (s1.at_.set (i := b) (v := v) (d := d) (by rw [fb.2]; exact rk)) (.set (i := b)) fun j hj => by rw [List.mem_singleton.mp hj]; exact fb
        exact ⟨_, _, rfl, h1 _ H1 ⟨_, _, s2⟩⟩
end O
end

section
set_option Elab.async false
set_option linter.all false
set_option maxRecDepth 100000
namespace O
open PySem PySem.Spec PyProof.Rows L2
variable {g : Gx} {W : WX} {ks : Nat → Nat} {σ : L2.St} {H H' H1 H0 Hb : Hp} {Bs : Addr → Prop} {env : Env} {o o' : OS} {A A0 : Addr → Prop} {τ : Ty} {Q : VK} {X : Cx} {pins : List (Addr × Obj)} {s : Shared}
variable {F : Nat → List D → OS → R D} {G : Nat → D} {fu : Nat} {x : Fx} {EX : XK} {Os : Nat → List Addr}
/-- try: t = e; except C: h -/
theorem s_try {t : Tg} {e : E} {c : Nat} {h : Sts} {tg ee : Expr} {ty : Ty} {cn : PySem.Str} {cv : Value} {b₀ : Stmt} {suite : List Stmt} {np pos pos' apos : Pos} (hk : ty.k = 0) (hv : ∀ j ∈ tgN t, x.ms j = 0 ∧ x.ks j = 0) (hst : notStar tg = true)
    (hs : X.stack = X.env :: X.outer) (hf : X.env.frame = some X.env.locals) (hc : Names X cn cv) (hx : PySem.W.exmOne X.K (g.ct c) cv = some true) (tk : Takes X (wx EX))
    (hsw : swapsWithSole [tg] ee apos.line X.env = Pure.pure false) (hss : swappedStores [tg] ee X.env = Pure.pure none)
    (hE : ∀ (W : WX) (pn : List (Addr × Obj)) (xe : Value → Shared → Prop), Takes (X.tr pn xe) W → PE (X.tr pn xe) ee (rdE g W x.ks ty (evE F G e)))
    (hG : ∀ (pn : List (Addr × Obj)) (xe : Value → Shared → Prop), PG (X.tr pn xe) tg (gRd g x.ks t))
    (hS : ∀ (a : Addr) (pn : List (Addr × Obj)), PSs (X.suite a pn) (b₀ :: suite) (rdS g x EX (evSs F G fu h))) :
    PS X (.Try [.Assign [tg] ee apos] [.ExceptHandler (some (.Name cn np)) none (b₀ :: suite) pos'] [] [] pos) (rdS g x EX (evS F G fu (.tryR t e c h))) := by
  refine (ps_try_only (tb := fun W => tAsg (rdE g W x.ks ty (evE F G e)) (gRd g x.ks t)) (ts := fun _ _ _ => rdS g x EX (evSs F G fu h)) (Wout := wx EX) hs hf hc tk (fun W pn xe tk' _ => pss_one (ps_asg (X := X.tr pn xe) (hE W pn xe tk') (hG pn xe) hsw hss ?_)) fun a oe cls d pn _ _ => hS a _).of fun D σ H ⟨A0, H0, Hb, Bs, env, o, ⟨A, Os, i0⟩, z⟩ => ?_
  · cases tg <;> first | rfl | (simp [notStar] at hst)
  · unfold evS at z
    refine ⟨env, o, A, i0.at_, ?_⟩
    cases q : evE F G e env o with
    | ok d o1 =>
      rw [q] at z
      obtain ⟨env1, he1, h2⟩ := z.ofb
      intro v H1 e1 or1 r1
      have i1 := i0.ext e1 or1
      have r := r1.1
      rw [hk] at r
      exact ⟨env, o1, A, d, env1, i1.at_, r, he1, fun σ' a' k' => h2 σ' H1 ⟨A, Os, i1.stored a' k' hv⟩⟩
    | ex c' o1 =>
      rw [q] at z
      simp only at z
      split at z
      · rename_i ec
        subst ec
        exact fun dd H1 e1 or1 => ⟨true, hx, fun _ a _ => ⟨A0, H0, Hb, Bs, env, o1, ⟨A, Os, i0.ext e1 or1⟩, z⟩, fun n => nomatch n⟩
      · exact z.elim
    | bad => rw [q] at z; exact z.elim
/-- a constant in an except suite -/
theorem s_retC {e : E} {ee : Expr} {t : Ty} {pos : Pos} (hk : t.k ≤ x.rt.k) (hf : x.rt.fr = 0) (he : PE X ee (rdE g (wx EX) x.ks t (evE F G e))) : PS X (.Return (some ee) pos) (rdS g x EX (evS F G fu (.ret e))) := s_ret hk (.inl hf) he
end O
end

section
set_option Elab.async false
set_option linter.all false
set_option maxRecDepth 100000
/-! OCk: is this text that program? And who may change what? -/
namespace O
open PySem PySem.Spec PyProof.Rows L2
variable {g : Gx} {W : WX} {ks : Nat → Nat} {σ : L2.St} {H H' : Hp} {env : Env} {o o' : OS} {A : Addr → Prop} {τ : Ty} {Q : VK} {X : Cx} {pins : List (Addr × Obj)} {s : Shared}
variable {F : Nat → List D → OS → R D} {G : Nat → D}
/-! ### what is seen of a text -/
def vwName : Expr → Option PySem.Str
  | .Name x _ => some x
  | _ => none
theorem vwName_ok {e : Expr} {x : PySem.Str} (h : vwName e = some x) : ∃ p, e = .Name x p := by
  cases e <;> first | (simp [vwName] at h; done) | (simp only [vwName, Option.some.injEq] at h; subst h; exact ⟨_, rfl⟩)
def vwBin : Expr → Option (Expr × Operator × Expr)
  | .BinOp a o b _ => some (a, o, b)
  | _ => none
theorem vwBin_ok {e : Expr} {v : Expr × Operator × Expr} (h : vwBin e = some v) : ∃ p, e = .BinOp v.1 v.2.1 v.2.2 p := by
  cases e <;> first | (simp [vwBin] at h; done) | (simp only [vwBin, Option.some.injEq] at h; subst h; exact ⟨_, rfl⟩)
def vwCmp : Expr → Option (Expr × CmpOp × Expr)
  | .Compare a [o] [b] _ => some (a, o, b)
  | _ => none
theorem vwCmp_ok {e : Expr} {v : Expr × CmpOp × Expr} (h : vwCmp e = some v) : ∃ p, e = .Compare v.1 [v.2.1] [v.2.2] p := by
  unfold vwCmp at h
  split at h <;> first | (cases h; exact ⟨_, rfl⟩) | cases h
def vwChn : Expr → Option (Expr × CmpOp × CmpOp × Expr × Expr)
  | .Compare a [o, o'] [b, c] _ => some (a, o, o', b, c)
  | _ => none
theorem vwChn_ok {e : Expr} {v : Expr × CmpOp × CmpOp × Expr × Expr} (h : vwChn e = some v) : ∃ p, e = .Compare v.1 [v.2.1, v.2.2.1] [v.2.2.2.1, v.2.2.2.2] p := by
  unfold vwChn at h
  split at h <;> first | (cases h; exact ⟨_, rfl⟩) | cases h
/-- a and rest: what stands first, the rest -/
def vwBoo (op : BoolOp) : Expr → Option (Expr × Expr)
  | .BoolOp o [a, b] p => if o = op then some (a, .BoolOp o [b] p) else none
  | .BoolOp o (a :: b :: c :: r) p => if o = op then some (a, .BoolOp o (b :: c :: r) p) else none
  | _ => none
theorem vwBoo_ok {op : BoolOp} {e : Expr} {v : Expr × Expr} (h : vwBoo op e = some v) : ∃ b r p, e = .BoolOp op (v.1 :: b :: r) p ∧ v.2 = .BoolOp op (b :: r) p := by
  unfold vwBoo at h
  split at h
  · split at h
    · rename_i z; subst z; cases h; exact ⟨_, _, _, rfl, rfl⟩
    · cases h
  · split at h
    · rename_i z; subst z; cases h; exact ⟨_, _, _, rfl, rfl⟩
    · cases h
  · cases h
/-- a lone one within and / or -/
def vwOne : Expr → Option (BoolOp × Expr)
  | .BoolOp o [a] _ => some (o, a)
  | _ => none
theorem vwOne_ok {e : Expr} {v : BoolOp × Expr} (h : vwOne e = some v) : ∃ p, e = .BoolOp v.1 [v.2] p := by
  unfold vwOne at h
  split at h <;> first | (cases h; exact ⟨_, rfl⟩) | cases h
def vwUn : Expr → Option (UnaryOp × Expr)
  | .UnaryOp o a _ => some (o, a)
  | _ => none
theorem vwUn_ok {e : Expr} {v : UnaryOp × Expr} (h : vwUn e = some v) : ∃ p, e = .UnaryOp v.1 v.2 p := by
  cases e <;> first | (simp [vwUn] at h; done) | (simp only [vwUn, Option.some.injEq] at h; subst h; exact ⟨_, rfl⟩)
def vwIte : Expr → Option (Expr × Expr × Expr)
  | .IfExp c a b _ => some (c, a, b)
  | _ => none
theorem vwIte_ok {e : Expr} {v : Expr × Expr × Expr} (h : vwIte e = some v) : ∃ p, e = .IfExp v.1 v.2.1 v.2.2 p := by
  cases e <;> first | (simp [vwIte] at h; done) | (simp only [vwIte, Option.some.injEq] at h; subst h; exact ⟨_, rfl⟩)
def vwTup : Expr → Option (List Expr)
  | .Tuple es _ _ => some es
  | _ => none
theorem vwTup_ok {e : Expr} {v : List Expr} (h : vwTup e = some v) : ∃ k p, e = .Tuple v k p := by
  cases e <;> first | (simp [vwTup] at h; done) | (simp only [vwTup, Option.some.injEq] at h; subst h; exact ⟨_, _, rfl⟩)
def vwLst : Expr → Option (List Expr)
  | .List es _ => some es
  | _ => none
theorem vwLst_ok {e : Expr} {v : List Expr} (h : vwLst e = some v) : ∃ p, e = .List v p := by
  cases e <;> first | (simp [vwLst] at h; done) | (simp only [vwLst, Option.some.injEq] at h; subst h; exact ⟨_, rfl⟩)
def vwSub : Expr → Option (Expr × Expr)
  | .Subscript a b _ => some (a, b)
  | _ => none
theorem vwSub_ok {e : Expr} {v : Expr × Expr} (h : vwSub e = some v) : ∃ p, e = .Subscript v.1 v.2 p := by
  cases e <;> first | (simp [vwSub] at h; done) | (simp only [vwSub, Option.some.injEq] at h; subst h; exact ⟨_, rfl⟩)
def vwSl : Expr → Option (Expr × Expr)
  | .Slice (some a) (some b) none _ => some (a, b)
  | _ => none
theorem vwSl_ok {e : Expr} {v : Expr × Expr} (h : vwSl e = some v) : ∃ p, e = .Slice (some v.1) (some v.2) none p := by
  unfold vwSl at h
  split at h <;> first | (cases h; exact ⟨_, rfl⟩) | cases h
def vwSlo : Expr → Option Expr
  | .Slice (some a) none none _ => some a
  | _ => none
theorem vwSlo_ok {e : Expr} {v : Expr} (h : vwSlo e = some v) : ∃ p, e = .Slice (some v) none none p := by
  unfold vwSlo at h
  split at h <;> first | (cases h; exact ⟨_, rfl⟩) | cases h
def vwShi : Expr → Option Expr
  | .Slice none (some a) none _ => some a
  | _ => none
theorem vwShi_ok {e : Expr} {v : Expr} (h : vwShi e = some v) : ∃ p, e = .Slice none (some v) none p := by
  unfold vwShi at h
  split at h <;> first | (cases h; exact ⟨_, rfl⟩) | cases h
def vwM1 : Expr → Bool
  | .UnaryOp .USub (.Constant (.int 1) _ _) _ => true
  | _ => false
theorem vwM1_ok {e : Expr} (h : vwM1 e = true) : ∃ k p p', e = .UnaryOp .USub (.Constant (.int 1) k p) p' := by
  unfold vwM1 at h
  split at h <;> first | exact ⟨_, _, _, rfl⟩ | cases h
def vwRev : Expr → Bool
  | .Slice none none (some e) _ => vwM1 e
  | _ => false
theorem vwRev_ok {e : Expr} (h : vwRev e = true) : ∃ k p p' p'', e = .Slice none none (some (.UnaryOp .USub (.Constant (.int 1) k p) p')) p'' := by
  unfold vwRev at h
  split at h
  · obtain ⟨k, p, p', rfl⟩ := vwM1_ok h
    exact ⟨k, p, p', _, rfl⟩
  · cases h
/-- f(..), f a name, no keywords -/
def vwCall : Expr → Option (PySem.Str × List Expr)
  | .Call (.Name x _) es [] _ => some (x, es)
  | _ => none
theorem vwCall_ok {e : Expr} {v : PySem.Str × List Expr} (h : vwCall e = some v) : ∃ p p', e = .Call (.Name v.1 p) v.2 [] p' := by
  unfold vwCall at h
  split at h <;> first | (cases h; exact ⟨_, _, rfl⟩) | cases h
/-- 'text'.join(e) -/
def vwJoin : Expr → Option (PySem.Str × Expr)
  | .Call (.Attribute (.Constant (.str x) _ _) m ap) [e] [] cp => if m = "join" ∧ (ap.endLine == cp.line) = true then some (x, e) else none
  | _ => none
theorem vwJoin_ok {e : Expr} {v : PySem.Str × Expr} (h : vwJoin e = some v) : ∃ j p ap cp, e = .Call (.Attribute (.Constant (.str v.1) j p) "join" ap) [v.2] [] cp ∧ (ap.endLine == cp.line) = true := by
  unfold vwJoin at h
  split at h
  · split at h
    · rename_i z; cases h; obtain ⟨rfl, z⟩ := z; exact ⟨_, _, _, _, rfl, z⟩
    · cases h
  · cases h
def vwStar : Expr → Option Expr
  | .Starred a _ => some a
  | _ => none
theorem vwStar_ok {e : Expr} {v : Expr} (h : vwStar e = some v) : ∃ p, e = .Starred v p := by
  cases e <;> first | (simp [vwStar] at h; done) | (simp only [vwStar, Option.some.injEq] at h; subst h; exact ⟨_, rfl⟩)
/-- [e for t in i if ..] -/
def vwLc : Expr → Option (Expr × Expr × Expr × List Expr × Scope)
  | .ListComp e [⟨t, i, cs, 0⟩] sc _ => some (e, t, i, cs, sc)
  | _ => none
theorem vwLc_ok {e : Expr} {v : Expr × Expr × Expr × List Expr × Scope} (h : vwLc e = some v) : ∃ p, e = .ListComp v.1 [⟨v.2.1, v.2.2.1, v.2.2.2.1, 0⟩] v.2.2.2.2 p := by
  unfold vwLc at h
  split at h <;> first | (cases h; exact ⟨_, rfl⟩) | cases h
/-- {e for t in i if ..} -/
def vwSc : Expr → Option (Expr × Expr × Expr × List Expr × Scope)
  | .SetComp e [⟨t, i, cs, 0⟩] sc _ => some (e, t, i, cs, sc)
  | _ => none
theorem vwSc_ok {e : Expr} {v : Expr × Expr × Expr × List Expr × Scope} (h : vwSc e = some v) : ∃ p, e = .SetComp v.1 [⟨v.2.1, v.2.2.1, v.2.2.2.1, 0⟩] v.2.2.2.2 p := by
  unfold vwSc at h
  split at h <;> first | (cases h; exact ⟨_, rfl⟩) | cases h
/-- a constant -/
def conOk : D → Expr → Bool
  | .non, .Constant .none _ _ => true
  | .bl b, .Constant (.bool c) _ _ => b == c
  | .int i, .Constant (.int j) _ _ => i == j
  | .str s, .Constant (.str x) _ _ => (x == strV s) && s.all (fun c => decide (c < 0x110000)) && decide (s.length ≤ lid)
  | _, _ => false
theorem conOk_ok {d : D} {e : Expr} (h : conOk d e = true) : PE X e (rdE g W ks ⟨0, 0⟩ (evE F G (.con d))) := by
  unfold conOk at h
  split at h
  · exact c_con pe_non fun A H => by unfold Rep; rfl
  · rw [beq_iff_eq] at h; subst h; exact c_con pe_bl fun A H => rep_bl
  · rw [beq_iff_eq] at h; subst h; exact c_con pe_int fun A H => rep_int
  · simp only [Bool.and_eq_true, beq_iff_eq, List.all_eq_true, decide_eq_true_eq] at h
    obtain ⟨⟨rfl, h2⟩, h3⟩ := h
    exact c_con pe_str fun A H => rep_str ⟨h2, h3⟩
  · cases h
/-! ### operators -/
def bopT : Bop → Operator → Option (Nat → Nat → Nat)
  | .add, .Add => some fun j k => cl (max j k)
  | .sub, .Sub => some fun _ _ => 0
  | .mul, .Mult => some fun _ _ => 0
  | .fdiv, .FloorDiv => some fun _ _ => 0
  | .mod, .Mod => some fun _ _ => 0
  | .pow, .Pow => some fun _ _ => 0
  | _, _ => none
theorem bop_ok {op : Bop} {pop : Operator} {ty : Nat → Nat → Nat} (hK : X.K = g.K) (h : bopT op pop = some ty) : OpD X g (binaryOp pop) (binD op) ty := by
  unfold bopT at h
  split at h <;> first | (cases h; done) | (cases h; first | exact od_add hK | exact od_sub | exact od_mul | exact od_fdiv | exact od_mod | exact od_pow)
def copT : Cop → CmpOp → Bool
  | .eq, .Eq | .ne, .NotEq | .lt, .Lt | .le, .LtE | .gt, .Gt | .ge, .GtE | .is, .Is | .isnot, .IsNot | .inn, .In | .notin, .NotIn => true
  | _, _ => false
theorem cop_ok {op : Cop} {pop : CmpOp} (hK : X.K = g.K) (hr : X.A.units + 64 < cLine) (h : copT op pop = true) : OpD X g (compareOp pop) (fun x y => (cmpD op x y).map .bl) fun _ _ => 0 := by
  unfold copT at h
  split at h <;> first | (cases h; done) | skip
  · exact od_eq hK hr
  · exact od_ne hK hr
  · exact od_ord rfl hK hr fun _ _ => rfl
  · exact od_ord rfl hK hr fun _ _ => rfl
  · exact od_ord rfl hK hr fun _ _ => rfl
  · exact od_ord rfl hK hr fun _ _ => rfl
  · exact od_is
  · exact od_isnot
  · exact od_in hK hr
  · exact od_notin hK hr
theorem p_chn {op op' : Cop} {pop pop' : CmpOp} {a b c : E} {ea eb ec : Expr} {pos : Pos} {ta tb tc : Ty} (ho : OpD X g (compareOp pop) (fun x y => (cmpD op x y).map .bl) fun _ _ => 0) (ho' : OpD X g (compareOp pop') (fun x y => (cmpD op' x y).map .bl) fun _ _ => 0)
    (hm : lastMarks [pop, pop'] [eb, ec] = false)
    (ha : PE X ea (rdE g W ks ta (evE F G a))) (hb : PE X eb (rdE g W ks tb (evE F G b))) (hc : PE X ec (rdE g W ks tc (evE F G c))) : PT X (.Compare ea [pop, pop'] [eb, ec] pos) (rdT g W ks (tst (evE F G (.chn op op' a b c)))) := by
  refine (pt_chain ho ho' ha hb hc hm).of fun σ H Q ⟨env, o, A, at_, h⟩ => ?_
  have h' : Post ((evE F G a env o).bind fun x o1 => (evE F G b env o1).bind fun y o2 => (R.of (cmpD op x y) o2).bind fun t o3 =>
      if t then (evE F G c env o3).bind fun z o4 => (R.of ((cmpD op' y z).map .bl) o4).bind fun d o5 => .ok (truthy d) o5 else .ok false o3) (fun d o' => ∀ H', Ext g.q H H' → Or g.q H' o' → Q d H') (Ew g W σ H) := by
    unfold tst evE at h
    cases e : evE F G a env o with
    | ok x o1 =>
      rw [e] at h
      simp only [R.bind_ok] at h ⊢
      cases e2 : evE F G b env o1 with
      | ok y o2 =>
        rw [e2] at h
        simp only [R.bind_ok] at h ⊢
        cases e3 : cmpD op x y with
        | none => rw [e3] at h; exact h
        | some t =>
          rw [e3] at h
          simp only [R.of_some, R.bind_ok] at h ⊢
          cases t with
          | false => exact h
          | true =>
            simp only [if_true] at h ⊢
            rw [R.bind_assoc] at h
            exact h
      | ex c o2 => rw [e2] at h; exact h
      | bad => rw [e2] at h; exact h
    | ex c o1 => rw [e] at h; exact h
    | bad => rw [e] at h; exact h
  refine rdE.use at_ h' fun d o1 v H1 e1 a1 r1 h1 => rdE.use a1 (h1.ext e1 fun _ _ z => z) fun d2 o2 v2 H2 e2 a2 r2 h2 => ?_
  obtain ⟨z, hz, hq⟩ := h2.ofb
  refine ⟨A, o2, ta.k, tb.k, d, d2, .bl z, r1.1.ext e2, r2.1, a2.or, a2.dom, by show (cmpD op d d2).map D.bl = _; rw [hz]; rfl, fun v H3 e3 or3 r3 => ?_⟩
  unfold Rep at r3
  refine ⟨z, r3, ?_⟩
  cases z with
  | false =>
    simp only [Bool.false_eq_true, if_false] at hq ⊢
    exact ⟨false, rfl, hq H3 (e1.trans (e2.trans e3)) or3⟩
  | true =>
    simp only [if_true] at hq ⊢
    have e123 := e1.trans (e2.trans e3)
    refine rdE.use (a2.next e3 or3) (Post.ext (e2.trans e3) hq fun _ _ z => z) fun d4 o4 v4 H4 e4 a4 r4 h4 => ?_
    obtain ⟨z, hz', hq'⟩ := h4.ofb
    obtain ⟨b, rfl, hb'⟩ := cmp_bl hz'
    refine ⟨A, o4, tb.k, tc.k, d2, d4, .bl b, r2.1.ext (e3.trans e4), r4.1, a4.or, a4.dom, hz', fun v H' e5 or5 r5 => ?_⟩
    unfold Rep at r5
    exact ⟨b, r5, hq' H' (e123.trans (e4.trans e5)) or5⟩
end O
end

section
set_option Elab.async false
set_option linter.all false
set_option maxRecDepth 100000
namespace O
open PySem PySem.Spec PyProof.Rows L2
variable {g : Gx} {W : WX} {ks : Nat → Nat} {σ : L2.St} {H H' : Hp} {env : Env} {o o' : OS} {A : Addr → Prop} {τ : Ty} {Q : VK} {X : Cx} {pins : List (Addr × Obj)} {s : Shared}
variable {F : Nat → List D → OS → R D} {G : Nat → D}
/-! ### what is known of names -/
structure SC where
  N : List PySem.Str
  sc : Scope
  fn : PySem.Str → Bool
  ks : Nat → Nat
  outs : List PySem.Str
  sig : PySem.Str → Option (Nat × List Nat × Ty)
  glo : PySem.Str → Option Nat
  pk : PySem.Str → Bool
  kd : PySem.Str → Option Nat
def SC.blk (S : SC) (scope : Scope) : SC := { S with sc := relS scope S.sc, fn := fun x => scope.names.lookup x == some .cell }
/-- what pick is for a caller -/
def spPick (g : Gx) : Sp := fun vs H Q _ => ∃ s c o m, g.q = some (s, c) ∧ vs = [.ref s, .int m] ∧ Or g.q H o ∧ m < 1073741824 ∧ ∀ H', Ext g.q H H' → Or g.q H' (pickF m o).2 → Q (.int (pickF m o).1) H'
structure PkOk (X : Cx) (g : Gx) (n : Nat) (y : PySem.Str) : Prop where
  it : ∃ (a : Addr) (fd : FuncData) (ps : List PySem.Str), X.mg y = some (.ref a) ∧ PySem.W.keepIn X.K (.ref a) = true ∧ Binds X.K fd ps [] ∧ FnG X.prog X.w X.K X.mg X.base n a fd ps (spPick g)
/-- a table of the module, by texts -/
def KdOk (X : Cx) (g : Gx) (G : Nat → D) (y : PySem.Str) (i : Nat) : Prop := ∃ d es n, X.mg y = some (.ref d) ∧ KDict X.K X.w d es n ∧ ∀ s r, keyG (G i) (.str s) = some r →
  (r = none ∧ PySem.W.nsIn X.K d (strV s) = some none) ∨ ∃ u v z, r = some z ∧ PySem.W.nsIn X.K d (strV s) = some (some u) ∧ RelV v u ∧ ∀ A H, Rep g.K g.q A 0 H v z
structure OkX (X : Cx) (g : Gx) (n : Nat) (F : Nat → List D → OS → R D) (G : Nat → D) (S : SC) (W : WX) : Prop where
  K : X.K = g.K
  N : X.N = S.N
  nd : X.N.Nodup
  calm : X.calm = true
  sc : X.env.scope = S.sc
  fn : ∀ y, S.fn y = true → X.fn y = true
  units : X.A.units + 80 < cLine
  guards : X.A.guards = some []
  room : Room n X.A
  outs : ∀ y ∈ S.outs, X.mg y = none
  sig : ∀ y f kl τ, S.sig y = some (f, kl, τ) → Def X g n F f y kl τ ∧ ∀ ds o, ds.length ≠ kl.length → F f ds o = .bad
  glo : ∀ y i, S.glo y = some i → ∃ u v, X.mg y = some u ∧ RelV v u ∧ ∀ A H, Rep g.K g.q A 0 H v (G i)
  pk : ∀ y, S.pk y = true → PkOk X g n y
  kd : ∀ y i, S.kd y = some i → KdOk X g G y i
  tk : Takes X W
theorem OkX.blk {n : Nat} {S : SC} (ok : OkX X g n F G S W) (s : Shared) (H : Hp) (scope : Scope) (C : Addr) (cl : List (PySem.Str × Addr)) (fp : List Addr) : OkX (X.blk s H scope (compEnvC scope cl C X.env) fp) g n F G (S.blk scope) WN := by
  refine ⟨ok.K, ok.N, ok.nd, ok.calm, ?_, fun y h => h, ok.units, ok.guards, ok.room, ok.outs, fun y f kl τ h => ?_, ok.glo, fun y h => ⟨(ok.pk y h).it⟩, ok.kd, fun u s' ⟨a, B, sI, pins, σ, H, cls, d, e, I, nb, up, sky, na, os, ag, w⟩ => w.elim⟩
  · show relS scope X.env.scope = _
    rw [ok.sc]; rfl
  · obtain ⟨d, b⟩ := ok.sig y f kl τ h
    exact ⟨⟨d.it⟩, b⟩
theorem OkX.u64 {W : WX} {n : Nat} {S : SC} (ok : OkX X g n F G S W) : X.A.units + 64 < cLine := by have := ok.units; omega
def isVar (k : Option NameKind) : Bool := match k with | some .local => true | some .cell => true | some .free => true | _ => false
def isLoc (k : Option NameKind) : Bool := match k with | some .local => true | some .cell => true | _ => false
def vN (S : SC) (i : Nat) (x : PySem.Str) : Bool := decide (S.N[i]? = some x) && isVar (S.sc.names.lookup x) && !(x == ("__debug__" : PySem.Str)) && !(x == ("__classdict__" : PySem.Str))
def gN (S : SC) (x : PySem.Str) : Bool := decide (S.sc.names.lookup x = some .globalImplicit) && !(x == ("__debug__" : PySem.Str)) && decide (x ≠ "__name__")
def oN (S : SC) (x : PySem.Str) : Bool := gN S x && S.outs.contains x
variable {n : Nat} {S : SC}
theorem vN_ok (ok : OkX X g n F G S W) {i : Nat} {x : PySem.Str} (h : vN S i x = true) : X.N[i]? = some x ∧ Vis X.env.scope x ∧ (x == ("__debug__" : PySem.Str)) = false ∧ (x == ("__classdict__" : PySem.Str)) = false := by
  simp only [vN, Bool.and_eq_true, decide_eq_true_eq, Bool.not_eq_true'] at h
  obtain ⟨⟨⟨h1, h2⟩, h3⟩, h4⟩ := h
  refine ⟨by rw [ok.N]; exact h1, ?_, h3, h4⟩
  unfold Vis
  rw [ok.sc]
  unfold isVar at h2
  split at h2 <;> first | (cases h2; done) | simp_all
theorem gN_ok (ok : OkX X g n F G S W) {x : PySem.Str} (h : gN S x = true) : Gl X x ∧ (x == ("__debug__" : PySem.Str)) = false ∧ x ≠ "__name__" := by
  simp only [gN, Bool.and_eq_true, decide_eq_true_eq, Bool.not_eq_true'] at h
  refine ⟨?_, h.1.2, h.2⟩
  show X.env.scope.names.lookup x = _
  rw [ok.sc]; exact h.1.1
theorem oN_ok (ok : OkX X g n F G S W) {x : PySem.Str} (h : oN S x = true) : Gl X x ∧ (x == ("__debug__" : PySem.Str)) = false ∧ x ≠ "__name__" ∧ X.mg x = none := by
  simp only [oN, Bool.and_eq_true] at h
  obtain ⟨h1, h2, h3⟩ := gN_ok ok h.1
  exact ⟨h1, h2, h3, ok.outs x (by simpa using h.2)⟩
/-- the built-in functions: a type?, its name, what its value is like -/
def biInfo : Bi → Option (Bool × String × (List Nat → Ty))
  | .len => some (false, "len", t0)
  | .tuple => some (true, "tuple", tcl)
  | .list => some (true, "list", tcf)
  | .int => some (true, "int", t0)
  | .str => some (true, "str", t0)
  | .repr => some (false, "repr", t0)
  | .ord => some (false, "ord", t0)
  | .abs => some (false, "abs", t0)
  | .min2 => some (false, "min", t0)
  | .max2 => some (false, "max", t0)
  | .all => some (false, "all", t0)
  | .any => some (false, "any", t0)
  | .sorted => some (false, "sorted", tcf)
  | _ => none
theorem bi_ok (ok : OkX X g n F G S W) {b : Bi} {nm : String} {ty : List Nat → Ty} (h : biInfo b = some (false, nm, ty)) : BiOk X g (.builtin nm) b ty ∧ bootBuiltins (PySem.Str.ofString nm) = some (.builtin nm) := by
  cases b <;> simp only [biInfo, Option.some.injEq, Prod.mk.injEq, Bool.false_eq_true, false_and, reduceCtorEq, true_and] at h
  all_goals first | (exact h.elim) | (obtain ⟨rfl, rfl⟩ := h)
  · exact ⟨b_len ok.K, by decide +kernel⟩
  · exact ⟨b_sorted ok.K ok.units, by decide +kernel⟩
  · exact ⟨b_repr ok.K ok.guards (by have := ok.units; omega), by decide +kernel⟩
  · exact ⟨b_ord, by decide +kernel⟩
  · exact ⟨b_abs, by decide +kernel⟩
  · exact ⟨b_min2 ok.calm, by decide +kernel⟩
  · exact ⟨b_max2 ok.calm, by decide +kernel⟩
  · exact ⟨b_all ok.calm, by decide +kernel⟩
  · exact ⟨b_any ok.calm, by decide +kernel⟩
theorem bt_ok (ok : OkX X g n F G S W) {b : Bi} {nm : String} {ty : List Nat → Ty} (h : biInfo b = some (true, nm, ty)) : BiOk X g (.type nm) b ty ∧ bootBuiltins (PySem.Str.ofString nm) = some (.type nm) := by
  cases b <;> simp only [biInfo, Option.some.injEq, Prod.mk.injEq, Bool.true_eq_false, false_and, reduceCtorEq, true_and] at h
  all_goals first | (exact h.elim) | (obtain ⟨rfl, rfl⟩ := h)
  · exact ⟨b_tuple ok.K, by decide +kernel⟩
  · exact ⟨b_list ok.K, by decide +kernel⟩
  · exact ⟨b_int, by decide +kernel⟩
  · exact ⟨b_str, by decide +kernel⟩

theorem c_glo {i : Nat} {x : PySem.Str} {p : Pos} (ok : OkX X g n F G S W) (hg : gN S x = true) (h : S.glo x = some i) : PE X (.Name x p) (rdE g W ks ⟨0, 0⟩ (evE F G (.glo i))) := by
  obtain ⟨u, v, h1, h2, h3⟩ := ok.glo x i h
  obtain ⟨g1, g2, g3⟩ := gN_ok ok hg
  refine (pe_glob g1 h1 h2 g2).of fun σ H Q ⟨env, o, A, a, h⟩ => ?_
  unfold evE at h
  exact h v H .refl a.or (.plain (h3 A H))
theorem keyG_str {d x : D} {r : Option D} (h : keyG d x = some r) : ∃ s, x = .str s := by
  unfold keyG at h
  split at h
  · exact ⟨_, rfl⟩
  · cases h
/-- the operator for a table at d -/
theorem c_inG {i : Nat} {neg : Bool} {a : E} {y : PySem.Str} {ea : Expr} {ta : Ty} {p pos : Pos} (ok : OkX X g n F G S W) (hg : gN S y = true) (hk : S.kd y = some i) (ha : PE X ea (rdE g W ks ta (evE F G a))) :
    PE X (.Compare ea [if neg then .NotIn else .In] [.Name y p] pos) (rdE g W ks ⟨0, 0⟩ (evE F G (.inG neg a i))) ∧ PT X (.Compare ea [if neg then .NotIn else .In] [.Name y p] pos) (rdT g W ks (tst (evE F G (.inG neg a i)))) := by
  obtain ⟨d, es, nn, h1, kdx, h2⟩ := ok.kd y i hk
  obtain ⟨g1, g2, _⟩ := gN_ok ok hg
  have nm : PE X (.Name y p) (tC (.ref d)) := pe_glob g1 h1 rfl g2
  have key : ∀ {A : Addr → Prop} {x : D} {r : Option D} {v : V} {H1 : Hp}, keyG (G i) x = some r → Rep g.K g.q A ta.k H1 v x → ∃ z rr, v = .str z ∧ PySem.W.nsIn X.K d z = some rr ∧ rr.isSome = r.isSome := fun {A x r v H1} hz rp => by
    obtain ⟨s, rfl⟩ := keyG_str hz
    unfold Rep at rp
    rcases h2 s r hz with ⟨rfl, q⟩ | ⟨u, v', z, rfl, q, _⟩
    · exact ⟨_, _, rp.1, q, rfl⟩
    · exact ⟨_, _, rp.1, q, rfl⟩
  have rdy : ∀ {β : Type} {f : D → OS → R β} {P : β → OS → Prop} {σ : L2.St} {H : Hp} {env : Env} {o : OS} {A : Addr → Prop} {Q : VK}, At g A ks σ H env o → Post ((evE F G (.inG neg a i) env o).bind f) P (Ew g W σ H) →
      (∀ s rr o1 H1, PySem.W.nsIn X.K d s = some rr → Ext g.q H H1 → Or g.q H1 o1 → Post (f (.bl (rr.isSome != neg)) o1) P (Ew g W σ H) → Q (.str s) H1) → rdE g W ks ta (evE F G a) σ H Q := fun {β f P σ H env o A Q} at_ h k => by
    have ev : evE F G (.inG neg a i) env o = (evE F G a env o).bind fun x o1 => R.of ((keyG (G i) x).map fun r => .bl (r.isSome != neg)) o1 := by conv => { lhs; unfold evE }
    rw [ev, R.bind_assoc] at h
    refine rdE.use at_ h fun x o1 v H1 e1 a1 r1 z1 => ?_
    obtain ⟨z, hz, hq⟩ := z1.ofb
    obtain ⟨r, hr, rfl⟩ := Option.map_eq_some_iff.mp hz
    obtain ⟨s, rr, rfl, q, e⟩ := key hr r1.1
    exact k s rr o1 H1 q e1 a1.or (by rw [e]; exact hq)
  have one : ∀ {x : R D}, x.bind (fun d o => .ok d o) = x := fun {x} => by cases x <;> rfl
  cases neg
  · refine ⟨(pe_cmpR (op_in_kd kdx) ha nm rfl).of fun σ H Q ⟨env, o, A, at_, h⟩ => rdy (f := fun d o => .ok d o) (P := fun d o' => ∀ v H', Ext g.q H H' → Or g.q H' o' → RepT g A ⟨0, 0⟩ H H' v d → Q v H') at_ (by rw [one]; exact h) fun s rr o1 H1 q e1 or1 z => ⟨s, rr, rfl, rfl, q, z _ H1 e1 or1 (.plain (by unfold Rep; cases rr <;> rfl))⟩,
      (pt_cmpR (op_in_kd kdx) ha nm rfl).of fun σ H Q ⟨env, o, A, at_, h⟩ => rdy (f := fun x o1 => .ok (truthy x) o1) at_ h fun s rr o1 H1 q e1 or1 z => ⟨s, rr, rfl, rfl, q, rr.isSome, rfl, by
        have := z H1 e1 or1
        cases rr <;> exact this⟩⟩
  · refine ⟨(pe_cmpR (op_notIn_kd kdx) ha nm rfl).of fun σ H Q ⟨env, o, A, at_, h⟩ => rdy (f := fun d o => .ok d o) (P := fun d o' => ∀ v H', Ext g.q H H' → Or g.q H' o' → RepT g A ⟨0, 0⟩ H H' v d → Q v H') at_ (by rw [one]; exact h) fun s rr o1 H1 q e1 or1 z => ⟨s, rr, rfl, rfl, q, z _ H1 e1 or1 (.plain (by unfold Rep; cases rr <;> rfl))⟩,
      (pt_cmpR (op_notIn_kd kdx) ha nm rfl).of fun σ H Q ⟨env, o, A, at_, h⟩ => rdy (f := fun x o1 => .ok (truthy x) o1) at_ h fun s rr o1 H1 q e1 or1 z => ⟨s, rr, rfl, rfl, q, !rr.isSome, rfl, by
        have := z H1 e1 or1
        cases rr <;> exact this⟩⟩
theorem c_ixG {i : Nat} {a : E} {y : PySem.Str} {ea : Expr} {ta : Ty} {p pos : Pos} (ok : OkX X g n F G S W) (hg : gN S y = true) (hk : S.kd y = some i) (hs : (match ea with | .Slice .. => true | _ => false) = false) (ha : PE X ea (rdE g W ks ta (evE F G a))) :
    PE X (.Subscript (.Name y p) ea pos) (rdE g W ks ⟨0, 0⟩ (evE F G (.ixG i a))) := by
  obtain ⟨d, es, nn, h1, kdx, h2⟩ := ok.kd y i hk
  obtain ⟨g1, g2, _⟩ := gN_ok ok hg
  have nm : PE X (.Name y p) (tC (.ref d)) := pe_glob g1 h1 rfl g2
  refine (pe_ix ix_kdict nm ha (plainIx_of hs)).of fun σ H Q ⟨env, o, A, at_, h⟩ => ?_
  unfold evE at h
  refine rdE.use at_ h fun x o1 v H1 e1 a1 r1 z1 => ?_
  obtain ⟨z, hz, hq⟩ := z1.of
  obtain ⟨r, hr, rfl⟩ := Option.bind_eq_some_iff.mp hz
  obtain ⟨s, rfl⟩ := keyG_str hr
  rcases h2 s _ hr with ⟨e, _⟩ | ⟨u, w, z', e, q, rv, rz⟩
  · cases e
  · cases e
    have rp := r1.1
    unfold Rep at rp
    exact ⟨d, _, w, rfl, rp.1, ⟨es, nn, u, kdx.at_, kdx.lit, q, rv⟩, hq w H1 e1 a1.or (.plain (rz A H1))⟩
theorem c_pick {i : Nat} {m : E} {y z : PySem.Str} {em : Expr} {tm : Ty} {p p1 pos : Pos} (ok : OkX X g n F G S W) (hg : gN S y = true) (hp : S.pk y = true) (hz : vN S i z = true) (hs : notStar em = true) (he : PE X em (rdE g W ks tm (evE F G m))) :
    PE X (.Call (.Name y p) [.Name z p1, em] [] pos) (rdE g W ks ⟨0, 0⟩ (evE F G (.pick i m))) := by
  obtain ⟨a, fd, ps, h1, h2, h3, h4⟩ := (ok.pk y hp).it
  obtain ⟨g1, g2, _⟩ := gN_ok ok hg
  obtain ⟨v1, v2, v3, v4⟩ := vN_ok ok hz
  refine (pe_callG h4 ok.room ok.guards g1 h1 h2 h3 ok.tk (pa_cons (pe_var v1 v2 v3 v4) (pa_cons he pa_nil (star_of hs)) (star_of rfl)) g2 (star_of rfl) (noStars [_] _ _ (by simp [hs]))).of fun σ H Q ⟨env, o, A, at_, h⟩ => ?_
  unfold evE at h
  split at h
  case h_2 => exact h.elim
  case h_1 hsrc =>
    obtain ⟨v, hv, rv⟩ := at_.sl.get i _ hsrc
    unfold Rep at rv
    obtain ⟨⟨s, c⟩, eq, rfl⟩ := rv
    refine ⟨_, hv, rdE.use at_ h fun d o1 v H1 e1 a1 r1 h1 => ?_⟩
    obtain ⟨k, hk, h2⟩ := h1.ofb
    have := isInt_some hk; subst this
    have r := r1.1
    unfold Rep at r; subst r
    split at h2
    · rename_i lt
      exact ⟨s, c, o1, k, eq, rfl, a1.or, lt, fun H' e2 r2 => h2 _ H' (e1.trans e2) r2 (.plain rep_int)⟩
    · exact h2.elim
theorem pe_weak {e : Expr} {ev : Env → OS → R D} {k k' : Nat} {fr : Nat} (h : PE X e (rdE g W ks ⟨k, fr⟩ ev)) (hk : k ≤ k') : PE X e (rdE g W ks ⟨k', 0⟩ ev) :=
  h.of fun σ H Q ⟨env, o, A, a, z⟩ => ⟨env, o, A, a, z.mono (fun d o' q v H' e r t => q v H' e r (.plain (t.1.le hk))) fun _ _ q => q⟩
/-! ### the checker: expressions -/
def gd {α : Type} (c : Bool) (x : α) : Option α := if c then some x else none
theorem gd_ok {α : Type} {c : Bool} {x y : α} (h : gd c x = some y) : c = true ∧ x = y := by
  unfold gd at h
  split at h
  · rename_i z; exact ⟨z, Option.some.inj h⟩
  · cases h
/-- the rest of an and / or: a lone one without its husk -/
def husk (e : Expr) : Expr := match vwOne e with | some v => v.2 | none => e
/-- what a comprehension's own slots are called -/
def ownOf (S : SC) (own : List Nat) : List (PySem.Str × Nat) := own.filterMap fun i => S.N[i]?.map fun x => (x, i)
def notSet : Expr → Bool
  | .Set .. => false
  | _ => true
mutual
/-- a target -/
def ckG (S : SC) : Tg → Expr → Bool
  | .nm i, e => match vwName e with
    | some x => decide (S.N[i]? = some x) && isLoc (S.sc.names.lookup x) && (S.fn x || decide (S.sc.names.lookup x = some .local))
    | none => false
  | .tup ts, e => match vwTup e with
    | some es => es.all notStar && ckGs S ts es
    | none => false
def ckGs (S : SC) : Tgs → List Expr → Bool
  | .nil, [] => true
  | .cons t ts, e :: es => ckG S t e && ckGs S ts es
  | _, _ => false
end
/-- a lone one -/
def only1 : List Expr → Option Expr
  | [x] => some x
  | _ => none
theorem only1_ok {l : List Expr} {x : Expr} (h : only1 l = some x) : l = [x] := by
  unfold only1 at h
  split at h
  · cases h; rfl
  · cases h
mutual
def ck (S : SC) (t : Bool) : E → Expr → Option Ty
  | .never, _ => none
  | .var i, e => (vwName e).bind fun x => gd (vN S i x) ⟨S.ks i, 0⟩
  | .con d, e => gd (conOk d e) ⟨0, 0⟩
  | .glo i, e => (vwName e).bind fun x => gd (gN S x && decide (S.glo x = some i)) ⟨0, 0⟩
  | .inG neg a i, e => (vwCmp e).bind fun v => (vwName v.2.2).bind fun y => (ck S false a v.1).bind fun _ => gd (gN S y && decide (S.kd y = some i) && decide (v.2.1 = if neg then .NotIn else .In)) ⟨0, 0⟩
  | .ixG i a, e => (vwSub e).bind fun v => (vwName v.1).bind fun y => (ck S false a v.2).bind fun _ => gd (gN S y && decide (S.kd y = some i) && !(match v.2 with | .Slice .. => true | _ => false)) ⟨0, 0⟩
  | .bin o a b, e => (vwBin e).bind fun v => (ck S false a v.1).bind fun ta => (ck S false b v.2.2).bind fun tb => (bopT o v.2.1).map fun ty => ⟨ty ta.k tb.k, 0⟩
  | .cmp o a b, e => (vwCmp e).bind fun v => (ck S false a v.1).bind fun _ => (ck S false b v.2.2).bind fun _ => gd (copT o v.2.1 && !behindInMarks v.2.1 v.2.2) ⟨0, 0⟩
  | .chn o p a b c, e => (vwChn e).bind fun v => (ck S false a v.1).bind fun _ => (ck S false b v.2.2.2.1).bind fun _ => (ck S false c v.2.2.2.2).bind fun _ =>
      gd (copT o v.2.1 && copT p v.2.2.1 && !lastMarks [v.2.1, v.2.2.1] [v.2.2.2.1, v.2.2.2.2]) ⟨0, 0⟩
  | .and a b, e => (vwBoo .And e).bind fun v => (ck S t a v.1).bind fun ta => (ck S t b (husk v.2)).map fun tb => ⟨max ta.k tb.k, 0⟩
  | .or a b, e => (vwBoo .Or e).bind fun v => (ck S t a v.1).bind fun ta => (ck S t b (husk v.2)).map fun tb => ⟨max ta.k tb.k, 0⟩
  | .not a, e => (vwUn e).bind fun v => (ck S t a v.2).bind fun _ => gd (decide (v.1 = .Not)) ⟨0, 0⟩
  | .neg a, e => (vwUn e).bind fun v => (ck S false a v.2).bind fun _ => gd (decide (v.1 = .USub)) ⟨0, 0⟩
  | .ite c a b, e => (vwIte e).bind fun v => (ck S true c v.1).bind fun _ => (ck S false a v.2.1).bind fun ta => (ck S false b v.2.2).bind fun tb => gd (!t) ⟨max ta.k tb.k, 0⟩
  | .tup es, e => (vwTup e).bind fun v => (ckA S es v).bind fun kl => gd (decide (kl.length ≤ 1000)) ⟨upTo kl, 0⟩
  | .lst es, e => (vwLst e).bind fun v => (ckA S es v).bind fun kl => gd (decide (kl.length ≤ 1000)) ⟨upTo kl, fr1 (upTo kl)⟩
  | .nn, e => (vwLst e).bind fun v => match v with
    | [.List [] _] => some ⟨0, 2⟩
    | _ => none
  | .ix a b, e => (vwSub e).bind fun v => (ck S false a v.1).bind fun ta => (ck S false b v.2).bind fun _ => gd (!(match v.2 with | .Slice .. => true | _ => false)) ⟨ta.k - 1, 0⟩
  | .sl a lo hi, e => (vwSub e).bind fun v => (vwSl v.2).bind fun w => (ck S false a v.1).bind fun ta => (ck S false lo w.1).bind fun _ => (ck S false hi w.2).map fun _ => ⟨cl ta.k, 0⟩
  | .slo a lo, e => (vwSub e).bind fun v => (vwSlo v.2).bind fun w => (ck S false a v.1).bind fun ta => (ck S false lo w).map fun _ => ⟨cl ta.k, 0⟩
  | .shi a hi, e => (vwSub e).bind fun v => (vwShi v.2).bind fun w => (ck S false a v.1).bind fun ta => (ck S false hi w).map fun _ => ⟨cl ta.k, 0⟩
  | .rev a, e => (vwSub e).bind fun v => (ck S false a v.1).bind fun ta => gd (vwRev v.2) ⟨cl ta.k, fr1 (cl ta.k)⟩
  | .call f es, e => (vwCall e).bind fun v => (ckA S es v.2).bind fun kl => (S.sig v.1).bind fun w => gd (gN S v.1 && decide (w.1 = f) && decide (w.2.1 = kl)) w.2.2
  | .star f a, e => (vwCall e).bind fun v => match v.2 with
    | [x] => (vwStar x).bind fun y => (ck S false a y).bind fun ta => (S.sig v.1).bind fun w => gd (gN S v.1 && decide (w.1 = f) && decide (w.2.1 = List.replicate w.2.1.length 0) && decide (ta.k = 0)) w.2.2
    | _ => none
  | .bi b es, e => if b = .join then (vwJoin e).bind fun v => match es with
      | .cons (.con (.str sp)) (.cons a .nil) => (ck S false a v.2).bind fun _ => gd (decide (v.1 = strV sp) && sp.all (fun c => decide (c < 0x110000)) && notStar v.2) ⟨0, 0⟩
      | _ => none
    else if b = .set then (vwCall e).bind fun v => match es with
      | .cons a .nil => (only1 v.2).bind fun y => (vwCall y).bind fun u => (only1 u.2).bind fun z => (ck S false a z).bind fun _ => gd (oN S v.1 && decide (v.1 = "sorted") && oN S u.1 && decide (u.1 = "set") && notStar z) ⟨0, 1⟩
      | _ => none
    else (vwCall e).bind fun v => (ckA S es v.2).bind fun kl => (biInfo b).bind fun w => gd (oN S v.1 && decide (v.1 = PySem.Str.ofString w.2.1) && !v.2.isEmpty) (w.2.2 kl)
  | .isi a k, e => (vwCall e).bind fun v => match v.2 with
    | [x, y] => (vwName y).bind fun T => (ck S false a x).bind fun _ => gd (oN S v.1 && decide (v.1 = "isinstance") && decide (k ≤ 5) && oN S T && decide (T = PySem.Str.ofString (isN k)) && notStar x) ⟨0, 0⟩
    | _ => none
  | .pick i m, e => (vwCall e).bind fun v => match v.2 with
    | [x, y] => (vwName x).bind fun z => (ck S false m y).bind fun _ => gd (gN S v.1 && S.pk v.1 && vN S i z && notStar y) ⟨0, 0⟩
    | _ => none
  | .lc own tg it cs x, e => (vwLc e).bind fun v => (ckI S it v.2.2.1 v.2.1).bind fun j => (ckC (S.blk v.2.2.2.2) cs v.2.2.2.1).bind fun _ => (ck (S.blk v.2.2.2.2) false x v.1).bind fun tx =>
      gd (decide (j ≤ 1) && decide ((ownOf S own).map (·.2) = own) && blkC S.N S.sc v.2.2.2.2 (ownOf S own) && notSet v.2.2.1 && (tgN tg).all (fun i => own.contains i) && ckG (S.blk v.2.2.2.2) tg v.2.1 && decide (tx.k = 0)) ⟨0, 1⟩
  | .sc own tg it cs x, e => (vwCall e).bind fun c => match c.2 with
    | [y] => (vwSc y).bind fun v => (ckI S it v.2.2.1 v.2.1).bind fun j => (ckC (S.blk v.2.2.2.2) cs v.2.2.2.1).bind fun _ => (ck (S.blk v.2.2.2.2) false x v.1).bind fun tx =>
      gd (decide (j ≤ 1) && decide ((ownOf S own).map (·.2) = own) && blkC S.N S.sc v.2.2.2.2 (ownOf S own) && notSet v.2.2.1 && (tgN tg).all (fun i => own.contains i) && ckG (S.blk v.2.2.2.2) tg v.2.1 && decide (tx.k = 0) && oN S c.1 && decide (c.1 = "sorted")) ⟨0, 1⟩
    | _ => none
/-- arguments -/
def ckA (S : SC) : Es → List Expr → Option (List Nat)
  | .nil, [] => some []
  | .cons a es, e :: r => (ck S false a e).bind fun t => (ckA S es r).bind fun kl => gd (notStar e) (t.k :: kl)
  | _, _ => none
/-- tests of a comprehension: none or one -/
def ckC (S : SC) : Es → List Expr → Option Unit
  | .nil, [] => some ()
  | .cons a .nil, [e] => (ck S true a e).map fun _ => ()
  | _, _ => none
/-- what is walked, and into what target -/
def ckI (S : SC) : It → Expr → Expr → Option Nat
  | .e a, e, _ => (ck S false a e).map fun t => t.k
  | .r1 a, e, _ => (vwCall e).bind fun v => match v.2 with
    | [x] => (ck S false a x).bind fun _ => gd (oN S v.1 && decide (v.1 = "range") && notStar x) 0
    | _ => none
  | .r2 a b, e, _ => (vwCall e).bind fun v => match v.2 with
    | [x, y] => (ck S false a x).bind fun _ => (ck S false b y).bind fun _ => gd (oN S v.1 && decide (v.1 = "range") && notStar x && notStar y) 0
    | _ => none
  | .en a, e, tg => (vwCall e).bind fun v => match v.2 with
    | [x] => (ck S false a x).bind fun t => gd (oN S v.1 && decide (v.1 = "enumerate") && notStar x && decide (t.k = 0) && (vwTup tg).isSome) 0
    | _ => none
  | .zip a b, e, tg => (vwCall e).bind fun v => match v.2 with
    | [x, y] => (ck S false a x).bind fun t => (ck S false b y).bind fun u => gd (oN S v.1 && decide (v.1 = "zip") && notStar x && notStar y && decide (t.k = 0) && decide (u.k = 0) && (vwTup tg).isSome) 0
    | _ => none
end
end O
end

section
set_option Elab.async false
set_option linter.all false
set_option maxRecDepth 100000
set_option maxHeartbeats 4000000
namespace O
open PySem PySem.Spec PyProof.Rows L2
variable {g : Gx} {n : Nat} {F : Nat → List D → OS → R D} {G : Nat → D}
def isBoo : Expr → Bool
  | .BoolOp .. => true
  | _ => false
/-- what the checker's yes means -/
def SndE (g : Gx) (F : Nat → List D → OS → R D) (G : Nat → D) (X : Cx) (S : SC) (W : WX) (e : E) (ee : Expr) (τ : Ty) : Prop := PE X ee (rdE g W S.ks τ (evE F G e))
def SndT (g : Gx) (F : Nat → List D → OS → R D) (G : Nat → D) (X : Cx) (S : SC) (W : WX) (e : E) (ee : Expr) : Prop :=
  PT X ee (rdT g W S.ks (tst (evE F G e))) ∧ (isBoo ee = true → PW X ee (rdT g W S.ks (tst (evE F G e))))
theorem snd_plain {X : Cx} {S : SC} {W : WX} {e : E} {ee : Expr} {τ : Ty} (hK : X.K = g.K) (h : SndE g F G X S W e ee τ) (hp : plainTest ee = true) : SndT g F G X S W e ee :=
  ⟨p_truth hK h hp, fun b => by cases ee <;> simp [isBoo, plainTest] at b hp⟩
theorem husk_e {X : Cx} {S : SC} {W : WX} {e : E} {ee : Expr} {τ : Ty} (h : SndE g F G X S W e (husk ee) τ) : SndE g F G X S W e ee τ := by
  unfold husk at h
  split at h
  · rename_i v hv
    obtain ⟨p, rfl⟩ := vwOne_ok hv
    exact pe_one h
  · exact h
theorem husk_t {X : Cx} {S : SC} {W : WX} {e : E} {ee : Expr} (hb : isBoo ee = true) (h : SndT g F G X S W e (husk ee)) : PW X ee (rdT g W S.ks (tst (evE F G e))) := by
  unfold husk at h
  split at h
  · rename_i v hv
    obtain ⟨p, rfl⟩ := vwOne_ok hv
    obtain ⟨o, x⟩ := v
    cases o
    · exact pw_and1 h.1
    · exact pw_or1 h.1
  · exact h.2 hb
theorem bind_some {α β : Type} {x : Option α} {f : α → Option β} {y : β} (h : x.bind f = some y) : ∃ a, x = some a ∧ f a = some y := Option.bind_eq_some_iff.mp h
theorem map_some {α β : Type} {x : Option α} {f : α → β} {y : β} (h : x.map f = some y) : ∃ a, x = some a ∧ f a = y := Option.map_eq_some_iff.mp h
mutual
theorem ckG_ok {X : Cx} {S : SC} {W : WX} (ok : OkX X g n F G S W) : ∀ {t : Tg} {e : Expr}, ckG S t e = true → PG X e (gRd g S.ks t)
  | .nm i, e, h => by
    unfold ckG at h
    split at h
    · rename_i x hx
      obtain ⟨p, rfl⟩ := vwName_ok hx
      simp only [Bool.and_eq_true, decide_eq_true_eq, Bool.or_eq_true] at h
      obtain ⟨⟨h1, h2⟩, h3⟩ := h
      refine g_nm ok.nd (by rw [ok.N]; exact h1) ?_ ?_
      · unfold L2.Loc
        rw [ok.sc]
        unfold isLoc at h2
        split at h2 <;> first | (cases h2; done) | simp_all
      · rcases h3 with h3 | h3
        · exact .inl (ok.fn x h3)
        · exact .inr (by rw [ok.sc]; exact h3)
    · cases h
  | .tup ts, e, h => by
    unfold ckG at h
    split at h
    · rename_i es hx
      obtain ⟨k, p, rfl⟩ := vwTup_ok hx
      simp only [Bool.and_eq_true] at h
      obtain ⟨h1, h2⟩ := ckGs_ok ok (es := es) h.2 h.1
      exact g_tup ok.K ok.calm h1 h2 h.1
    · cases h
theorem ckGs_ok {X : Cx} {S : SC} {W : WX} (ok : OkX X g n F G S W) : ∀ {ts : Tgs} {es : List Expr}, ckGs S ts es = true → es.all notStar = true → PGs X es (gRds g S.ks ts) ∧ es.length = Tg.n ts
  | .nil, [], h, _ => ⟨g_nil, rfl⟩
  | .cons t ts, e :: es, h, hs => by
    unfold ckGs at h
    simp only [Bool.and_eq_true] at h
    rw [List.all_cons, Bool.and_eq_true] at hs
    obtain ⟨h1, h2⟩ := ckGs_ok ok h.2 hs.2
    exact ⟨g_cons (ckG_ok ok h.1) h1 hs.1, by rw [List.length_cons, n_cons, h2]⟩
  | .nil, _ :: _, h, _ => by simp [ckGs] at h
  | .cons _ _, [], h, _ => by simp [ckGs] at h
end
theorem isN_ok (k : Nat) : bootBuiltins (PySem.Str.ofString (isN k)) = some (.type (isN k)) := by
  unfold isN
  split <;> decide +kernel
theorem fold_ok {X : Cx} {e : Expr} (h : notSet e = true) (x : Value) : foldedSetIterable e X.env x = Pure.pure x := by
  cases e <;> first | (simp [notSet] at h; done) | rfl
mutual
theorem ck_ok : ∀ (e : E) (X : Cx) (S : SC) (W : WX) (ee : Expr) (τ : Ty), OkX X g n F G S W → (ck S false e ee = some τ → SndE g F G X S W e ee τ) ∧ (ck S true e ee = some τ → SndT g F G X S W e ee)
  | .never, X, S, W, ee, τ, ok => by constructor <;> (intro h; simp [ck] at h)
  | .var i, X, S, W, ee, τ, ok => by
    have pe : ∀ t, ck S t (.var i) ee = some τ → SndE g F G X S W (.var i) ee τ ∧ plainTest ee = true := fun t h => by
      unfold ck at h
      obtain ⟨x, hx, h⟩ := bind_some h
      obtain ⟨p, rfl⟩ := vwName_ok hx
      obtain ⟨c, rfl⟩ := gd_ok h
      obtain ⟨h1, h2, h3, h4⟩ := vN_ok ok c
      exact ⟨c_var h1 h2 h3 h4, rfl⟩
    exact ⟨fun h => (pe _ h).1, fun h => snd_plain ok.K (pe _ h).1 (pe _ h).2⟩
  | .con d, X, S, W, ee, τ, ok => by
    have pe : ∀ t, ck S t (.con d) ee = some τ → SndE g F G X S W (.con d) ee τ ∧ plainTest ee = true := fun t h => by
      unfold ck at h
      obtain ⟨c, rfl⟩ := gd_ok h
      exact ⟨conOk_ok c, by cases ee <;> first | rfl | (cases d <;> simp [conOk] at c)⟩
    exact ⟨fun h => (pe _ h).1, fun h => snd_plain ok.K (pe _ h).1 (pe _ h).2⟩
  | .glo i, X, S, W, ee, τ, ok => by
    have pe : ∀ t, ck S t (.glo i) ee = some τ → SndE g F G X S W (.glo i) ee τ ∧ plainTest ee = true := fun t h => by
      unfold ck at h
      obtain ⟨x, hx, h⟩ := bind_some h
      obtain ⟨p, rfl⟩ := vwName_ok hx
      obtain ⟨c, rfl⟩ := gd_ok h
      rw [Bool.and_eq_true, decide_eq_true_eq] at c
      exact ⟨c_glo ok c.1 c.2, rfl⟩
    exact ⟨fun h => (pe _ h).1, fun h => snd_plain ok.K (pe _ h).1 (pe _ h).2⟩
  | .inG neg a i, X, S, W, ee, τ, ok => by
    have pe : ∀ t, ck S t (.inG neg a i) ee = some τ → SndE g F G X S W (.inG neg a i) ee τ ∧ SndT g F G X S W (.inG neg a i) ee := fun t h => by
      unfold ck at h
      obtain ⟨v, hv, h⟩ := bind_some h
      obtain ⟨y, hy, h⟩ := bind_some h
      obtain ⟨ta, h1, h⟩ := bind_some h
      obtain ⟨c, rfl⟩ := gd_ok h
      obtain ⟨p, rfl⟩ := vwCmp_ok hv
      obtain ⟨⟨a', op, b'⟩, hv'⟩ : ∃ w, v = w := ⟨v, rfl⟩
      subst hv'
      obtain ⟨p2, e2⟩ := vwName_ok hy
      simp only at e2
      subst e2
      simp only [Bool.and_eq_true, decide_eq_true_eq] at c
      obtain ⟨⟨c1, c2⟩, rfl⟩ := c
      obtain ⟨k1, k2⟩ := c_inG (ks := S.ks) ok c1 c2 (neg := neg) ((ck_ok a X S W _ _ ok).1 h1)
      exact ⟨k1, k2, fun z => nomatch z⟩
    exact ⟨fun h => (pe _ h).1, fun h => (pe _ h).2⟩
  | .ixG i a, X, S, W, ee, τ, ok => by
    have pe : ∀ t, ck S t (.ixG i a) ee = some τ → SndE g F G X S W (.ixG i a) ee τ ∧ plainTest ee = true := fun t h => by
      unfold ck at h
      obtain ⟨⟨x, z⟩, hv, h⟩ := bind_some h
      obtain ⟨y, hy, h⟩ := bind_some h
      obtain ⟨ta, h1, h⟩ := bind_some h
      obtain ⟨c, rfl⟩ := gd_ok h
      obtain ⟨p, rfl⟩ := vwSub_ok hv
      obtain ⟨p2, e2⟩ := vwName_ok hy
      simp only at e2
      subst e2
      simp only [Bool.and_eq_true, decide_eq_true_eq, Bool.not_eq_true'] at c
      obtain ⟨⟨c1, c2⟩, c3⟩ := c
      exact ⟨c_ixG ok c1 c2 c3 ((ck_ok a X S W _ _ ok).1 h1), rfl⟩
    exact ⟨fun h => (pe _ h).1, fun h => snd_plain ok.K (pe _ h).1 (pe _ h).2⟩
  | .bin op a b, X, S, W, ee, τ, ok => by
    have pe : ∀ t, ck S t (.bin op a b) ee = some τ → SndE g F G X S W (.bin op a b) ee τ ∧ plainTest ee = true := fun t h => by
      unfold ck at h
      obtain ⟨v, hv, h⟩ := bind_some h
      obtain ⟨ta, h1, h⟩ := bind_some h
      obtain ⟨tb, h2, h⟩ := bind_some h
      obtain ⟨ty, h3, rfl⟩ := map_some h
      obtain ⟨p, rfl⟩ := vwBin_ok hv
      exact ⟨c_bin (bop_ok ok.K h3) ((ck_ok a X S W _ _ ok).1 h1) ((ck_ok b X S W _ _ ok).1 h2), rfl⟩
    exact ⟨fun h => (pe _ h).1, fun h => snd_plain ok.K (pe _ h).1 (pe _ h).2⟩
  | .cmp op a b, X, S, W, ee, τ, ok => by
    have pe : ∀ t, ck S t (.cmp op a b) ee = some τ → SndE g F G X S W (.cmp op a b) ee τ ∧ SndT g F G X S W (.cmp op a b) ee := fun t h => by
      unfold ck at h
      obtain ⟨v, hv, h⟩ := bind_some h
      obtain ⟨ta, h1, h⟩ := bind_some h
      obtain ⟨tb, h2, h⟩ := bind_some h
      obtain ⟨c, rfl⟩ := gd_ok h
      obtain ⟨p, rfl⟩ := vwCmp_ok hv
      simp only [Bool.and_eq_true, Bool.not_eq_true'] at c
      have pa := (ck_ok a X S W _ _ ok).1 h1
      have pb := (ck_ok b X S W _ _ ok).1 h2
      exact ⟨c_cmp (cop_ok ok.K ok.u64 c.1) c.2 pa pb, p_cmp (cop_ok ok.K ok.u64 c.1) c.2 pa pb, fun z => nomatch z⟩
    exact ⟨fun h => (pe _ h).1, fun h => (pe _ h).2⟩
  | .chn op op' a b c, X, S, W, ee, τ, ok => by
    have pe : ∀ t, ck S t (.chn op op' a b c) ee = some τ → SndE g F G X S W (.chn op op' a b c) ee τ ∧ SndT g F G X S W (.chn op op' a b c) ee := fun t h => by
      unfold ck at h
      obtain ⟨v, hv, h⟩ := bind_some h
      obtain ⟨ta, h1, h⟩ := bind_some h
      obtain ⟨tb, h2, h⟩ := bind_some h
      obtain ⟨tc, h3, h⟩ := bind_some h
      obtain ⟨q, rfl⟩ := gd_ok h
      obtain ⟨p, rfl⟩ := vwChn_ok hv
      simp only [Bool.and_eq_true, Bool.not_eq_true'] at q
      have pa := (ck_ok a X S W _ _ ok).1 h1
      have pb := (ck_ok b X S W _ _ ok).1 h2
      have pc := (ck_ok c X S W _ _ ok).1 h3
      exact ⟨c_chn (cop_ok ok.K ok.u64 q.1.1) (cop_ok ok.K ok.u64 q.1.2) q.2 pa pb pc, p_chn (cop_ok ok.K ok.u64 q.1.1) (cop_ok ok.K ok.u64 q.1.2) q.2 pa pb pc, fun z => nomatch z⟩
    exact ⟨fun h => (pe _ h).1, fun h => (pe _ h).2⟩
  | .and a b, X, S, W, ee, τ, ok => by
    refine ⟨fun h => ?_, fun h => ?_⟩
    all_goals
      unfold ck at h
      obtain ⟨v, hv, h⟩ := bind_some h
      obtain ⟨ta, h1, h⟩ := bind_some h
      obtain ⟨tb, h2, h⟩ := map_some h
      subst h
      obtain ⟨x, r, p, rfl, e2⟩ := vwBoo_ok hv
    · have pb := husk_e ((ck_ok b X S W _ _ ok).1 h2)
      rw [e2] at pb
      exact c_and ok.K ((ck_ok a X S W _ _ ok).1 h1) pb
    · have pb := husk_t (by rw [e2]; rfl) ((ck_ok b X S W _ _ ok).2 h2)
      rw [e2] at pb
      have w := w_and ((ck_ok a X S W _ _ ok).2 h1).1 pb
      exact ⟨w.pt, fun _ => w⟩
  | .or a b, X, S, W, ee, τ, ok => by
    refine ⟨fun h => ?_, fun h => ?_⟩
    all_goals
      unfold ck at h
      obtain ⟨v, hv, h⟩ := bind_some h
      obtain ⟨ta, h1, h⟩ := bind_some h
      obtain ⟨tb, h2, h⟩ := map_some h
      subst h
      obtain ⟨x, r, p, rfl, e2⟩ := vwBoo_ok hv
    · have pb := husk_e ((ck_ok b X S W _ _ ok).1 h2)
      rw [e2] at pb
      exact c_or ok.K ((ck_ok a X S W _ _ ok).1 h1) pb
    · have pb := husk_t (by rw [e2]; rfl) ((ck_ok b X S W _ _ ok).2 h2)
      rw [e2] at pb
      have w := w_or ((ck_ok a X S W _ _ ok).2 h1).1 pb
      exact ⟨w.pt, fun _ => w⟩
  | .not a, X, S, W, ee, τ, ok => by
    refine ⟨fun h => ?_, fun h => ?_⟩
    all_goals
      unfold ck at h
      obtain ⟨v, hv, h⟩ := bind_some h
      obtain ⟨ta, h1, h⟩ := bind_some h
      obtain ⟨c, rfl⟩ := gd_ok h
      obtain ⟨p, rfl⟩ := vwUn_ok hv
      obtain ⟨o, x⟩ := v
      rw [decide_eq_true_eq] at c
      simp only at c
      subst c
    · exact c_not ok.K ((ck_ok a X S W _ _ ok).1 h1)
    · exact ⟨p_not ((ck_ok a X S W _ _ ok).2 h1).1, fun z => nomatch z⟩
  | .ite c a b, X, S, W, ee, τ, ok => by
    refine ⟨fun h => ?_, fun h => ?_⟩
    all_goals
      unfold ck at h
      obtain ⟨v, hv, h⟩ := bind_some h
      obtain ⟨tc, h1, h⟩ := bind_some h
      obtain ⟨ta, h2, h⟩ := bind_some h
      obtain ⟨tb, h3, h⟩ := bind_some h
      obtain ⟨q, rfl⟩ := gd_ok h
      obtain ⟨p, rfl⟩ := vwIte_ok hv
    · exact c_ite ((ck_ok c X S W _ _ ok).2 h1).1 ((ck_ok a X S W _ _ ok).1 h2) ((ck_ok b X S W _ _ ok).1 h3)
    · cases q
  | .neg a, X, S, W, ee, τ, ok => by
    have pe : ∀ t, ck S t (.neg a) ee = some τ → SndE g F G X S W (.neg a) ee τ ∧ plainTest ee = true := fun t h => by
      unfold ck at h
      obtain ⟨v, hv, h⟩ := bind_some h
      obtain ⟨ta, h1, h⟩ := bind_some h
      obtain ⟨c, rfl⟩ := gd_ok h
      obtain ⟨p, rfl⟩ := vwUn_ok hv
      obtain ⟨o, x⟩ := v
      rw [decide_eq_true_eq] at c
      simp only at c
      subst c
      exact ⟨c_neg ((ck_ok a X S W _ _ ok).1 h1), rfl⟩
    exact ⟨fun h => (pe _ h).1, fun h => snd_plain ok.K (pe _ h).1 (pe _ h).2⟩
  | .tup es, X, S, W, ee, τ, ok => by
    have pe : ∀ t, ck S t (.tup es) ee = some τ → SndE g F G X S W (.tup es) ee τ ∧ plainTest ee = true := fun t h => by
      unfold ck at h
      obtain ⟨v, hv, h⟩ := bind_some h
      obtain ⟨kl, h1, h⟩ := bind_some h
      obtain ⟨c, rfl⟩ := gd_ok h
      obtain ⟨k, p, rfl⟩ := vwTup_ok hv
      exact ⟨c_tup (of_decide_eq_true c) (ckA_ok es X S W _ _ ok h1).1, rfl⟩
    exact ⟨fun h => (pe _ h).1, fun h => snd_plain ok.K (pe _ h).1 (pe _ h).2⟩
  | .lst es, X, S, W, ee, τ, ok => by
    have pe : ∀ t, ck S t (.lst es) ee = some τ → SndE g F G X S W (.lst es) ee τ ∧ plainTest ee = true := fun t h => by
      unfold ck at h
      obtain ⟨v, hv, h⟩ := bind_some h
      obtain ⟨kl, h1, h⟩ := bind_some h
      obtain ⟨c, rfl⟩ := gd_ok h
      obtain ⟨p, rfl⟩ := vwLst_ok hv
      exact ⟨c_lst (of_decide_eq_true c) (ckA_ok es X S W _ _ ok h1).1, rfl⟩
    exact ⟨fun h => (pe _ h).1, fun h => snd_plain ok.K (pe _ h).1 (pe _ h).2⟩
  | .nn, X, S, W, ee, τ, ok => by
    have pe : ∀ t, ck S t (.nn) ee = some τ → SndE g F G X S W (.nn) ee τ ∧ plainTest ee = true := fun t h => by
      unfold ck at h
      obtain ⟨v, hv, h2⟩ := bind_some h
      split at h2
      · obtain ⟨p, rfl⟩ := vwLst_ok hv
        cases h2
        exact ⟨c_nn, rfl⟩
      · cases h2
    exact ⟨fun h => (pe _ h).1, fun h => snd_plain ok.K (pe _ h).1 (pe _ h).2⟩
  | .ix a b, X, S, W, ee, τ, ok => by
    have pe : ∀ t, ck S t (.ix a b) ee = some τ → SndE g F G X S W (.ix a b) ee τ ∧ plainTest ee = true := fun t h => by
      unfold ck at h
      obtain ⟨v, hv, h⟩ := bind_some h
      obtain ⟨ta, h1, h⟩ := bind_some h
      obtain ⟨tb, h2, h⟩ := bind_some h
      obtain ⟨c, rfl⟩ := gd_ok h
      obtain ⟨p, rfl⟩ := vwSub_ok hv
      rw [Bool.not_eq_true'] at c
      exact ⟨c_ix ok.K c ((ck_ok a X S W _ _ ok).1 h1) ((ck_ok b X S W _ _ ok).1 h2), rfl⟩
    exact ⟨fun h => (pe _ h).1, fun h => snd_plain ok.K (pe _ h).1 (pe _ h).2⟩
  | .sl a lo hi, X, S, W, ee, τ, ok => by
    have pe : ∀ t, ck S t (.sl a lo hi) ee = some τ → SndE g F G X S W (.sl a lo hi) ee τ ∧ plainTest ee = true := fun t h => by
      unfold ck at h
      obtain ⟨⟨x, y⟩, hv, h⟩ := bind_some h
      obtain ⟨w, hw, h⟩ := bind_some h
      obtain ⟨ta, h1, h⟩ := bind_some h
      obtain ⟨tl, h2, h⟩ := bind_some h
      obtain ⟨th, h3, rfl⟩ := map_some h
      obtain ⟨p, rfl⟩ := vwSub_ok hv
      obtain ⟨p', e⟩ := vwSl_ok hw
      simp only at e
      subst e
      exact ⟨c_sl ok.K ((ck_ok a X S W _ _ ok).1 h1) ((ck_ok lo X S W _ _ ok).1 h2) ((ck_ok hi X S W _ _ ok).1 h3), rfl⟩
    exact ⟨fun h => (pe _ h).1, fun h => snd_plain ok.K (pe _ h).1 (pe _ h).2⟩
  | .slo a lo, X, S, W, ee, τ, ok => by
    have pe : ∀ t, ck S t (.slo a lo) ee = some τ → SndE g F G X S W (.slo a lo) ee τ ∧ plainTest ee = true := fun t h => by
      unfold ck at h
      obtain ⟨⟨x, y⟩, hv, h⟩ := bind_some h
      obtain ⟨w, hw, h⟩ := bind_some h
      obtain ⟨ta, h1, h⟩ := bind_some h
      obtain ⟨tl, h2, rfl⟩ := map_some h
      obtain ⟨p, rfl⟩ := vwSub_ok hv
      obtain ⟨p', e⟩ := vwSlo_ok hw
      simp only at e
      subst e
      exact ⟨c_slo ok.K ((ck_ok a X S W _ _ ok).1 h1) ((ck_ok lo X S W _ _ ok).1 h2), rfl⟩
    exact ⟨fun h => (pe _ h).1, fun h => snd_plain ok.K (pe _ h).1 (pe _ h).2⟩
  | .shi a hi, X, S, W, ee, τ, ok => by
    have pe : ∀ t, ck S t (.shi a hi) ee = some τ → SndE g F G X S W (.shi a hi) ee τ ∧ plainTest ee = true := fun t h => by
      unfold ck at h
      obtain ⟨⟨x, y⟩, hv, h⟩ := bind_some h
      obtain ⟨w, hw, h⟩ := bind_some h
      obtain ⟨ta, h1, h⟩ := bind_some h
      obtain ⟨tl, h2, rfl⟩ := map_some h
      obtain ⟨p, rfl⟩ := vwSub_ok hv
      obtain ⟨p', e⟩ := vwShi_ok hw
      simp only at e
      subst e
      exact ⟨c_shi ok.K ((ck_ok a X S W _ _ ok).1 h1) ((ck_ok hi X S W _ _ ok).1 h2), rfl⟩
    exact ⟨fun h => (pe _ h).1, fun h => snd_plain ok.K (pe _ h).1 (pe _ h).2⟩
  | .rev a, X, S, W, ee, τ, ok => by
    have pe : ∀ t, ck S t (.rev a) ee = some τ → SndE g F G X S W (.rev a) ee τ ∧ plainTest ee = true := fun t h => by
      unfold ck at h
      obtain ⟨⟨x, y⟩, hv, h⟩ := bind_some h
      obtain ⟨ta, h1, h⟩ := bind_some h
      obtain ⟨c, rfl⟩ := gd_ok h
      obtain ⟨p, rfl⟩ := vwSub_ok hv
      obtain ⟨k, p1, p2, p3, e⟩ := vwRev_ok c
      simp only at e
      subst e
      exact ⟨c_rev ((ck_ok a X S W _ _ ok).1 h1), rfl⟩
    exact ⟨fun h => (pe _ h).1, fun h => snd_plain ok.K (pe _ h).1 (pe _ h).2⟩
  | .call f es, X, S, W, ee, τ, ok => by
    have pe : ∀ t, ck S t (.call f es) ee = some τ → SndE g F G X S W (.call f es) ee τ ∧ plainTest ee = true := fun t h => by
      unfold ck at h
      obtain ⟨⟨x, l⟩, hv, h⟩ := bind_some h
      obtain ⟨kl, h1, h⟩ := bind_some h
      obtain ⟨⟨f', kl', ty⟩, h2, h⟩ := bind_some h
      obtain ⟨c, rfl⟩ := gd_ok h
      obtain ⟨p, p', rfl⟩ := vwCall_ok hv
      simp only [Bool.and_eq_true, decide_eq_true_eq] at c
      obtain ⟨⟨c1, rfl⟩, rfl⟩ := c
      obtain ⟨g1, g2, _⟩ := gN_ok ok c1
      obtain ⟨pa, ns⟩ := ckA_ok es X S W _ _ ok h1
      obtain ⟨d, _⟩ := ok.sig _ _ _ _ h2
      match l, es, pa, ns, h1 with
      | [], .nil, pa, ns, h1 =>
        simp only [ckA, Option.some.injEq] at h1
        subst h1
        exact ⟨c_call0 d ok.room ok.guards ok.tk g1 g2, rfl⟩
      | e :: r, es, pa, ns, h1 => exact ⟨c_call d ok.room ok.guards ok.tk g1 g2 ns pa, rfl⟩
      | [], .cons _ _, pa, ns, h1 => simp [ckA] at h1
    exact ⟨fun h => (pe _ h).1, fun h => snd_plain ok.K (pe _ h).1 (pe _ h).2⟩
  | .star f a, X, S, W, ee, τ, ok => by
    have pe : ∀ t, ck S t (.star f a) ee = some τ → SndE g F G X S W (.star f a) ee τ ∧ plainTest ee = true := fun t h => by
      unfold ck at h
      obtain ⟨⟨x, l⟩, hv, h⟩ := bind_some h
      split at h
      · rename_i y hy
        obtain ⟨z, h0, h⟩ := bind_some h
        obtain ⟨ta, h1, h⟩ := bind_some h
        obtain ⟨⟨f', kl', ty⟩, h2, h⟩ := bind_some h
        obtain ⟨c, rfl⟩ := gd_ok h
        obtain ⟨p, p', rfl⟩ := vwCall_ok hv
        obtain ⟨p2, rfl⟩ := vwStar_ok h0
        simp only at hy
        subst hy
        simp only [Bool.and_eq_true, decide_eq_true_eq] at c
        obtain ⟨⟨⟨c1, rfl⟩, c2⟩, c3⟩ := c
        obtain ⟨g1, g2, _⟩ := gN_ok ok c1
        obtain ⟨d, b⟩ := ok.sig _ _ _ _ h2
        rw [c2] at d
        exact ⟨c_star ok.K d b c3 ok.room ok.guards ok.tk g1 g2 ((ck_ok a X S W _ _ ok).1 h1), rfl⟩
      · cases h
    exact ⟨fun h => (pe _ h).1, fun h => snd_plain ok.K (pe _ h).1 (pe _ h).2⟩
  | .bi b es, X, S, W, ee, τ, ok => by
    have pe : ∀ t, ck S t (.bi b es) ee = some τ → SndE g F G X S W (.bi b es) ee τ ∧ plainTest ee = true := fun t h => by
      unfold ck at h
      split at h
      · rename_i hb
        subst hb
        obtain ⟨⟨x, y⟩, hv, h⟩ := bind_some h
        split at h
        · rename_i sp a _
          obtain ⟨ta, h1, h⟩ := bind_some h
          obtain ⟨c, rfl⟩ := gd_ok h
          obtain ⟨j, p, ap, cp, rfl, hl⟩ := vwJoin_ok hv
          simp only [Bool.and_eq_true, decide_eq_true_eq, List.all_eq_true] at c
          exact ⟨c_join c.1.1 c.1.2 c.2 hl ((ck_ok a X S W _ _ ok).1 h1), rfl⟩
        · cases h
      · split at h
        · rename_i hb
          subst hb
          obtain ⟨⟨x, l⟩, hv, h⟩ := bind_some h
          split at h
          · rename_i a _
            obtain ⟨y, hy, h⟩ := bind_some h
            obtain ⟨⟨x2, l2⟩, hv2, h⟩ := bind_some h
            obtain ⟨z, hz, h⟩ := bind_some h
            obtain ⟨ta, h1, h⟩ := bind_some h
            obtain ⟨c, rfl⟩ := gd_ok h
            obtain ⟨p, p', rfl⟩ := vwCall_ok hv
            obtain ⟨p2, p2', rfl⟩ := vwCall_ok hv2
            have hy := only1_ok hy
            have hz := only1_ok hz
            simp only at hy hz
            subst hy hz
            simp only [Bool.and_eq_true, decide_eq_true_eq] at c
            obtain ⟨⟨⟨⟨c1, rfl⟩, c3⟩, rfl⟩, c5⟩ := c
            obtain ⟨g1, _, _, g4⟩ := oN_ok ok c1
            obtain ⟨k1, _, _, k4⟩ := oN_ok ok c3
            exact ⟨c_sortSet ok.K ok.units g1 g4 k1 k4 ok.calm c5 ((ck_ok a X S W _ _ ok).1 h1), rfl⟩
          · cases h
        obtain ⟨⟨x, l⟩, hv, h⟩ := bind_some h
        obtain ⟨kl, h1, h⟩ := bind_some h
        obtain ⟨⟨k, nm, ty⟩, h2, h⟩ := bind_some h
        obtain ⟨c, rfl⟩ := gd_ok h
        obtain ⟨p, p', rfl⟩ := vwCall_ok hv
        simp only [Bool.and_eq_true, decide_eq_true_eq] at c
        obtain ⟨⟨c1, rfl⟩, c3⟩ := c
        obtain ⟨g1, g2, g3, g4⟩ := oN_ok ok c1
        obtain ⟨pa, ns⟩ := ckA_ok es X S W _ _ ok h1
        match l, c3, pa, ns with
        | e :: r, _, pa, ns =>
          cases k
          · obtain ⟨bo, bv⟩ := bi_ok ok h2
            exact ⟨c_biB bo g1 g4 bv g3 g2 ns pa, rfl⟩
          · obtain ⟨bo, bv⟩ := bt_ok ok h2
            exact ⟨c_biT bo g1 g4 bv g3 g2 ns pa, rfl⟩
        | [], c3, _, _ => cases c3
    exact ⟨fun h => (pe _ h).1, fun h => snd_plain ok.K (pe _ h).1 (pe _ h).2⟩
  | .isi a k, X, S, W, ee, τ, ok => by
    have pe : ∀ t, ck S t (.isi a k) ee = some τ → SndE g F G X S W (.isi a k) ee τ ∧ plainTest ee = true := fun t h => by
      unfold ck at h
      obtain ⟨⟨x, l⟩, hv, h⟩ := bind_some h
      split at h
      · rename_i y z hy
        obtain ⟨T, h0, h⟩ := bind_some h
        obtain ⟨ta, h1, h⟩ := bind_some h
        obtain ⟨c, rfl⟩ := gd_ok h
        obtain ⟨p, p', rfl⟩ := vwCall_ok hv
        obtain ⟨p2, rfl⟩ := vwName_ok h0
        simp only at hy
        subst hy
        simp only [Bool.and_eq_true, decide_eq_true_eq] at c
        obtain ⟨⟨⟨⟨⟨c1, rfl⟩, c2⟩, c3⟩, rfl⟩, c5⟩ := c
        obtain ⟨g1, g2, g3, g4⟩ := oN_ok ok c1
        obtain ⟨k1, k2, k3, k4⟩ := oN_ok ok c3
        exact ⟨c_isi ok.K c2 g1 g4 k1 k4 (isN_ok k) k3 k2 c5 ((ck_ok a X S W _ _ ok).1 h1), rfl⟩
      · cases h
    exact ⟨fun h => (pe _ h).1, fun h => snd_plain ok.K (pe _ h).1 (pe _ h).2⟩
  | .pick i m, X, S, W, ee, τ, ok => by
    have pe : ∀ t, ck S t (.pick i m) ee = some τ → SndE g F G X S W (.pick i m) ee τ ∧ plainTest ee = true := fun t h => by
      unfold ck at h
      obtain ⟨⟨x, l⟩, hv, h⟩ := bind_some h
      split at h
      · rename_i y z hy
        obtain ⟨T, h0, h⟩ := bind_some h
        obtain ⟨ta, h1, h⟩ := bind_some h
        obtain ⟨c, rfl⟩ := gd_ok h
        obtain ⟨p, p', rfl⟩ := vwCall_ok hv
        obtain ⟨p2, rfl⟩ := vwName_ok h0
        simp only at hy
        subst hy
        simp only [Bool.and_eq_true] at c
        obtain ⟨⟨⟨c1, c2⟩, c3⟩, c4⟩ := c
        exact ⟨c_pick ok c1 c2 c3 c4 ((ck_ok m X S W _ _ ok).1 h1), rfl⟩
      · cases h
    exact ⟨fun h => (pe _ h).1, fun h => snd_plain ok.K (pe _ h).1 (pe _ h).2⟩
  | .sc own tg it cs x, X, S, W, ee, τ, ok => by
    have pe : ∀ t, ck S t (.sc own tg it cs x) ee = some τ → SndE g F G X S W (.sc own tg it cs x) ee τ ∧ plainTest ee = true := fun t h => by
      unfold ck at h
      obtain ⟨⟨nm, l⟩, hv0, h⟩ := bind_some h
      split at h
      · rename_i y hy
        obtain ⟨⟨elt, te, iter, ifs, scope⟩, hv, h⟩ := bind_some h
        obtain ⟨j, h1, h⟩ := bind_some h
        obtain ⟨u, h2, h⟩ := bind_some h
        obtain ⟨tx, h3, h⟩ := bind_some h
        obtain ⟨c, rfl⟩ := gd_ok h
        obtain ⟨p0, p0', rfl⟩ := vwCall_ok hv0
        obtain ⟨p, rfl⟩ := vwSc_ok hv
        simp only at hy
        subst hy
        simp only [Bool.and_eq_true, decide_eq_true_eq, List.all_eq_true] at c
        obtain ⟨⟨⟨⟨⟨⟨⟨⟨c1, c2⟩, c3⟩, c4⟩, c5⟩, c6⟩, c7⟩, c8⟩, rfl⟩ := c
        obtain ⟨g1, _, _, g4⟩ := oN_ok ok c8
        have pe := c_sortSc (g := g) (F := F) (G := G) (W := W) (ks := S.ks) (f := tx.fr) (cs := cs) (e := x) (t := tg) (it := it) (own := ownOf S own) (pos := p) (p := p0) (pos2 := p0') ok.K ok.units g1 g4 ok.calm ok.nd c1 (ckI_ok it X S W _ _ _ ok h1) (blkOk_by (by rw [ok.N, ok.sc]; exact c3)) (fun i hi => by rw [c2]; simpa using c5 i hi) (fold_ok c4)
          (fun s H C cl fp => ckG_ok (S := S.blk scope) (ok.blk s H scope C cl fp) c6) (fun s H C cl fp => ckC_ok cs _ (S.blk scope) _ _ (ok.blk s H scope C cl fp) h2)
          (fun s H C cl fp => by
            have := (ck_ok x _ (S.blk scope) _ _ _ (ok.blk s H scope C cl fp)).1 h3
            unfold SndE at this
            rw [← c7]
            exact this)
        rw [c2] at pe
        exact ⟨pe, rfl⟩
      · cases h
    exact ⟨fun h => (pe _ h).1, fun h => snd_plain ok.K (pe _ h).1 (pe _ h).2⟩
  | .lc own tg it cs x, X, S, W, ee, τ, ok => by
    have pe : ∀ t, ck S t (.lc own tg it cs x) ee = some τ → SndE g F G X S W (.lc own tg it cs x) ee τ ∧ plainTest ee = true := fun t h => by
      unfold ck at h
      obtain ⟨⟨elt, te, iter, ifs, scope⟩, hv, h⟩ := bind_some h
      obtain ⟨j, h1, h⟩ := bind_some h
      obtain ⟨u, h2, h⟩ := bind_some h
      obtain ⟨tx, h3, h⟩ := bind_some h
      obtain ⟨c, rfl⟩ := gd_ok h
      obtain ⟨p, rfl⟩ := vwLc_ok hv
      simp only [Bool.and_eq_true, decide_eq_true_eq, List.all_eq_true] at c
      obtain ⟨⟨⟨⟨⟨⟨c1, c2⟩, c3⟩, c4⟩, c5⟩, c6⟩, c7⟩ := c
      have pe := c_lc (g := g) (F := F) (G := G) (W := W) (ks := S.ks) (f := tx.fr) (cs := cs) (e := x) (t := tg) (it := it) (own := ownOf S own) (pos := p) ok.calm ok.nd c1 (ckI_ok it X S W _ _ _ ok h1) (blkOk_by (by rw [ok.N, ok.sc]; exact c3)) (fun i hi => by rw [c2]; simpa using c5 i hi) (fold_ok c4)
        (fun s H C cl fp => ckG_ok (S := S.blk scope) (ok.blk s H scope C cl fp) c6) (fun s H C cl fp => ckC_ok cs _ (S.blk scope) _ _ (ok.blk s H scope C cl fp) h2)
        (fun s H C cl fp => by
          have := (ck_ok x _ (S.blk scope) _ _ _ (ok.blk s H scope C cl fp)).1 h3
          unfold SndE at this
          rw [← c7]
          exact this)
      rw [c2] at pe
      exact ⟨pe, rfl⟩
    exact ⟨fun h => (pe _ h).1, fun h => snd_plain ok.K (pe _ h).1 (pe _ h).2⟩
theorem ckA_ok : ∀ (es : Es) (X : Cx) (S : SC) (W : WX) (l : List Expr) (kl : List Nat), OkX X g n F G S W → ckA S es l = some kl → PA X l (rdA g W S.ks kl (evEs F G es)) ∧ l.all notStar = true
  | .nil, X, S, W, l, kl, ok, h => by
    match l, h with
    | [], h =>
      simp only [ckA, Option.some.injEq] at h
      subst h
      exact ⟨a_nil, rfl⟩
    | _ :: _, h => simp [ckA] at h
  | .cons a es, X, S, W, l, kl, ok, h => by
    match l, h with
    | [], h => simp [ckA] at h
    | e :: r, h =>
      unfold ckA at h
      obtain ⟨t, h1, h⟩ := bind_some h
      obtain ⟨kl', h2, h⟩ := bind_some h
      obtain ⟨c, rfl⟩ := gd_ok h
      obtain ⟨p1, p2⟩ := ckA_ok es X S W _ _ ok h2
      exact ⟨a_cons c ((ck_ok a X S W _ _ ok).1 h1) p1, by rw [List.all_cons, c, p2]; rfl⟩
theorem ckC_ok : ∀ (es : Es) (X : Cx) (S : SC) (W : WX) (l : List Expr), OkX X g n F G S W → ∀ {u : Unit}, ckC S es l = some u → PTs X l (rdT g W S.ks (evC F G es))
  | .nil, X, S, W, l, ok, u, h => by
    match l, h with
    | [], h => exact tests_nil
    | _ :: _, h => simp [ckC] at h
  | .cons a .nil, X, S, W, l, ok, u, h => by
    match l, h with
    | [], h => simp [ckC] at h
    | [e], h =>
      unfold ckC at h
      obtain ⟨t, h1, h⟩ := map_some h
      exact tests_one ((ck_ok a X S W _ _ ok).2 h1).1
    | _ :: _ :: _, h => simp [ckC] at h
  | .cons a (.cons _ _), X, S, W, l, ok, u, h => by simp [ckC] at h
theorem ckI_ok : ∀ (it : It) (X : Cx) (S : SC) (W : WX) (e tg : Expr) (j : Nat), OkX X g n F G S W → ckI S it e tg = some j → PI X tg e (rdI g W S.ks j (evI F G it))
  | .e a, X, S, W, e, tg, j, ok, h => by
    unfold ckI at h
    obtain ⟨t, h1, rfl⟩ := map_some h
    exact i_seq ok.K ((ck_ok a X S W _ _ ok).1 h1)
  | .r1 a, X, S, W, e, tg, j, ok, h => by
    unfold ckI at h
    obtain ⟨⟨x, l⟩, hv, h2⟩ := bind_some h
    obtain ⟨p, p', rfl⟩ := vwCall_ok hv
    split at h2
    · rename_i y hy
      simp only at hy
      subst hy
      obtain ⟨ta, h1, h⟩ := bind_some h2
      obtain ⟨c, rfl⟩ := gd_ok h
      simp only [Bool.and_eq_true, decide_eq_true_eq] at c
      obtain ⟨⟨c1, rfl⟩, c2⟩ := c
      obtain ⟨g1, g2, g3, g4⟩ := oN_ok ok c1
      exact i_r1 g1 g4 c2 ((ck_ok a X S W _ _ ok).1 h1)
    · cases h2
  | .r2 a b, X, S, W, e, tg, j, ok, h => by
    unfold ckI at h
    obtain ⟨⟨x, l⟩, hv, h2⟩ := bind_some h
    obtain ⟨p, p', rfl⟩ := vwCall_ok hv
    split at h2
    · rename_i y z hy
      simp only at hy
      subst hy
      obtain ⟨ta, h1, h⟩ := bind_some h2
      obtain ⟨tb, h3, h⟩ := bind_some h
      obtain ⟨c, rfl⟩ := gd_ok h
      simp only [Bool.and_eq_true, decide_eq_true_eq] at c
      obtain ⟨⟨⟨c1, rfl⟩, c2⟩, c3⟩ := c
      obtain ⟨g1, g2, g3, g4⟩ := oN_ok ok c1
      exact i_r2 g1 g4 c2 c3 ((ck_ok a X S W _ _ ok).1 h1) ((ck_ok b X S W _ _ ok).1 h3)
    · cases h2
  | .en a, X, S, W, e, tg, j, ok, h => by
    unfold ckI at h
    obtain ⟨⟨x, l⟩, hv, h2⟩ := bind_some h
    obtain ⟨p, p', rfl⟩ := vwCall_ok hv
    split at h2
    · rename_i y hy
      simp only at hy
      subst hy
      obtain ⟨ta, h1, h⟩ := bind_some h2
      obtain ⟨c, rfl⟩ := gd_ok h
      simp only [Bool.and_eq_true, decide_eq_true_eq, Option.isSome_iff_exists] at c
      obtain ⟨⟨⟨⟨c1, rfl⟩, c2⟩, c3⟩, w, c4⟩ := c
      obtain ⟨k, p2, rfl⟩ := vwTup_ok c4
      obtain ⟨g1, g2, g3, g4⟩ := oN_ok ok c1
      exact i_en ok.K c3 g1 g4 c2 ((ck_ok a X S W _ _ ok).1 h1)
    · cases h2
  | .zip a b, X, S, W, e, tg, j, ok, h => by
    unfold ckI at h
    obtain ⟨⟨x, l⟩, hv, h2⟩ := bind_some h
    obtain ⟨p, p', rfl⟩ := vwCall_ok hv
    split at h2
    · rename_i y z hy
      simp only at hy
      subst hy
      obtain ⟨ta, h1, h⟩ := bind_some h2
      obtain ⟨tb, h3, h⟩ := bind_some h
      obtain ⟨c, rfl⟩ := gd_ok h
      simp only [Bool.and_eq_true, decide_eq_true_eq, Option.isSome_iff_exists] at c
      obtain ⟨⟨⟨⟨⟨⟨c1, rfl⟩, c2⟩, c3⟩, c4⟩, c5⟩, w, c6⟩ := c
      obtain ⟨k, p2, rfl⟩ := vwTup_ok c6
      obtain ⟨g1, g2, g3, g4⟩ := oN_ok ok c1
      exact i_zip ok.K c4 c5 g1 g4 c2 c3 ((ck_ok a X S W _ _ ok).1 h1) ((ck_ok b X S W _ _ ok).1 h3)
    · cases h2
end
end O
end

section
set_option Elab.async false
set_option linter.all false
set_option maxRecDepth 100000
set_option maxHeartbeats 4000000
namespace O
open PySem PySem.Spec PyProof.Rows L2
variable {g : Gx} {n : Nat} {F : Nat → List D → OS → R D} {G : Nat → D} {fu : Nat} {X : Cx} {S : SC} {EX : XK}
/-! ### stores whose order is not the plain one -/
def isComp : Expr → Bool
  | .ListComp .. | .SetComp .. | .DictComp .. => true
  | _ => false
theorem sw_plain {e : Expr} {t : Option Expr} {l : Nat} {env : PySem.Env} (h : isComp e = false) : swapsWith e t l env = Pure.pure false := by
  cases e <;> first | (simp [isComp] at h; done) | rfl
/-- a comprehension stored at once -/
def swLc (sc : Scope) : Expr → Expr → Bool
  | .ListComp _ _ s p, .Name t q => decide (sc.names.lookup t = some .local) && (q.line == p.line) && !(s.names.any fun (m, k) => m == t && (k == .local || k == .cell))
  | _, _ => false
def isLC : Expr → Bool
  | .ListComp .. => true
  | _ => false
theorem sw_lc {e t : Expr} {l : Nat} {env : PySem.Env} (hk : env.scope.kind = .function) (hl : isLC e = true ∨ isComp e = false) : swapsWith e (some t) l env = Pure.pure (swLc env.scope e t) := by
  rcases hl with hl | hl
  · cases e <;> first | (simp [isLC] at hl; done) | skip
    rename_i elt gs s p
    cases t <;> first | rfl | skip
    rename_i y q
    have hb : env.blockKind = .function := by unfold PySem.Env.blockKind; rw [hk]; rfl
    unfold swapsWith swLc
    simp only [hb]
    have e1 : (env.kindOf y == some NameKind.local) = decide (env.scope.names.lookup y = some .local) := by
      unfold PySem.Env.kindOf
      cases h : env.scope.names.lookup y with
      | none => rfl
      | some k => cases k <;> rfl
    rw [e1]
    rfl
  · rw [sw_plain hl]
    cases e <;> first | rfl | (simp [isComp] at hl; done)
def swNames (sc : Scope) (ts : List Expr) : List PySem.Str :=
  let line := (ts.head?.map (·.pos.line)).getD 0
  ts.filterMap fun
    | .Name id pos => if sc.names.lookup id == some .local && pos.line == line then some id else none
    | _ => none
def swS (sc : Scope) (ts vs : List Expr) : Option (Option (List PySem.Str)) :=
  if !(ts.length == 2 || ts.length == 3) || vs.length != ts.length then some none
  else if vs.any (fun | .Starred .. => true | _ => false) then some none
  else if (swNames sc ts).length != ts.length || (swNames sc ts).eraseDups.length != (swNames sc ts).length then some none
  else if vs.all (foldedForSure 8) then some none
  else if vs.all (constantsAlone 8) then none
  else some (some (swNames sc ts))
theorem swS_ok {ts vs : List Expr} {k k2 : Nat} {p p2 : Pos} {env : PySem.Env} {r : Option (List PySem.Str)} (hk : env.scope.kind = .function) (h : swS env.scope ts vs = some r) : swappedStores [.Tuple ts k p] (.Tuple vs k2 p2) env = Pure.pure r := by
  have hb : (env.blockKind != .function) = false := by unfold PySem.Env.blockKind; rw [hk]; rfl
  unfold swS at h
  unfold swappedStores
  simp only [hb, Bool.or_false]
  split at h
  · rename_i c; cases h; rw [if_pos c]
  · rename_i c
    rw [if_neg c]
    split at h
    · rename_i c2; cases h; exact if_pos c2
    · rename_i c2
      refine (if_neg c2).trans ?_
      split at h
      · rename_i c3; cases h; exact if_pos c3
      · rename_i c3
        refine (if_neg c3).trans ?_
        split at h
        · rename_i c4; cases h; exact if_pos c4
        · rename_i c4
          refine (if_neg c4).trans ?_
          split at h
          · cases h
          · rename_i c5; cases h; exact if_neg c5
theorem sw_name {t : PySem.Str} {p : Pos} {e : Expr} {env : PySem.Env} : swappedStores [.Name t p] e env = Pure.pure none := by
  cases e <;> rfl
theorem sw_tup {ts : List Expr} {k : Nat} {p : Pos} {e : Expr} {env : PySem.Env} (h : vwTup e = none) : swappedStores [.Tuple ts k p] e env = Pure.pure none := by
  cases e <;> first | rfl | (simp [vwTup] at h)

/-! ### the checker: statements -/
structure SX where
  S : SC
  ms : Nat → Nat
  rt : Ty
  exn : PySem.Str → Option Nat
  /-- the classes that an except clause names -/
  cat : PySem.Str → Nat → Bool
def SX.x (T : SX) : Fx := ⟨T.S.ks, T.ms, T.rt⟩
structure OkS (X : Cx) (g : Gx) (n : Nat) (F : Nat → List D → OS → R D) (G : Nat → D) (T : SX) (EX : XK) : Prop where
  x : OkX X g n F G T.S (wx EX)
  kind : T.S.sc.kind = .function
  pass : PassesOwn (model X.prog X.w) X.A X.env X.xe
  stk : X.stack = X.env :: X.outer
  frm : X.env.frame = some X.env.locals
  own : ∀ j, T.ms j ≠ 0 → T.S.ks j = T.ms j
  exn : ∀ y c, T.exn y = some c → gN T.S y = true → Rz X (g.ct c) y
  rzT : ∀ y c, T.exn y = some c → gN T.S y = true → ∀ pn xe, Rz (X.tr pn xe) (g.ct c) y
  cat : ∀ y c, T.cat y c = true → gN T.S y = true → ∃ v, Names X y v ∧ PySem.W.exmOne X.K (g.ct c) v = some true
theorem OkX.tr {W : WX} (ok : OkX X g n F G S W) {W' : WX} (pn : List (Addr × Obj)) (xe : Value → Shared → Prop) (tk : Takes (X.tr pn xe) W') : OkX (X.tr pn xe) g n F G S W' :=
  ⟨ok.K, ok.N, ok.nd, ok.calm, ok.sc, ok.fn, ok.units, ok.guards, ok.room, ok.outs, fun y f kl τ h => ⟨⟨(ok.sig y f kl τ h).1.it⟩, (ok.sig y f kl τ h).2⟩, ok.glo, fun y h => ⟨(ok.pk y h).it⟩, ok.kd, tk⟩
/-- plain slots: no one's own, lent to no one -/
def plainN (T : SX) (l : List Nat) : Bool := l.all fun j => (T.ms j == 0) && (T.S.ks j == 0)
theorem plainN_ok {T : SX} {l : List Nat} (h : plainN T l = true) : ∀ j ∈ l, T.x.ms j = 0 ∧ T.x.ks j = 0 := fun j hj => by
  have := List.all_eq_true.mp h j hj
  simp only [Bool.and_eq_true, beq_iff_eq] at this
  exact this
/-- name.append(e) -/
def vwApp : Expr → Option (Expr × Expr)
  | .Call (.Attribute o m ap) [e] [] cp => if m = "append" ∧ (ap.endLine == cp.line) = true then some (o, e) else none
  | _ => none
theorem vwApp_ok {e : Expr} {v : Expr × Expr} (h : vwApp e = some v) : ∃ ap cp, e = .Call (.Attribute v.1 "append" ap) [v.2] [] cp ∧ (ap.endLine == cp.line) = true := by
  unfold vwApp at h
  split at h
  · split at h
    · rename_i z; cases h; obtain ⟨rfl, z⟩ := z; exact ⟨_, _, rfl, z⟩
    · cases h
  · cases h
/-- values for several names -/
def ckTs (T : SX) : List Nat → Es → List Expr → Option (List Ty)
  | [], .nil, [] => some []
  | i :: is, .cons a es, e :: r => (ck T.S false a e).bind fun t => (ckTs T is es r).bind fun ts =>
      if T.ms i = 0 then gd (notStar e && decide (t.k = 0) && decide (T.S.ks i = 0)) (⟨0, 0⟩ :: ts) else gd (notStar e && decide (t.fr = T.ms i) && decide (T.ms i ≤ T.S.ks i)) (t :: ts)
  | _, _, _ => none
theorem ckTs_ok {T : SX} {W : WX} (ok : OkX X g n F G T.S W) : ∀ {is : List Nat} {es : Es} {l : List Expr} {tys : List Ty}, ckTs T is es l = some tys → PA X l (rdAT g W T.S.ks tys (evEs F G es)) ∧ is.length = tys.length ∧ ∀ p ∈ is.zip tys, fits T.x p.1 p.2 = true
  | [], .nil, [], tys, h => by
    simp only [ckTs, Option.some.injEq] at h; subst h
    exact ⟨t_nil, rfl, by simp⟩
  | i :: is, .cons a es, e :: r, tys, h => by
    unfold ckTs at h
    obtain ⟨t, h1, h⟩ := bind_some h
    obtain ⟨ts, h2, h⟩ := bind_some h
    obtain ⟨p1, p2, p3⟩ := ckTs_ok ok h2
    have pe := (ck_ok a X T.S W _ _ ok).1 h1
    split at h
    · rename_i c0
      obtain ⟨c, rfl⟩ := gd_ok h
      simp only [Bool.and_eq_true, decide_eq_true_eq] at c
      refine ⟨t_cons c.1.1 (pe_weak pe (by rw [c.1.2]; exact Nat.le_refl 0)) p1, by simp [p2], fun p hp => ?_⟩
      rcases List.mem_cons.mp (by simpa using hp) with e | hp
      · subst e
        have c2 : T.x.ks i = 0 := c.2
        have c3 : T.x.ms i = 0 := c0
        simp [fits, c2, c3]
      · exact p3 p hp
    · rename_i c0
      obtain ⟨c, rfl⟩ := gd_ok h
      simp only [Bool.and_eq_true, decide_eq_true_eq] at c
      refine ⟨t_cons c.1.1 pe p1, by simp [p2], fun p hp => ?_⟩
      rcases List.mem_cons.mp (by simpa using hp) with e | hp
      · subst e
        have c2 : T.x.ms i ≤ T.x.ks i := c.2
        have c3 : T.x.ms i ≠ 0 := c0
        have c4 : t.fr = T.x.ms i := c.1.2
        simp [fits, c2, c3, c4]
      · exact p3 p hp
  | [], .cons _ _, _, _, h => by simp [ckTs] at h
  | [], .nil, _ :: _, _, h => by simp [ckTs] at h
  | _ :: _, .nil, _, _, h => by simp [ckTs] at h
  | _ :: _, .cons _ _, [], _, h => by simp [ckTs] at h
/-- names of plain locals, as targets -/
def ckNs (T : SX) : List Nat → List Expr → Bool
  | [], [] => true
  | i :: is, e :: r => (match vwName e with | some y => decide (T.S.N[i]? = some y) && decide (T.S.sc.names.lookup y = some .local) | none => false) && ckNs T is r
  | _, _ => false
def namesOf (T : SX) (is : List Nat) : List PySem.Str := is.filterMap fun i => T.S.N[i]?
/-- an except suite: return a constant, or store one -/
def ckH (T : SX) : Sts → List Stmt → Bool
  | .cons (.ret (.con d)) .nil, [.Return (some e) _] => conOk d e && (T.rt.fr == 0)
  | .cons (.asg (.nm i) (.con d)) .nil, [.Assign [e] v _] => conOk d v && ckG T.S (.nm i) e && plainN T [i] && !isComp v
  | .cons .cnt .nil, [.Continue _] => true
  | .cons .pas .nil, [.Pass _] => true
  | _, _ => false
def isName : Expr → Bool
  | .Name .. => true
  | _ => false
/-- a target whose store is the plain one -/
def tgtOk (T : SX) (tg ee : Expr) : Bool := match vwTup tg with
  | none => isName tg
  | some ts => (match vwTup ee with | none => true | some vs => decide (swS T.S.sc ts vs = some none))
def ckAsgS (T : SX) (t : Tg) (e : E) : Stmt → Bool
  | .Assign [tg] ee p => match ck T.S false e ee with
    | some ty => if swLc T.S.sc ee tg then (match t, tg, e with
        | .nm i, .Name y q, .lc _ _ _ _ _ => decide (T.S.N[i]? = some y) && plainN T [i] && decide (ty.k = 0) && isLC ee
        | _, _, _ => false)
      else tgtOk T tg ee && (isLC ee || !isComp ee) && ckG T.S t tg &&
        ((plainN T (tgN t) && decide (ty.k = 0)) || (match t with | .nm i => decide (T.ms i ≠ 0) && decide (ty.fr = T.ms i) | _ => false))
    | none => false
  | _ => false
def ckParS (T : SX) (is : List Nat) (es : Es) : Stmt → Bool
  | .Assign [.Tuple ts _ _] (.Tuple vs _ _) _ => (ckTs T is es vs).isSome && ckNs T is ts && decide (swS T.S.sc ts vs = some (some (namesOf T is))) && decide (is.Nodup) && (decide (is.length = 2) || decide (is.length = 3))
  | _ => false
def ckAugS (T : SX) (i : Nat) (op : Bop) (e : E) : Stmt → Bool
  | .AugAssign (.Name y q) pop ee _ => (ck T.S false e ee).isSome && plainN T [i] && ckG T.S (.nm i) (.Name y q) && ((decide (op = .add) && decide (pop = .Add)) || (decide (op = .sub) && decide (pop = .Sub)))
  | _ => false
def ckAppS (T : SX) (i : Nat) (e : E) : Stmt → Bool
  | .Expr ee _ => (match vwApp ee with
    | some (o, x) => (match vwName o, ck T.S false e x with
      | some y, some t => vN T.S i y && decide (T.ms i = 1) && decide (t.k = 0) && notStar x
      | _, _ => false)
    | none => false)
  | _ => false
def ckAppNS (T : SX) (i : Nat) : Stmt → Bool
  | .Expr ee _ => (match vwApp ee with
    | some (o, .List [] _) => (match vwName o with
      | some y => vN T.S i y && decide (T.ms i = 2)
      | _ => false)
    | _ => false)
  | _ => false
def ckAppLS (T : SX) (i : Nat) (e : E) : Stmt → Bool
  | .Expr ee _ => (match vwApp ee with
    | some (o, x) => (match vwSub o, ck T.S false e x with
      | some (o1, o2), some t => vwM1 o2 && (match vwName o1 with
        | some y => vN T.S i y && decide (T.ms i = 2) && decide (t.k = 0) && notStar x
        | none => false)
      | _, _ => false)
    | none => false)
  | _ => false
def ckPopTS (T : SX) (i a b : Nat) (e : E) : Stmt → Bool
  | .Assign [.Tuple [.Name w pw, .Name y py] _ _] (.Tuple [.Call (.Name tn tp) [.Call (.Attribute (.Name z pz) m ap) [] [] cp] [] cp2, ee] _ _) _ => (match ck T.S false e ee with
    | some t => decide (T.ms i = 2) && decide (t.k = 0) && decide (a ≠ b) && plainN T [a, b] && decide (T.S.N[a]? = some w) && decide (T.S.N[b]? = some y) && decide (T.S.sc.names.lookup w = some .local) && decide (T.S.sc.names.lookup y = some .local) &&
        vN T.S i z && decide (m = "pop") && decide (tn = "tuple") && oN T.S tn && (ap.endLine == cp.line) && notStar ee && decide (swS T.S.sc [.Name w pw, .Name y py] [.Call (.Name tn tp) [.Call (.Attribute (.Name z pz) m ap) [] [] cp] [] cp2, ee] = some (some [w, y]))
    | none => false)
  | _ => false
def ckRetS (T : SX) (e : E) : Stmt → Bool
  | .Return (some ee) _ => (match ck T.S false e ee with
    | some t => (decide (t.k ≤ T.rt.k) && (decide (T.rt.fr = 0) || decide (T.rt.fr = t.fr))) || (match e, vwName ee with
      | .var j, some _ => decide (T.ms j ≠ 0) && (decide (T.rt.fr = 0) || decide (T.rt.fr = T.ms j))
      | _, _ => false)
    | none => false)
  | _ => false
def ckRaiS (T : SX) (c : Nat) (e : E) : Stmt → Bool
  | .Raise (some (.Call (.Name y _) [ea] [] _)) none _ => (ck T.S false e ea).isSome && notStar ea && gN T.S y && decide (T.exn y = some c)
  | _ => false
def ckBrkS (T : SX)  : Stmt → Bool
  | .Break _ => true
  | _ => false
def ckCntS (T : SX)  : Stmt → Bool
  | .Continue _ => true
  | _ => false
def ckPasS (T : SX)  : Stmt → Bool
  | .Pass _ => true
  | _ => false
def ckExpS (T : SX) (e : E) : Stmt → Bool
  | .Expr ee _ => (ck T.S false e ee).isSome && !isComp ee
  | _ => false
def ckTryRS (T : SX) (t : Tg) (e : E) (c : Nat) (h : Sts) : Stmt → Bool
  | .Try [.Assign [tg] ee _] [.ExceptHandler (some (.Name cn _)) none (b₀ :: suite) _] [] [] _ => (match ck T.S false e ee with
    | some ty => decide (ty.k = 0) && plainN T (tgN t) && ckG T.S t tg && T.cat cn c && gN T.S cn && !isComp ee && tgtOk T tg ee && ckH T h (b₀ :: suite)
    | none => false)
  | _ => false
def vwIf : Stmt → Option (Expr × List Stmt × List Stmt)
  | .If c a b _ => some (c, a, b)
  | _ => none
theorem vwIf_ok {e : Stmt} {v : Expr × List Stmt × List Stmt} (h : vwIf e = some v) : ∃ p, e = .If v.1 v.2.1 v.2.2 p := by
  cases e <;> first | (simp [vwIf] at h; done) | (simp only [vwIf, Option.some.injEq] at h; subst h; exact ⟨_, rfl⟩)
def vwFor : Stmt → Option (Expr × Expr × List Stmt)
  | .For t i b [] _ => some (t, i, b)
  | _ => none
theorem vwFor_ok {e : Stmt} {v : Expr × Expr × List Stmt} (h : vwFor e = some v) : ∃ p, e = .For v.1 v.2.1 v.2.2 [] p := by
  unfold vwFor at h
  split at h <;> first | (cases h; exact ⟨_, rfl⟩) | cases h
def vwWhile : Stmt → Option (Expr × List Stmt)
  | .While c b [] _ => some (c, b)
  | _ => none
theorem vwWhile_ok {e : Stmt} {v : Expr × List Stmt} (h : vwWhile e = some v) : ∃ p, e = .While v.1 v.2 [] p := by
  unfold vwWhile at h
  split at h <;> first | (cases h; exact ⟨_, rfl⟩) | cases h
mutual
def ckS (T : SX) : O.St → Stmt → Bool
  | .never, _ => false
  | .asg t e, st => ckAsgS T t e st
  | .par is es, st => ckParS T is es st
  | .aug i op e, st => ckAugS T i op e st
  | .app i e, st => ckAppS T i e st
  | .appN i, st => ckAppNS T i st
  | .appL i e, st => ckAppLS T i e st
  | .popT i a b e, st => ckPopTS T i a b e st
  | .ret e, st => ckRetS T e st
  | .rai c e, st => ckRaiS T c e st
  | .brk , st => ckBrkS T  st
  | .cnt , st => ckCntS T  st
  | .pas , st => ckPasS T  st
  | .exp e, st => ckExpS T e st
  | .tryR t e c h, st => ckTryRS T t e c h st
  | .setAt _ _ _, _ => false
  | .iff c a b, st => match vwIf st with
    | some v => (ck T.S true c v.1).isSome && ckSs T a v.2.1 && ckSs T b v.2.2
    | none => false
  | .forr t it b, st => match vwFor st with
    | some v => (match ckI T.S it v.2.1 v.1 with | some j => decide (j = 0) | none => false) && plainN T (tgN t) && notSet v.2.1 && ckG T.S t v.1 && ckSs T b v.2.2
    | none => false
  | .whil c b, st => match vwWhile st with
    | some v => (ck T.S true c v.1).isSome && ckSs T b v.2
    | none => false
def ckSs (T : SX) : Sts → List Stmt → Bool
  | .nil, [] => true
  | .cons a b, st :: r => ckS T a st && ckSs T b r
  | _, _ => false
end
end O
end

section
set_option Elab.async false
set_option linter.all false
set_option maxRecDepth 100000
set_option maxHeartbeats 4000000
namespace O
open PySem PySem.Spec PyProof.Rows L2
variable {g : Gx} {n : Nat} {F : Nat → List D → OS → R D} {G : Nat → D} {fu : Nat} {X : Cx} {S : SC} {EX : XK} {T : SX}
theorem ckNm {W : WX} (ok : OkX X g n F G S W) {i : Nat} {e : Expr} (h : ckG S (.nm i) e = true) : ∃ y p, e = .Name y p ∧ X.N[i]? = some y ∧ L2.Loc X.env.scope y ∧ (X.fn y = true ∨ X.env.scope.names.lookup y = some .local) := by
  unfold ckG at h
  split at h
  · rename_i x hx
    obtain ⟨p, rfl⟩ := vwName_ok hx
    simp only [Bool.and_eq_true, decide_eq_true_eq, Bool.or_eq_true] at h
    obtain ⟨⟨h1, h2⟩, h3⟩ := h
    refine ⟨x, p, rfl, by rw [ok.N]; exact h1, ?_, ?_⟩
    · unfold L2.Loc
      rw [ok.sc]
      unfold isLoc at h2
      split at h2 <;> first | (cases h2; done) | simp_all
    · rcases h3 with h3 | h3
      · exact .inl (ok.fn x h3)
      · exact .inr (by rw [ok.sc]; exact h3)
  · cases h
/-- name = [..] at once -/
theorem c_setLc {i : Nat} {y : PySem.Str} {py spos : Pos} {W : WX} {own : List Nat} {tg : Tg} {it : It} {cs : Es} {x : E} {ee : Expr} {τ : Ty} (ok : OkX X g n F G S W) (h : ck S false (.lc own tg it cs x) ee = some τ) (hy : X.N[i]? = some y) (hyl : X.env.scope.names.lookup y = some .local)
    (hsw : swapsWith ee (some (.Name y py)) spos.line X.env = Pure.pure true) : PS X (.Assign [.Name y py] ee spos) (tAsg (rdE g W S.ks τ (evE F G (.lc own tg it cs x))) (gName i)) := by
  unfold ck at h
  obtain ⟨⟨elt, te, iter, ifs, scope⟩, hv, h⟩ := bind_some h
  obtain ⟨j, h1, h⟩ := bind_some h
  obtain ⟨u, h2, h⟩ := bind_some h
  obtain ⟨tx, h3, h⟩ := bind_some h
  obtain ⟨c, rfl⟩ := gd_ok h
  obtain ⟨p, rfl⟩ := vwLc_ok hv
  simp only [Bool.and_eq_true, decide_eq_true_eq, List.all_eq_true] at c
  obtain ⟨⟨⟨⟨⟨⟨c1, c2⟩, c3⟩, c4⟩, c5⟩, c6⟩, c7⟩ := c
  have hsub : ∀ i ∈ tgN tg, i ∈ (ownOf S own).map (·.2) := fun i hi => by rw [c2]; simpa using c5 i hi
  refine (ps_setLc (own := ownOf S own) ok.calm ok.nd hy hyl hsw (ckI_ok it X S W _ _ _ ok h1) (blkOk_by (by rw [ok.N, ok.sc]; exact c3))
    (fun s H C cl fp => ckG_ok (S := S.blk scope) (ok.blk s H scope C cl fp) c6) (fun s H C cl fp => ckC_ok cs _ (S.blk scope) _ _ (ok.blk s H scope C cl fp) h2)
    (fun s H C cl fp => (ck_ok x _ (S.blk scope) _ _ _ (ok.blk s H scope C cl fp)).1 h3) (fold_ok c4)).of fun D σ H ⟨env, o, A, a, z⟩ => ?_
  unfold evE at z
  refine ⟨env, o, A, a, z.bind.mono (fun ds o1 hd J H1 e1 or1 hit P hP => ?_) fun _ _ z => z⟩
  have a1 := a.next e1 or1
  rw [← c2] at hd
  refine lc_walk (f := tx.fr) (tt := rdT g WN S.ks (evC F G cs)) (te := rdE g WN S.ks tx (evE F G x)) c1 hsub a1 hit hP hd.bind (fun _ _ _ _ z => z) (fun _ _ _ z => z) (fun _ _ _ z => by rw [← c7] at z; exact z) fun xs us o' H' hq c r eD rl => ?_
  have hM : ∀ b, b = P → H1 b = none := fun b z => by rw [z]; exact hP
  have nD := free_not a1.dom a1.or hP
  refine hq (.ref P) H' (e1.trans (c.ext hM)) r ⟨?_, fun _ => ⟨[P], ?_, by simp, fun b hb => ?_, ?_⟩⟩
  · unfold Rep
    exact ⟨P, us, rfl, eD, nD.2, fun _ => nD.1, RepL.mono (A := fun b => A b ∨ b = P) .refl (fun b z => .inl z) _ _ _ _ (Nat.le_refl _) rl⟩
  · unfold OwnR
    exact ⟨P, us, [], rfl, eD, rfl, ownL0 rl.length⟩
  · rw [List.mem_singleton.mp hb]
    exact ⟨e1.free hP, nD.2⟩
  · unfold Rep
    exact ⟨P, us, rfl, eD, nD.2, fun z => absurd z (by decide), RepL.mono (A := fun b => A b ∨ b = P) .refl (fun b (z : A b ∨ b ∈ [P]) => z.imp_right fun q => List.mem_singleton.mp q) _ _ _ _ (Nat.le_refl _) rl⟩
theorem sole {t v : Expr} {l : Nat} {env : PySem.Env} : swapsWithSole [t] v l env = swapsWith v (some t) l env := rfl
theorem ckH_ok (ok : OkS X g n F G T EX) {h : Sts} {l : List Stmt} (hh : ckH T h l = true) (a : Addr) (pn : List (Addr × Obj)) : PSs (X.suite a pn) l (rdS g T.x EX (evSs F G fu h)) := by
  unfold ckH at hh
  split at hh
  · simp only [Bool.and_eq_true, beq_iff_eq] at hh
    exact s_cons (s_ret (x := T.x) (t := ⟨0, 0⟩) (Nat.zero_le _) (.inl hh.2) (conOk_ok hh.1)) s_nil
  · simp only [Bool.and_eq_true, Bool.not_eq_true'] at hh
    obtain ⟨⟨⟨h1, h2⟩, h3⟩, h4⟩ := hh
    obtain ⟨y, p, rfl, n1, n2, n3⟩ := ckNm ok.x h2
    refine s_cons (s_asg (x := T.x) (ty := ⟨0, 0⟩) rfl (plainN_ok (l := [_]) h3) (sole.trans (sw_plain h4)) sw_name rfl (conOk_ok h1) (g_nm (X := X.suite a pn) ok.x.nd n1 n2 n3)) s_nil
  · exact s_cons s_cnt s_nil
  · exact s_cons s_pas s_nil
  · cases hh

theorem tgt_ok {tg ee : Expr} (ok : OkS X g n F G T EX) (h : tgtOk T tg ee = true) : swappedStores [tg] ee X.env = Pure.pure none ∧ notStar tg = true := by
  unfold tgtOk at h
  split at h
  · cases tg <;> first | (simp [isName] at h; done) | exact ⟨sw_name, rfl⟩
  · rename_i ts hts
    obtain ⟨k, p, rfl⟩ := vwTup_ok hts
    split at h
    · rename_i hv; exact ⟨sw_tup hv, rfl⟩
    · rename_i vs hv
      obtain ⟨k2, p2, rfl⟩ := vwTup_ok hv
      rw [decide_eq_true_eq, ← ok.x.sc] at h
      exact ⟨swS_ok (by rw [ok.x.sc]; exact ok.kind) h, rfl⟩
theorem names_ok (ok : OkS X g n F G T EX) : ∀ {is : List Nat} {ts : List Expr}, ckNs T is ts = true → ∀ {i : Nat} {k : Nat}, is[k]? = some i → ∃ y p, ts[k]? = some (.Name y p) ∧ X.N[i]? = some y ∧ X.env.scope.names.lookup y = some .local
  | [], [], h, i, k, hk => by simp at hk
  | j :: is, e :: r, h, i, k, hk => by
    unfold ckNs at h
    rw [Bool.and_eq_true] at h
    cases k with
    | zero =>
      simp at hk; subst hk
      have h1 := h.1
      split at h1
      · rename_i y hy
        obtain ⟨p, rfl⟩ := vwName_ok hy
        simp only [Bool.and_eq_true, decide_eq_true_eq] at h1
        exact ⟨y, p, rfl, by rw [ok.x.N]; exact h1.1, by rw [ok.x.sc]; exact h1.2⟩
      · cases h1
    | succ k => simpa using names_ok ok h.2 (by simpa using hk)
  | [], _ :: _, h, _, _, _ => by simp [ckNs] at h
  | _ :: _, [], h, _, _, _ => by simp [ckNs] at h
theorem cks_len : ∀ {is : List Nat} {ts : List Expr}, ckNs T is ts = true → ts.length = is.length
  | [], [], _ => rfl
  | i :: is, e :: r, h => by
    unfold ckNs at h
    rw [Bool.and_eq_true] at h
    rw [List.length_cons, List.length_cons, cks_len h.2]
  | [], _ :: _, h => by simp [ckNs] at h
  | _ :: _, [], h => by simp [ckNs] at h
theorem ckTs_len : ∀ {is : List Nat} {es : Es} {l : List Expr} {tys : List Ty}, ckTs T is es l = some tys → l.length = is.length
  | [], .nil, [], _, _ => rfl
  | i :: is, .cons a es, e :: r, tys, h => by
    unfold ckTs at h
    obtain ⟨t, h1, h⟩ := bind_some h
    obtain ⟨ts, h2, h⟩ := bind_some h
    rw [List.length_cons, List.length_cons, ckTs_len h2]
  | [], .cons _ _, _, _, h => by simp [ckTs] at h
  | [], .nil, _ :: _, _, h => by simp [ckTs] at h
  | _ :: _, .nil, _, _, h => by simp [ckTs] at h
  | _ :: _, .cons _ _, [], _, h => by simp [ckTs] at h
theorem par_ok (ok : OkS X g n F G T EX) {is : List Nat} {es : Es} {ts vs : List Expr} {k k2 : Nat} {p p2 p3 : Pos} (h1 : (ckTs T is es vs).isSome = true) (h2 : ckNs T is ts = true) (h3 : swS T.S.sc ts vs = some (some (namesOf T is))) (h4 : is.Nodup) (h5 : is.length = 2 ∨ is.length = 3) :
    PS X (.Assign [.Tuple ts k p] (.Tuple vs k2 p2) p3) (rdS g T.x EX (evS F G fu (.par is es))) := by
  obtain ⟨tys, ht⟩ := Option.isSome_iff_exists.mp h1
  obtain ⟨pa, tl, ft⟩ := ckTs_ok ok.x ht
  have vl := ckTs_len ht
  have nl := cks_len h2
  have sw := swS_ok (k := k) (k2 := k2) (p := p) (p2 := p2) (env := X.env) (by rw [ok.x.sc]; exact ok.kind) (by rw [ok.x.sc]; exact h3)
  rcases h5 with h5 | h5
  · match is, ts, vs, tys, h5, vl, nl, tl with
    | [i, j], [a, b], [c, d], [t1, t2], _, _, _, _ =>
      obtain ⟨y, py, e1, n1, l1⟩ := names_ok ok h2 (k := 0) (i := i) rfl
      obtain ⟨z, pz, e2, n2, l2⟩ := names_ok ok h2 (k := 1) (i := j) rfl
      simp at e1 e2
      subst e1 e2
      have nm : namesOf T [i, j] = [y, z] := by simp [namesOf, ← ok.x.N, n1, n2]
      rw [nm] at sw
      exact s_par2 ok.x.calm ok.x.nd n1 n2 (by simp at h4; exact h4) l1 l2 pa sw (ft (i, t1) (by simp)) (ft (j, t2) (by simp))
  · match is, ts, vs, tys, h5, vl, nl, tl with
    | [i, j, l], [a, b, c], [d, e, f], [t1, t2, t3], _, _, _, _ =>
      obtain ⟨y, py, e1, n1, l1⟩ := names_ok ok h2 (k := 0) (i := i) rfl
      obtain ⟨z, pz, e2, n2, l2⟩ := names_ok ok h2 (k := 1) (i := j) rfl
      obtain ⟨w, pw, e3, n3, l3⟩ := names_ok ok h2 (k := 2) (i := l) rfl
      simp at e1 e2 e3
      subst e1 e2 e3
      have nm : namesOf T [i, j, l] = [y, z, w] := by simp [namesOf, ← ok.x.N, n1, n2, n3]
      rw [nm] at sw
      simp at h4
      exact s_par3 ok.x.calm ok.x.nd n1 n2 n3 h4.1.1 h4.1.2 h4.2 l1 l2 l3 pa sw (ft (i, t1) (by simp)) (ft (j, t2) (by simp)) (ft (l, t3) (by simp))
end O
end

section
set_option Elab.async false
set_option linter.all false
set_option maxRecDepth 100000
set_option maxHeartbeats 4000000
namespace O
open PySem PySem.Spec PyProof.Rows L2
variable {g : Gx} {n : Nat} {F : Nat → List D → OS → R D} {G : Nat → D} {fu : Nat}
mutual
theorem ckS_ok : ∀ (c : O.St) (X : Cx) (T : SX) (EX : XK) (st : Stmt), OkS X g n F G T EX → ckS T c st = true → PS X st (rdS g T.x EX (evS F G fu c))
  | .never, X, T, EX, st, ok, h => by simp [ckS] at h
  | .asg t e, X, T, EX, st, ok, h => by
    unfold ckS ckAsgS at h
    split at h
    case h_2 => cases h
    case h_1 tg ee p =>
      split at h
      case h_2 => cases h
      case h_1 ty hty =>
        have pe := (ck_ok e X T.S (wx EX) _ _ ok.x).1 hty
        have kd : X.env.scope.kind = .function := by rw [ok.x.sc]; exact ok.kind
        split at h
        case isTrue hsw =>
          split at h
          case h_2 => cases h
          case h_1 i y q own tg' it' cs' x' =>
            simp only [Bool.and_eq_true, decide_eq_true_eq] at h
            obtain ⟨⟨⟨h1, h2⟩, h3⟩, h4⟩ := h
            have hyl : X.env.scope.names.lookup y = some .local := by
              rw [ok.x.sc]
              unfold swLc at hsw
              split at hsw
              · rename_i he; cases he
                simp only [Bool.and_eq_true, decide_eq_true_eq] at hsw
                exact hsw.1.1
              · cases hsw
            have sw := sw_lc (l := p.line) (t := .Name y q) kd (.inl h4)
            rw [ok.x.sc, hsw] at sw
            exact s_asgLc (x := T.x) (plainN_ok h2 i (by simp)) h3 (c_setLc ok.x hty (by rw [ok.x.N]; exact h1) hyl sw)
        case isFalse hsw =>
          simp only [Bool.and_eq_true] at h
          obtain ⟨⟨⟨h1, h2⟩, h3⟩, h4⟩ := h
          obtain ⟨ss, ns⟩ := tgt_ok ok h1
          have sw : swapsWith ee (some tg) p.line X.env = Pure.pure false := by
            rw [sw_lc kd (by simpa using h2), ok.x.sc]
            rw [Bool.not_eq_true] at hsw
            rw [hsw]
          rw [Bool.or_eq_true] at h4
          rcases h4 with h4 | h4
          · simp only [Bool.and_eq_true, decide_eq_true_eq] at h4
            exact s_asg (x := T.x) h4.2 (plainN_ok h4.1) (sole.trans sw) ss ns pe (ckG_ok ok.x h3)
          · split at h4
            case h_2 => cases h4
            case h_1 i =>
              simp only [Bool.and_eq_true, decide_eq_true_eq] at h4
              obtain ⟨y, q, rfl, n1, n2, n3⟩ := ckNm ok.x h3
              exact s_own (x := T.x) h4.1 h4.2 (by rw [show T.x.ks i = T.x.ms i from ok.own i h4.1]; exact Nat.le_refl _) (ps_asg pe (pg_name ok.x.nd n1 n2 n3) (sole.trans sw) ss rfl)
  | .par is es, X, T, EX, st, ok, h => by
    unfold ckS ckParS at h
    split at h
    case h_2 => cases h
    case h_1 ts k p vs k2 p2 p3 =>
      simp only [Bool.and_eq_true, Bool.or_eq_true, decide_eq_true_eq] at h
      obtain ⟨⟨⟨⟨h1, h2⟩, h3⟩, h4⟩, h5⟩ := h
      exact par_ok ok h1 h2 h3 h4 h5
  | .aug i op e, X, T, EX, st, ok, h => by
    unfold ckS ckAugS at h
    split at h
    case h_2 => cases h
    case h_1 y q pop ee p =>
      simp only [Bool.and_eq_true, Bool.or_eq_true, decide_eq_true_eq] at h
      obtain ⟨⟨⟨h1, h2⟩, h3⟩, h4⟩ := h
      obtain ⟨ty, hty⟩ := Option.isSome_iff_exists.mp h1
      have pe := (ck_ok e X T.S (wx EX) _ _ ok.x).1 hty
      obtain ⟨y', q', e1, n1, n2, n3⟩ := ckNm ok.x h3
      cases e1
      rcases h4 with ⟨rfl, rfl⟩ | ⟨rfl, rfl⟩
      · exact s_aug (x := T.x) (plainN_ok h2 i (by simp)) ip_addD ok.x.nd n1 n2 n3 pe
      · exact s_aug (x := T.x) (plainN_ok h2 i (by simp)) ip_subD ok.x.nd n1 n2 n3 pe
  | .app i e, X, T, EX, st, ok, h => by
    unfold ckS ckAppS at h
    split at h
    case h_2 => cases h
    case h_1 ee p =>
      split at h
      case h_2 => cases h
      case h_1 o x ho =>
        split at h
        case h_2 => cases h
        case h_1 y t hy hty =>
          simp only [Bool.and_eq_true, decide_eq_true_eq] at h
          obtain ⟨⟨⟨h1, h2⟩, h3⟩, h4⟩ := h
          obtain ⟨ap, cp, rfl, hl⟩ := vwApp_ok ho
          obtain ⟨py, hy⟩ := vwName_ok hy
          try simp only at hy
          subst hy
          obtain ⟨v1, v2, v3, v4⟩ := vN_ok ok.x h1
          exact s_app (x := T.x) ok.own h2 h3 v1 v2 v3 v4 hl h4 ((ck_ok e X T.S (wx EX) _ _ ok.x).1 hty)
  | .appN i, X, T, EX, st, ok, h => by
    unfold ckS ckAppNS at h
    split at h
    case h_2 => cases h
    case h_1 ee p =>
      split at h
      case h_2 => cases h
      case h_1 o lp ho =>
        split at h
        case h_2 => cases h
        case h_1 y hy =>
          simp only [Bool.and_eq_true, decide_eq_true_eq] at h
          obtain ⟨ap, cp, rfl, hl⟩ := vwApp_ok ho
          obtain ⟨py, hy⟩ := vwName_ok hy
          try simp only at hy
          subst hy
          obtain ⟨v1, v2, v3, v4⟩ := vN_ok ok.x h.1
          exact s_appN (x := T.x) ok.own h.2 v1 v2 v3 v4 hl
  | .appL i e, X, T, EX, st, ok, h => by
    unfold ckS ckAppLS at h
    split at h
    case h_2 => cases h
    case h_1 ee p =>
      split at h
      case h_2 => cases h
      case h_1 o x ho =>
        split at h
        case h_2 => cases h
        case h_1 o1 o2 t hs hty =>
          rw [Bool.and_eq_true] at h
          obtain ⟨h0, h⟩ := h
          split at h
          case h_2 => cases h
          case h_1 y hy =>
            simp only [Bool.and_eq_true, decide_eq_true_eq] at h
            obtain ⟨⟨⟨h1, h2⟩, h3⟩, h4⟩ := h
            obtain ⟨ap, cp, rfl, hl⟩ := vwApp_ok ho
            obtain ⟨sp, hs⟩ := vwSub_ok hs
            try simp only at hs
            subst hs
            obtain ⟨py, rfl⟩ := vwName_ok hy
            obtain ⟨kc, p1, p2, rfl⟩ := vwM1_ok h0
            obtain ⟨v1, v2, v3, v4⟩ := vN_ok ok.x h1
            exact s_appL (x := T.x) ok.own h2 h3 v1 v2 v3 v4 hl h4 ((ck_ok e X T.S (wx EX) _ _ ok.x).1 hty)
  | .popT i a b e, X, T, EX, st, ok, h => by
    unfold ckS ckPopTS at h
    split at h
    case h_2 => cases h
    case h_1 =>
      split at h
      case h_2 => cases h
      case h_1 t hty =>
        simp only [Bool.and_eq_true, decide_eq_true_eq] at h
        obtain ⟨⟨⟨⟨⟨⟨⟨⟨⟨⟨⟨⟨⟨⟨h1, h2⟩, h3⟩, h4⟩, h5⟩, h6⟩, h7⟩, h8⟩, h9⟩, rfl⟩, rfl⟩, h12⟩, h13⟩, h14⟩, h15⟩ := h
        obtain ⟨v1, v2, v3, v4⟩ := vN_ok ok.x h9
        obtain ⟨g1, g2, g3, g4⟩ := oN_ok ok.x h12
        exact s_popT (x := T.x) ok.own ok.x.calm ok.x.nd h1 h2 (by rw [ok.x.N]; exact h5) (by rw [ok.x.N]; exact h6) h3 (plainN_ok h4 _ (by simp)) (plainN_ok h4 _ (by simp)) (by rw [ok.x.sc]; exact h7) (by rw [ok.x.sc]; exact h8) v1 v2 v3 v4 h13 g1 g4 h14 ((ck_ok e X T.S (wx EX) _ _ ok.x).1 hty) (swS_ok (by rw [ok.x.sc]; exact ok.kind) (by rw [ok.x.sc]; exact h15))
  | .ret e, X, T, EX, st, ok, h => by
    unfold ckS ckRetS at h
    split at h
    case h_2 => cases h
    case h_1 ee p =>
      split at h
      case h_2 => cases h
      case h_1 t hty =>
        rw [Bool.or_eq_true] at h
        rcases h with h | h
        · simp only [Bool.and_eq_true, Bool.or_eq_true, decide_eq_true_eq] at h
          exact s_ret (x := T.x) h.1 h.2 ((ck_ok e X T.S (wx EX) _ _ ok.x).1 hty)
        · split at h
          case h_2 => cases h
          case h_1 j y hy =>
            obtain ⟨py, rfl⟩ := vwName_ok hy
            simp only [Bool.and_eq_true, Bool.or_eq_true, decide_eq_true_eq] at h
            unfold ck at hty
            obtain ⟨z, hz, hty⟩ := bind_some hty
            cases hz
            obtain ⟨c, _⟩ := gd_ok hty
            obtain ⟨v1, v2, v3, v4⟩ := vN_ok ok.x c
            exact s_retOwn (x := T.x) h.1 (ok.own _ h.1) h.2 v1 v2 v3 v4
  | .rai c e, X, T, EX, st, ok, h => by
    unfold ckS ckRaiS at h
    split at h
    case h_2 => cases h
    case h_1 =>
      simp only [Bool.and_eq_true, decide_eq_true_eq] at h
      obtain ⟨⟨⟨h1, h2⟩, h3⟩, h4⟩ := h
      obtain ⟨ty, hty⟩ := Option.isSome_iff_exists.mp h1
      exact s_rai (x := T.x) ok.x.calm ok.x.tk (ok.exn _ _ h4 h3) h2 ((ck_ok e X T.S (wx EX) _ _ ok.x).1 hty)
  | .iff c a b, X, T, EX, st, ok, h => by
    unfold ckS at h
    split at h
    case h_2 => cases h
    case h_1 v hv =>
      simp only [Bool.and_eq_true] at h
      obtain ⟨⟨h1, h2⟩, h3⟩ := h
      obtain ⟨ty, hty⟩ := Option.isSome_iff_exists.mp h1
      obtain ⟨p, rfl⟩ := vwIf_ok hv
      exact s_iff (x := T.x) ((ck_ok c X T.S (wx EX) _ _ ok.x).2 hty).1 (ckSs_ok a X T EX _ ok h2) (ckSs_ok b X T EX _ ok h3)
  | .forr t it b, X, T, EX, st, ok, h => by
    unfold ckS at h
    split at h
    case h_2 => cases h
    case h_1 v hv =>
      simp only [Bool.and_eq_true] at h
      obtain ⟨⟨⟨⟨h1, h2⟩, h3⟩, h4⟩, h5⟩ := h
      obtain ⟨p, rfl⟩ := vwFor_ok hv
      split at h1
      case h_2 => cases h1
      case h_1 j hj =>
        rw [decide_eq_true_eq] at h1
        exact s_for (x := T.x) h1 ok.pass ok.x.calm (plainN_ok h2) (fold_ok h3) (ckI_ok it X T.S (wx EX) _ _ _ ok.x hj) (ckG_ok ok.x h4) (ckSs_ok b X T EX _ ok h5)
  | .whil c b, X, T, EX, st, ok, h => by
    unfold ckS at h
    split at h
    case h_2 => cases h
    case h_1 v hv =>
      simp only [Bool.and_eq_true] at h
      obtain ⟨ty, hty⟩ := Option.isSome_iff_exists.mp h.1
      obtain ⟨p, rfl⟩ := vwWhile_ok hv
      exact s_while (x := T.x) ok.pass ((ck_ok c X T.S (wx EX) _ _ ok.x).2 hty).1 (ckSs_ok b X T EX _ ok h.2)
  | .brk, X, T, EX, st, ok, h => by
    unfold ckS ckBrkS at h
    split at h
    case h_2 => cases h
    case h_1 => exact s_brk
  | .cnt, X, T, EX, st, ok, h => by
    unfold ckS ckCntS at h
    split at h
    case h_2 => cases h
    case h_1 => exact s_cnt
  | .pas, X, T, EX, st, ok, h => by
    unfold ckS ckPasS at h
    split at h
    case h_2 => cases h
    case h_1 => exact s_pas
  | .setAt _ _ _, X, T, EX, st, ok, h => by simp [ckS] at h
  | .exp e, X, T, EX, st, ok, h => by
    unfold ckS ckExpS at h
    split at h
    case h_2 => cases h
    case h_1 =>
      simp only [Bool.and_eq_true, Bool.not_eq_true'] at h
      obtain ⟨ty, hty⟩ := Option.isSome_iff_exists.mp h.1
      exact s_exp (x := T.x) (sw_plain h.2) ((ck_ok e X T.S (wx EX) _ _ ok.x).1 hty)
  | .tryR t e c hd, X, T, EX, st, ok, h => by
    unfold ckS ckTryRS at h
    split at h
    case h_2 => cases h
    case h_1 tg ee ap cn np b₀ suite pos' pos =>
      split at h
      case h_2 => cases h
      case h_1 ty hty =>
        simp only [Bool.and_eq_true, decide_eq_true_eq, Bool.not_eq_true'] at h
        obtain ⟨⟨⟨⟨⟨⟨⟨h1, h2⟩, h3⟩, h4⟩, h5⟩, h6⟩, h7⟩, h8⟩ := h
        obtain ⟨v, nm, hx⟩ := ok.cat _ _ h4 h5
        obtain ⟨ss, ns⟩ := tgt_ok ok h7
        exact s_try (x := T.x) h1 (plainN_ok h2) ns ok.stk ok.frm nm hx ok.x.tk (sole.trans (sw_plain h6)) ss (fun W pn xe tk => (ck_ok e _ T.S W _ _ (ok.x.tr pn xe tk)).1 hty)
          (fun pn xe => ckG_ok (W := WN) (ok.x.tr pn xe fun u s' ⟨a, B, sI, pins, σ, H, cls, d, e, I, nb, up, sky, na, os, ag, w⟩ => w.elim) h3) (fun a pn => ckH_ok ok h8 a pn)
theorem ckSs_ok : ∀ (c : Sts) (X : Cx) (T : SX) (EX : XK) (l : List Stmt), OkS X g n F G T EX → ckSs T c l = true → PSs X l (rdS g T.x EX (evSs F G fu c))
  | .nil, X, T, EX, l, ok, h => by
    match l, h with
    | [], h => exact s_nil
    | _ :: _, h => simp [ckSs] at h
  | .cons a b, X, T, EX, l, ok, h => by
    match l, h with
    | [], h => simp [ckSs] at h
    | st :: r, h =>
      unfold ckSs at h
      rw [Bool.and_eq_true] at h
      exact s_cons (ckS_ok a X T EX _ ok h.1) (ckSs_ok b X T EX _ ok h.2)
end
end O
end

section
set_option Elab.async false
set_option linter.all false
set_option maxRecDepth 100000
set_option maxHeartbeats 4000000
namespace O
open PySem PySem.Spec PyProof.Rows L2
/-! ### a def by its text -/
/-- what is said of a def: its names (the parameters first), the lending and own depth of its slots, the lending of its arguments, its result -/
structure DI where
  x : PySem.Str
  qual : PySem.Str
  N : List PySem.Str
  ks : List Nat
  ms : List Nat
  kl : List Nat
  rt : Ty
def at0 (l : List Nat) (i : Nat) : Nat := (l[i]?).getD 0
/-- what is known of the module -/
structure MI where
  outs : List PySem.Str
  sig : PySem.Str → Option (Nat × List Nat × Ty)
  glo : PySem.Str → Option Nat
  exn : PySem.Str → Option Nat
  cat : PySem.Str → Nat → Bool
  pk : PySem.Str → Bool
  kd : PySem.Str → Option Nat
def tx (M : MI) (d : DI) (sc : Scope) : SX := ⟨⟨d.N, sc, fun _ => true, at0 d.ks, M.outs, M.sig, M.glo, M.pk, M.kd⟩, at0 d.ms, d.rt, M.exn, M.cat⟩
def ckD (M : MI) (d : DI) (fn : Fn) (st : Stmt) : Bool :=
  (match (defScope st).kind with | .function => true | _ => false) && !(defScope st).isCoroutine && !(defScope st).isGenerator && decide d.N.Nodup && decide (fn.np ≤ d.N.length) && decide (fn.ns = d.N.length) && decide (d.kl.length = fn.np) &&
  ((d.N.take fn.np).all fun x => isLoc ((defScope st).names.lookup x)) && ((defScope st).names.all fun y => decide (y.2 ≠ .free)) && ((List.range fn.np).all fun i => decide (d.kl[i]? = some (at0 d.ks i)) && decide (at0 d.ms i = 0)) &&
  ((List.range d.ms.length).all fun j => decide (at0 d.ms j = 0) || decide (at0 d.ks j = at0 d.ms j)) && (decide (d.rt.fr = 0) || !fn.fall) && ckSs (tx M d (defScope st)) fn.body (defBody st)
structure CkD (M : MI) (d : DI) (fn : Fn) (st : Stmt) : Prop where
  S : FnScope d.N (d.N.take fn.np) (defScope st)
  np : fn.np ≤ d.N.length
  ns : fn.ns = d.N.length
  kl : d.kl.length = fn.np
  par : ∀ i, i < fn.np → d.kl[i]? = some (at0 d.ks i) ∧ at0 d.ms i = 0
  own : ∀ j, at0 d.ms j ≠ 0 → at0 d.ks j = at0 d.ms j
  fall : d.rt.fr = 0 ∨ fn.fall = false
  body : ckSs (tx M d (defScope st)) fn.body (defBody st) = true
theorem ckD_ok {M : MI} {d : DI} {fn : Fn} {st : Stmt} (h : ckD M d fn st = true) : CkD M d fn st := by
  simp only [ckD, Bool.and_eq_true, Bool.not_eq_true', decide_eq_true_eq, List.all_eq_true, List.mem_range, Bool.or_eq_true] at h
  obtain ⟨⟨⟨⟨⟨⟨⟨⟨⟨⟨⟨⟨h1, h2⟩, h3⟩, h4⟩, h5⟩, h6⟩, h7⟩, h8⟩, h9⟩, h10⟩, h11⟩, h12⟩, h13⟩ := h
  refine ⟨⟨?_, h2, h3, h4, ?_, fun x hx => ?_, h9⟩, h5, h6, h7, h10, fun j hj => ?_, h12, h13⟩
  · split at h1
    · assumption
    · cases h1
  · rw [List.length_take, Nat.min_eq_left h5]
  · have := h8 x hx
    unfold isLoc at this
    split at this <;> first | (cases this; done) | (first | exact .inl (by assumption) | exact .inr (by assumption))
  · by_cases hl : j < d.ms.length
    · exact (h11 j hl).resolve_left hj
    · exfalso
      apply hj
      unfold at0
      rw [List.getElem?_eq_none (by omega)]
      rfl
/-- what holds of the module's own names, wherever a def runs -/
structure MOk (P : Program) (w : World) (K : PySem.W.Frag) (mg : PySem.Str → Option Value) (base : Heap) (g : Gx) (M : MI) (G : Nat → D) : Prop where
  kk : K = g.K
  outs : ∀ y ∈ M.outs, mg y = none
  glo : ∀ y i, M.glo y = some i → ∃ u v, mg y = some u ∧ RelV v u ∧ ∀ A H, Rep g.K g.q A 0 H v (G i)
  kd : ∀ y i, M.kd y = some i → ∀ X : Cx, X.w = w → X.K = K → X.mg = mg → KdOk X g G y i
  exn : ∀ y c, M.exn y = some c → ∀ X : Cx, X.prog = P → X.w = w → X.K = K → X.mg = mg → X.base = base → X.calm = true → X.A.guards = some [] → Room 10 X.A → Gl X y → Rz X (g.ct c) y
  cat : ∀ y c, M.cat y c = true → ∃ v, (mg y = some v ∨ (mg y = none ∧ bootBuiltins y = some v ∧ y ≠ "__name__")) ∧ PySem.W.exmOne K (g.ct c) v = some true

section
variable {P : Program} {w : World} {K : PySem.W.Frag} {mg : PySem.Str → Option Value} {base : Heap} {g : Gx} {M : MI} {G : Nat → D} {W : Nat}
/-- the slots at the entry -/
theorem start_get {N : List PySem.Str} {vs : List V} {i : Nat} {v : V} (h : vs[i]? = some v) : (L2.start N vs)[i]? = some (some v) := by
  unfold L2.start
  have hl := (List.getElem?_eq_some_iff.mp h).1
  rw [List.getElem?_append_left (by simpa using hl), List.getElem?_map, h]
  rfl
theorem env_get {ds : List D} {n i : Nat} {d : D} (h : (ds.map some ++ List.replicate n none)[i]? = some (some d)) : ds[i]? = some d := by
  by_cases hl : i < ds.length
  · rw [List.getElem?_append_left (by simpa using hl), List.getElem?_map] at h
    cases e : ds[i]? with
    | none => rw [e] at h; cases h
    | some x => rw [e] at h; cases h; rfl
  · rw [List.getElem?_append_right (by simp; omega), List.getElem?_replicate] at h
    split at h <;> cases h
theorem RepA.at {A : Addr → Prop} {H : Hp} : ∀ {kl : List Nat} {vs : List V} {ds : List D} {i : Nat} {d : D}, RepA g A H kl vs ds → ds[i]? = some d → ∃ k v, kl[i]? = some k ∧ vs[i]? = some v ∧ Rep g.K g.q A k H v d
  | [], vs, ds, i, d, ⟨_, h⟩, e => by subst h; simp at e
  | k :: kl, vs, ds, 0, d, ⟨v, r, d', e', h1, h2, h3, h4⟩, e => by
    subst h1 h2
    simp at e; subst e
    exact ⟨k, v, rfl, rfl, h3⟩
  | k :: kl, vs, ds, i + 1, d, ⟨v, r, d', e', h1, h2, h3, h4⟩, e => by
    subst h1 h2
    obtain ⟨k', v', q1, q2, q3⟩ := RepA.at h4 (i := i) (by simpa using e)
    exact ⟨k', v', by simpa using q1, by simpa using q2, q3⟩
theorem fnG_ck {d : DI} {fn : Fn} {st : Stmt} {f : Addr} {fd : FuncData} {n : Nat} {F : Nat → List D → OS → R D} (mo : MOk P w K mg base g M G) (ck : CkD M d fn st) (FF : Fun K d.x d.qual st f fd) (hn : 10 ≤ n) (pk : ∀ y, M.pk y = true → ∃ (a : Addr) (fd : FuncData) (ps : List PySem.Str), mg y = some (.ref a) ∧ PySem.W.keepIn K (.ref a) = true ∧ Binds K fd ps [] ∧ FnG P w K mg base n a fd ps (spPick g))
    (sig : ∀ y i kl τ, M.sig y = some (i, kl, τ) → (∃ (a : Addr) (fd : FuncData) (ps : List PySem.Str), mg y = some (.ref a) ∧ PySem.W.keepIn K (.ref a) = true ∧ Binds K fd ps [] ∧ FnG P w K mg base n a fd ps (spF g (F i) kl τ)) ∧ ∀ ds o, ds.length ≠ kl.length → F i ds o = .bad) :
    FnG P w K mg base (n + 1) f fd (d.N.take fn.np) (spF g (fun ds o => if ds.length = fn.np then (evSs F G W fn.body (ds.map some ++ List.replicate (fn.ns - fn.np) none) o).bind fun r o1 => match r with
          | .rt d => .ok d o1
          | .nx _ => if fn.fall then .ok .non o1 else .bad
          | _ => .bad
      else .bad) d.kl d.rt) := by
  refine fnG_of FF ck.S (fun vs H Q E ⟨ds, o, A, _, _, ra, _⟩ => ?_) fun cdv A outer s H vs Q E hr hg ⟨ds, o, A0, dom, r, ra, hp⟩ => ?_
  · rw [ra.length.1, ck.kl, List.length_take, Nat.min_eq_left ck.np]
  · have l1 := ra.length.1
    have l2 := ra.length.2
    rw [ck.kl] at l1 l2
    simp only at hp
    rw [if_pos l2] at hp
    refine ⟨_, ckSs_ok (g := g) (n := n) (F := F) (G := G) (fu := W) fn.body _ (tx M d (defScope st)) E _ ⟨⟨mo.kk, rfl, ck.S.nd, rfl, rfl, fun _ _ => rfl, ?_, hg, hr, mo.outs, fun y i kl τ h => ?_, mo.glo, fun y h => ⟨pk y h⟩, fun y i h => mo.kd y i h _ rfl rfl rfl, takes_of rfl rfl rfl rfl⟩, ck.S.kind, passes_of rfl, rfl, rfl, ck.own, fun y c h hy => ?_, fun y c h hy pn xe => ?_, fun y c h hy => ?_⟩ ck.body, ?_⟩
    · have := hr.un
      show (A.deeper (envOfC d.qual (defScope st) s.heap.objs.size f cdv)).units + 80 < cLine
      omega
    · obtain ⟨h1, h2⟩ := sig y i kl τ h
      exact ⟨⟨h1⟩, h2⟩
    · refine mo.exn y c h _ rfl rfl rfl rfl rfl rfl hg (hr.mono hn) ?_
      simp only [gN, Bool.and_eq_true, decide_eq_true_eq] at hy
      exact hy.1.1
    · refine mo.exn y c h _ rfl rfl rfl rfl rfl rfl hg (hr.mono hn) ?_
      simp only [gN, Bool.and_eq_true, decide_eq_true_eq] at hy
      exact hy.1.1
    · obtain ⟨v, h1, h2⟩ := mo.cat y c h
      simp only [gN, Bool.and_eq_true, decide_eq_true_eq, Bool.not_eq_true'] at hy
      exact ⟨v, ⟨hy.1.1, hy.1.2, h1⟩, h2⟩
    · have len : (ds.map some ++ List.replicate (fn.ns - fn.np) (none : Option D)).length = (L2.start d.N vs).length := by
        unfold L2.start
        simp only [List.length_append, List.length_map, List.length_replicate, l1, l2, ck.ns]
      refine ⟨A0, H, H, fun b => H b = none, _, o, ⟨A0, fun _ => [], ⟨⟨⟨len, fun i e he => ?_⟩, r, dom⟩, fun _ z => z, fun _ z => .inl z, fun j hj hk e he => ?_, dom, fun _ _ z => (nomatch z), fun j hj e he => ?_, fun _ => List.nodup_nil, fun _ _ _ z => (nomatch z), .refl, Ext.refl.chg, fun _ _ z => (nomatch z), fun _ z => z⟩⟩, hp.bind.mono (fun fl o1 z => ?_) fun c o1 z dd H' e1 r1 => z dd H' e1 r1⟩
      · have he := env_get he
        obtain ⟨k, v, h1, h2, h3⟩ := ra.at he
        have hi := (List.getElem?_eq_some_iff.mp he).1
        obtain ⟨p1, _⟩ := ck.par i (by omega)
        rw [p1] at h1; cases h1
        exact ⟨v, start_get h2, h3⟩
      · have he := env_get he
        obtain ⟨k, v, h1, h2, h3⟩ := ra.at he
        have hi := (List.getElem?_eq_some_iff.mp he).1
        obtain ⟨p1, _⟩ := ck.par j (by omega)
        rw [p1] at h1; cases h1
        exact ⟨v, start_get h2, h3⟩
      · have he := env_get he
        have hi := (List.getElem?_eq_some_iff.mp he).1
        exact absurd (ck.par j (by omega)).2 hj
      · cases fl with
        | nx env1 =>
          intro σ' H' i1
          obtain ⟨A1, Os1, i1⟩ := i1
          simp only at z
          split at z
          · rename_i hf
            exact z .non H' i1.grew i1.at_.or ⟨by unfold Rep; rfl, fun q => absurd (ck.fall.resolve_right (by rw [hf]; decide)) q⟩
          · exact z.elim
        | rt e => exact z
        | bk _ => exact z.elim
        | ct _ => exact z.elim

theorem fnG_bad {f : Addr} {fd : FuncData} {ps : List PySem.Str} {kl : List Nat} {τ : Ty} {n : Nat} {fe : List D → OS → R D} (hl : kl.length = ps.length) (hb : ∀ ds o, fe ds o = .bad) : FnG P w K mg base n f fd ps (spF g fe kl τ) :=
  ⟨fun vs H Q E ⟨ds, o, A, _, _, ra, _⟩ => by rw [ra.length.1, hl], fun A outer s H args us vs Q E _ _ _ _ _ ⟨ds, o, _, _, _, _, z⟩ => by rw [hb] at z; exact z.elim⟩
theorem fnG_ext {f : Addr} {fd : FuncData} {ps : List PySem.Str} {kl : List Nat} {τ : Ty} {n : Nat} {fe fe' : List D → OS → R D} (e : ∀ ds o, fe ds o = fe' ds o) (h : FnG P w K mg base n f fd ps (spF g fe kl τ)) : FnG P w K mg base n f fd ps (spF g fe' kl τ) := by
  rw [show fe' = fe from funext fun ds => funext fun o => (e ds o).symm]
  exact h
variable {fs : List Fn} {xt : Nat → List D → OS → R D} {dis : List DI}
/-- a def as it lies in the module -/
structure Lies (K : PySem.W.Frag) (mg : PySem.Str → Option Value) (M : MI) (d : DI) (fn : Fn) (st : Stmt) (f : Addr) (fd : FuncData) : Prop where
  ck : ckD M d fn st = true
  fu : Fun K d.x d.qual st f fd
  mg : mg d.x = some (.ref f)
  bi : Binds K fd (d.N.take fn.np) []
theorem fnG_all (mo : MOk P w K mg base g M G) (pk : ∀ y, M.pk y = true → ∃ (a : Addr) (fd : FuncData) (ps : List PySem.Str), mg y = some (.ref a) ∧ PySem.W.keepIn K (.ref a) = true ∧ Binds K fd ps [] ∧ ∀ n, 10 ≤ n → FnG P w K mg base n a fd ps (spPick g)) (hl : fs.length = dis.length) (defs : ∀ (i : Nat) (d : DI) (fn : Fn), dis[i]? = some d → fs[i]? = some fn → ∃ st f fd, Lies K mg M d fn st f fd)
    (sig : ∀ y i kl τ, M.sig y = some (i, kl, τ) → ∀ d, dis[i]? = some d → d.x = y ∧ d.kl = kl ∧ d.rt = τ)
    (ext : ∀ y i kl τ, M.sig y = some (i, kl, τ) → dis[i]? = none → (∃ (a : Addr) (fd : FuncData) (ps : List PySem.Str), mg y = some (.ref a) ∧ PySem.W.keepIn K (.ref a) = true ∧ Binds K fd ps [] ∧ kl.length = ps.length ∧ ∀ n, 10 ≤ n → FnG P w K mg base n a fd ps (spF g (xt i) kl τ)) ∧ ∀ ds o, ds.length ≠ kl.length → xt i ds o = .bad) :
    ∀ (k i : Nat) (d : DI) (fn : Fn), dis[i]? = some d → fs[i]? = some fn → ∃ f fd, mg d.x = some (.ref f) ∧ PySem.W.keepIn K (.ref f) = true ∧ Binds K fd (d.N.take fn.np) [] ∧ FnG P w K mg base (k + 10) f fd (d.N.take fn.np) (spF g (callF fs xt G W k i) d.kl d.rt) := by
  intro k
  induction k with
  | zero =>
    intro i d fn h1 h2
    obtain ⟨st, f, fd, L⟩ := defs i d fn h1 h2
    have c := ckD_ok L.ck
    exact ⟨f, fd, L.mg, L.fu.kp, L.bi, fnG_bad (by rw [c.kl, List.length_take, Nat.min_eq_left c.np]) fun _ _ => rfl⟩
  | succ k ih =>
    intro i d fn h1 h2
    obtain ⟨st, f, fd, L⟩ := defs i d fn h1 h2
    have c := ckD_ok L.ck
    refine ⟨f, fd, L.mg, L.fu.kp, L.bi, ?_⟩
    have main := fnG_ck (W := W) (n := k + 10) (F := callF fs xt G W k) mo c L.fu (by omega) (fun y h => by
      obtain ⟨a, fd', ps, q1, q2, q3, q4⟩ := pk y h
      exact ⟨a, fd', ps, q1, q2, q3, q4 _ (by omega)⟩) fun y j kl τ hs => by
      cases e : dis[j]? with
      | some d' =>
        obtain ⟨rfl, rfl, rfl⟩ := sig y j kl τ hs d' e
        have hj : j < fs.length := by rw [hl]; exact (List.getElem?_eq_some_iff.mp e).1
        have e2 : fs[j]? = some fs[j] := List.getElem?_eq_getElem hj
        obtain ⟨f', fd', q1, q2, q3, q4⟩ := ih j d' _ e e2
        obtain ⟨st', f2, fd2, L2⟩ := defs j d' _ e e2
        have c2 := ckD_ok L2.ck
        refine ⟨⟨f', fd', _, q1, q2, q3, q4⟩, fun ds o n => ?_⟩
        cases k with
        | zero => rfl
        | succ k =>
          unfold callF
          rw [e2]
          simp only
          rw [if_neg (by rw [← c2.kl]; exact n)]
      | none =>
        obtain ⟨⟨a, fd', ps, q1, q2, q3, q4, q5⟩, b⟩ := ext y j kl τ hs e
        have hj : fs[j]? = none := List.getElem?_eq_none (by rw [hl]; exact List.getElem?_eq_none_iff.mp e)
        cases k with
        | zero => exact ⟨⟨a, fd', ps, q1, q2, q3, fnG_bad q4 fun _ _ => rfl⟩, fun _ _ _ => rfl⟩
        | succ k =>
          have e3 : ∀ ds o, xt j ds o = callF fs xt G W (k + 1) j ds o := fun ds o => by unfold callF; rw [hj]
          exact ⟨⟨a, fd', ps, q1, q2, q3, fnG_ext e3 (q5 _ (by omega))⟩, fun ds o n => by rw [← e3]; exact b ds o n⟩
    refine fnG_ext (fun ds o => ?_) main
    conv => { rhs; unfold callF }
    rw [h2]
    try rfl
end
end O
end

section
set_option Elab.async false
set_option linter.all false
set_option maxRecDepth 100000
set_option maxHeartbeats 4000000
/-! OPick: the drawn source, its pick. -/
namespace O
open PySem PySem.Spec PyProof.Rows L2
def pickBody (p0 p1 p2 p3 p4 p5 p6 p7 p8 p9 p10 p11 p12 p13 p14 p15 p16 p17 p18 p19 p20 p21 p22 p23 p24 p25 p26 p27 p28 p29 p30 p31 p32 p33 p34 p35 p36 p37 p38 p39 p40 p41 p42 p43 p44 p45 p46 p47 p48 p49 p50 p51 p52 p53 p54 p55 p56 p57 p58 p59 p60 p61 p62 p63 p64 p65 p66 p67 p68 p69 p70 p71 p72 p73 p74 p75 p76 p77 p78 p79 p80 p81 p82 p83 p84 p85 p86 p87 p88 p89 p90 p91 p92 p93 p94 p95 p96 p97 p98 p99 : Pos) : List Stmt := [ (Stmt.If (test := (Expr.Compare (left := (Expr.Name "_law_most" p0)) (ops := [CmpOp.Lt]) (comparators := [(Expr.Constant (Const.int 2) 0 p1)]) (pos := p2))) (body := [(Stmt.Return (some (Expr.Constant (Const.int 0) 0 p3)) p4)]) (orelse := []) (pos := p5)), (Stmt.Assign (targets := [(Expr.Name "_law_cells" p6)]) (value := (Expr.Subscript (value := (Expr.Name "_law_source" p7)) (slice := (Expr.Constant (Const.str "cells") 0 p8)) (pos := p9))) (pos := p10)), (Stmt.While (test := (Expr.BoolOp (op := PySem.BoolOp.And) (values := [ (Expr.Compare (left := (Expr.Subscript (value := (Expr.Name "_law_source" p11)) (slice := (Expr.Constant (Const.str "left") 0 p12)) (pos := p13))) (ops := [CmpOp.Lt]) (comparators := [(Expr.Constant (Const.int 2) 0 p14)]) (pos := p15)), (Expr.Compare (left := (Expr.Call (func := (Expr.Name "len" p16)) (args := [(Expr.Name "_law_cells" p17)]) (keywords := []) (pos := p18))) (ops := [CmpOp.Gt]) (comparators := [(Expr.Constant (Const.int 0) 0 p19)]) (pos := p20))]) (pos := p21))) (body := [ (Stmt.Assign (targets := [ (Expr.Subscript (value := (Expr.Name "_law_source" p22)) (slice := (Expr.Constant (Const.str "left") 0 p23)) (pos := p24))]) (value := (Expr.Call (func := (Expr.Attribute (Expr.Name "_law_cells" p25) "pop" p26)) (args := []) (keywords := []) (pos := p27))) (pos := p28))]) (orelse := []) (pos := p29)), (Stmt.Assign (targets := [(Expr.Name "_law_others" p30)]) (value := (Expr.Subscript (value := (Expr.Name "_law_source" p31)) (slice := (Expr.Constant (Const.str "left") 0 p32)) (pos := p33))) (pos := p34)), (Stmt.If (test := (Expr.Compare (left := (Expr.Name "_law_others" p35)) (ops := [CmpOp.Gt]) (comparators := [(Expr.Constant (Const.int 1) 0 p36)]) (pos := p37))) (body := [ (Stmt.Assign (targets := [ (Expr.Subscript (value := (Expr.Name "_law_source" p38)) (slice := (Expr.Constant (Const.str "left") 0 p39)) (pos := p40))]) (value := (Expr.BinOp (left := (Expr.Name "_law_others" p41)) (op := Operator.FloorDiv) (right := (Expr.Name "_law_most" p42)) (pos := p43))) (pos := p44)), (Stmt.Return (value := (some (Expr.BinOp (left := (Expr.Call (func := (Expr.Name "int" p45)) (args := [(Expr.Name "_law_others" p46)]) (keywords := []) (pos := p47))) (op := Operator.Mod) (right := (Expr.Name "_law_most" p48)) (pos := p49)))) (pos := p50))]) (orelse := []) (pos := p51)), (Stmt.Assign (targets := [ (Expr.Subscript (value := (Expr.Name "_law_source" p52)) (slice := (Expr.Constant (Const.str "turn") 0 p53)) (pos := p54))]) (value := (Expr.BinOp (left := (Expr.Subscript (value := (Expr.Name "_law_source" p55)) (slice := (Expr.Constant (Const.str "turn") 0 p56)) (pos := p57))) (op := Operator.Add) (right := (Expr.Constant (Const.int 1) 0 p58)) (pos := p59))) (pos := p60)), (Stmt.Assign (targets := [(Expr.Name "_law_lap" p61)]) (value := (Expr.Subscript (value := (Expr.Name "_law_source" p62)) (slice := (Expr.Constant (Const.str "turn") 0 p63)) (pos := p64))) (pos := p65)), (Stmt.Assign (targets := [(Expr.Name "_law_stirred" p66)]) (value := (Expr.BinOp (left := (Expr.Call (func := (Expr.Name "int" p67)) (args := [ (Expr.BinOp (left := (Expr.Subscript (value := (Expr.Name "_law_source" p68)) (slice := (Expr.Constant (Const.str "mixed") 0 p69)) (pos := p70))) (op := Operator.Add) (right := (Expr.BinOp (left := (Expr.Name "_law_lap" p71)) (op := Operator.Mult) (right := (Expr.Constant (Const.int 104729) 0 p72)) (pos := p73))) (pos := p74))]) (keywords := []) (pos := p75))) (op := Operator.Mod) (right := (Expr.Constant (Const.int 998244353) 0 p76)) (pos := p77))) (pos := p78)), (Stmt.Assign (targets := [(Expr.Name "_law_stirred" p79)]) (value := (Expr.BinOp (left := (Expr.Call (func := (Expr.Name "int" p80)) (args := [ (Expr.BinOp (left := (Expr.BinOp (left := (Expr.Name "_law_stirred" p81)) (op := Operator.Mult) (right := (Expr.Name "_law_stirred" p82)) (pos := p83))) (op := Operator.Add) (right := (Expr.BinOp (left := (Expr.Name "_law_lap" p84)) (op := Operator.Mult) (right := (Expr.Constant (Const.int 17) 0 p85)) (pos := p86))) (pos := p87))]) (keywords := []) (pos := p88))) (op := Operator.Mod) (right := (Expr.Constant (Const.int 2147483647) 0 p89)) (pos := p90))) (pos := p91)), (Stmt.Return (value := (some (Expr.BinOp (left := (Expr.Call (func := (Expr.Name "int" p92)) (args := [ (Expr.BinOp (left := (Expr.Name "_law_stirred" p93)) (op := Operator.FloorDiv) (right := (Expr.Constant (Const.int 16) 0 p94)) (pos := p95))]) (keywords := []) (pos := p96))) (op := Operator.Mod) (right := (Expr.Name "_law_most" p97)) (pos := p98)))) (pos := p99))]
def pickScope : Scope := { kind := PySem.ScopeKind.function, names := [ (PySem.Str.ofString "_law_source", PySem.NameKind.local), (PySem.Str.ofString "_law_most", PySem.NameKind.local), (PySem.Str.ofString "_law_cells", PySem.NameKind.local), (PySem.Str.ofString "_law_others", PySem.NameKind.local), (PySem.Str.ofString "_law_lap", PySem.NameKind.local), (PySem.Str.ofString "_law_stirred", PySem.NameKind.local), (PySem.Str.ofString "len", PySem.NameKind.globalImplicit), (PySem.Str.ofString "int", PySem.NameKind.globalImplicit)], isGenerator := false, isCoroutine := false, more := [] : PySem.Scope }
def kv4 (c : Addr) (l m t : Int) : List (Key × V) := [(.inr "cells", .ref c), (.inr "left", .int l), (.inr "mixed", .int m), (.inr "turn", .int t)]
theorem kne1 : ¬ ((Sum.inr "cells" : Key) = .inr "left") := by decide +kernel
theorem kne2 : ¬ ((Sum.inr "cells" : Key) = .inr "mixed") := by decide +kernel
theorem kne3 : ¬ ((Sum.inr "cells" : Key) = .inr "turn") := by decide +kernel
theorem kne4 : ¬ ((Sum.inr "left" : Key) = .inr "mixed") := by decide +kernel
theorem kne5 : ¬ ((Sum.inr "left" : Key) = .inr "turn") := by decide +kernel
theorem kne6 : ¬ ((Sum.inr "mixed" : Key) = .inr "turn") := by decide +kernel
theorem kne7 : ¬ ((Sum.inr "mixed" : Key) = .inr "left") := by decide +kernel
theorem kne8 : ¬ ((Sum.inr "turn" : Key) = .inr "left") := by decide +kernel
section
variable {c : Addr} {l m t : Int}
theorem val_cells : valV (kv4 c l m t) (.inr "cells") = some (.ref c) := valV_pos rfl
theorem val_left : valV (kv4 c l m t) (.inr "left") = some (.int l) := by unfold kv4; rw [valV_neg kne1, valV_pos rfl]
theorem val_mixed : valV (kv4 c l m t) (.inr "mixed") = some (.int m) := by unfold kv4; rw [valV_neg kne2, valV_neg kne4, valV_pos rfl]
theorem val_turn : valV (kv4 c l m t) (.inr "turn") = some (.int t) := by unfold kv4; rw [valV_neg kne3, valV_neg kne5, valV_neg kne6, valV_pos rfl]
theorem put_left (l' : Int) : putK (kv4 c l m t) (.inr "left") (.int l') = kv4 c l' m t := by
  unfold putK
  rw [if_pos (by rw [valV_any, val_left]; rfl)]
  unfold kv4
  simp only [List.map_cons, List.map_nil, if_neg kne1, if_neg kne7, if_neg kne8, if_true]
theorem put_turn (t' : Int) : putK (kv4 c l m t) (.inr "turn") (.int t') = kv4 c l m t' := by
  unfold putK
  rw [if_pos (by rw [valV_any, val_turn]; rfl)]
  unfold kv4
  simp only [List.map_cons, List.map_nil, if_neg kne3, if_neg kne5, if_neg kne6, if_true]
end

theorem gCells {H : Hp} {a c : Addr} {l m t : Int} (e : H a = some (.dK (kv4 c l m t))) : DGet H a (.str "cells") (some (.ref c)) := by
  have := DGet.k (k := .inr "cells") e
  rw [val_cells] at this
  exact this
theorem gLeft {H : Hp} {a c : Addr} {l m t : Int} (e : H a = some (.dK (kv4 c l m t))) : DGet H a (.str "left") (some (.int l)) := by
  have := DGet.k (k := .inr "left") e
  rw [val_left] at this
  exact this
theorem gMixed {H : Hp} {a c : Addr} {l m t : Int} (e : H a = some (.dK (kv4 c l m t))) : DGet H a (.str "mixed") (some (.int m)) := by
  have := DGet.k (k := .inr "mixed") e
  rw [val_mixed] at this
  exact this
theorem gTurn {H : Hp} {a c : Addr} {l m t : Int} (e : H a = some (.dK (kv4 c l m t))) : DGet H a (.str "turn") (some (.int t)) := by
  have := DGet.k (k := .inr "turn") e
  rw [val_turn] at this
  exact this
theorem pLeft {H : Hp} {a c : Addr} {l m t : Int} (l' : Int) (e : H a = some (.dK (kv4 c l m t))) : DPut H a (.str "left") (.int l') (upd H a (.dK (kv4 c l' m t))) := by
  have := DPut.k (k := .inr "left") (v := .int l') e (by show 4 < sizeLine; decide)
  rw [put_left] at this
  exact this
theorem pTurn {H : Hp} {a c : Addr} {l m t : Int} (t' : Int) (e : H a = some (.dK (kv4 c l m t))) : DPut H a (.str "turn") (.int t') (upd H a (.dK (kv4 c l m t'))) := by
  have := DPut.k (k := .inr "turn") (v := .int t') e (by show 4 < sizeLine; decide)
  rw [put_turn] at this
  exact this
abbrev pickN : List PySem.Str := ["_law_source", "_law_most", "_law_cells", "_law_others", "_law_lap", "_law_stirred"]
structure PickX (X : Cx) : Prop where
  N : X.N = pickN
  sc : X.env.scope = pickScope
  fn : ∀ x, X.fn x = true
  calm : X.calm = true
  len : X.mg "len" = none
  int : X.mg "int" = none
  pass : PassesOwn (model X.prog X.w) X.A X.env X.xe
  units : X.A.units + 64 < cLine
section
variable {X : Cx} (ok : PickX X)
include ok
theorem PickX.at (i : Nat) {x : PySem.Str} (h : pickN[i]? = some x) : X.N[i]? = some x := by rw [ok.N]; exact h
theorem PickX.loc {x : PySem.Str} (h : pickScope.names.lookup x = some .local) : X.env.scope.names.lookup x = some .local := by rw [ok.sc]; exact h
theorem PickX.nd : X.N.Nodup := by rw [ok.N]; decide +kernel
theorem PickX.v (i : Nat) {x : PySem.Str} {p : Pos} (h : pickN[i]? = some x) (hl : pickScope.names.lookup x = some .local) (h1 : (x == ("__debug__" : PySem.Str)) = false) (h2 : (x == ("__classdict__" : PySem.Str)) = false) : PE X (.Name x p) (tVar i) :=
  pe_var (ok.at i h) (.inl (ok.loc hl)) h1 h2
theorem PickX.gl {x : PySem.Str} (h : pickScope.names.lookup x = some .globalImplicit) : Gl X x := by
  show X.env.scope.names.lookup x = _
  rw [ok.sc]; exact h
end
section
variable {X : Cx} (ok : PickX X)
/-- an item of the source -/
abbrev tItem (k : PySem.Str) : TE := tDGet (tVar 0) (tC (.str k))
abbrev opI (f : Int → Int → Int) : R2 := rI0 fun i j => .int (f i j)
theorem PickX.item (ok : PickX X) {k : PySem.Str} {p1 p2 p3 : Pos} {j : Nat} : PE X (.Subscript (.Name "_law_source" p1) (.Constant (.str k) j p2) p3) (tItem k) :=
  pe_dget (by have := ok.units; omega) (ok.v 0 rfl (by decide +kernel) (by decide) (by decide)) pe_str fun _ _ => rfl
theorem PickX.put (ok : PickX X) {k : PySem.Str} {p1 p2 p3 p4 : Pos} {j : Nat} {e : Expr} {te : TE} (he : PE X e te) (hc : isComp e = false) : PS X (.Assign [.Subscript (.Name "_law_source" p1) (.Constant (.str k) j p2) p3] e p4) (sDPut (tVar 0) (tC (.str k)) te) :=
  ps_dput (by have := ok.units; omega) (ok.v 0 rfl (by decide +kernel) (by decide) (by decide)) pe_str he (sw_plain hc)
theorem PickX.set (ok : PickX X) (i : Nat) {x : PySem.Str} {p1 p2 : Pos} {e : Expr} {te : TE} (h : pickN[i]? = some x) (hl : pickScope.names.lookup x = some .local) (he : PE X e te) (hc : isComp e = false) : PS X (.Assign [.Name x p1] e p2) (tAsg te (gName i)) :=
  ps_set ok.nd (ok.at i h) (.inl (ok.loc hl)) he (sw_plain hc) (.inl (ok.fn x))
theorem PickX.intOf (ok : PickX X) {p1 p2 : Pos} {e : Expr} {te : TE} (he : PE X e te) (hs : notStar e = true) : PE X (.Call (.Name "int" p1) [e] [] p2) (tCB (fun xs H Q => (∃ i, xs = [.int i] ∧ Q (.int i) H) ∨ ∃ k, xs = [.bl k] ∧ Q (.int (if k then 1 else 0)) H) (tCons te tNil)) :=
  pe_callTy call_int1 (ok.gl (by decide +kernel)) ok.int (by decide +kernel) (pa_cons he pa_nil (star_of hs)) (by decide) (by decide) (star_of hs) rfl
end
def tLess (a b : TE) : TT := tTest (tOp (rI0 fun i j => .bl (decide (i < j))) a b)
def tMore (a b : TE) : TT := tTest (tOp (rI0 fun i j => .bl (decide (j < i))) a b)

variable {g : Gx}
theorem Ext.oc {H : Hp} {s c p : Addr} {u : HO} (q : g.q = some (s, c)) (hp : p = s ∨ p = c) (h : (∃ k, H p = some (.dK k)) ∨ ∃ l, H p = some (.lst l)) : Ext g.q H (upd H p u) := by
  have oc : ocOf g.q p := ⟨_, q, hp⟩
  have nt : ∀ {b o}, H b = some o → (∀ k, o ≠ .dK k) → (∀ l, o ≠ .lst l) → b ≠ p := fun {b o} e n1 n2 z => by
    subst z
    rcases h with ⟨k, h⟩ | ⟨l, h⟩ <;> (rw [e] at h; cases h)
    · exact n1 _ rfl
    · exact n2 _ rfl
  refine ⟨fun b xs e => by rw [upd_ne (nt e (fun _ z => nomatch z) fun _ z => nomatch z)]; exact e, fun b o w e => by rw [upd_ne (nt e (fun _ z => nomatch z) fun _ z => nomatch z)]; exact e, fun b o e n => by rw [upd_ne fun z => n (by rw [z]; exact oc)]; exact e, fun b e => ?_⟩
  by_cases z : b = p
  · rw [z, upd_same]; simp
  · rw [upd_ne z]; exact e
theorem iteT {b : Bool} {x y : Prop} (h : b = true) (a : x) : if b = true then x else y := by rw [if_pos h]; exact a
theorem iteF {b : Bool} {x y : Prop} (h : b = false) (a : y) : if b = true then x else y := by rw [h]; exact a
theorem skip_ge {l : Int} (h : ¬ l < 2) : ∀ cs, skip l cs = (l, cs)
  | [] => rfl
  | c :: r => by unfold skip; rw [if_neg h]
theorem skip_lt {l d : Int} {r : List Int} (h : l < 2) : skip l (d :: r) = skip d r := by conv => { lhs; unfold skip }; rw [if_pos h]
abbrev rIntOf : List V → Hp → VK → Prop := fun xs H Q => (∃ i, xs = [V.int i] ∧ Q (V.int i) H) ∨ ∃ k, xs = [V.bl k] ∧ Q (V.int (if k = true then 1 else 0)) H
abbrev tModOf (te : TE) (tm : TE) : TE := tOp (rI (fun _ j => 0 < j) fun i j => V.int (i % j)) (tCB rIntOf (tCons te tNil)) tm
/-- what pick does behind its loop -/
abbrev pickTail : TS := tSeq (tAsg (tItem "left") (gName 3)) (tSeq (tIfS (tMore (tVar 3) (tC (V.int 1))) (tSeq (sDPut (tVar 0) (tC (V.str "left")) (tOp (rI CDivW fun i j => V.int (i / j)) (tVar 3) (tVar 1))) (tRet (tModOf (tVar 3) (tVar 1)))) tNext)
  (tSeq (sDPut (tVar 0) (tC (V.str "turn")) (tOp (rI0 fun i j => V.int (i + j)) (tItem "turn") (tC (V.int 1))))
  (tSeq (tAsg (tItem "turn") (gName 4))
  (tSeq (tAsg (tModOf (tOp (rI0 fun i j => V.int (i + j)) (tItem "mixed") (tOp (rI CMul fun i j => V.int (i * j)) (tVar 4) (tC (V.int 104729)))) (tC (V.int 998244353))) (gName 5))
  (tSeq (tAsg (tModOf (tOp (rI0 fun i j => V.int (i + j)) (tOp (rI CMul fun i j => V.int (i * j)) (tVar 5) (tVar 5)) (tOp (rI CMul fun i j => V.int (i * j)) (tVar 4) (tC (V.int 17)))) (tC (V.int 2147483647))) (gName 5))
  (tRet (tModOf (tOp (rI CDiv fun i j => V.int (i / j)) (tVar 5) (tC (V.int 16))) (tVar 1))))))))
theorem pick_rest {s c : Addr} {o o1 : OS} {m : Int} {H H1 : Hp} {Q : VK} (q : g.q = some (s, c)) (nsc : s ≠ c) (oko : OSok o) (ok1 : OSok o1) (hs1 : H1 s = some (srcD c o1)) (hc1 : H1 c = some (.lst (o1.cells.reverse.map V.int))) (e1 : Ext g.q H H1) (em : o1.mixed = o.mixed) (et : o1.turn = o.turn) (h2 : ¬ m < 2) (hm : m < 1073741824)
    (hQ : ∀ H', Ext g.q H H' → Or g.q H' (pickF m o).2 → Q (.int (pickF m o).1) H') (e3 : skip o.left o.cells = (o1.left, o1.cells)) : pickTail { nx := fun _ H' => Q .non H', rt := Q } [some (.ref s), some (.int m), some (.ref c), none, none, none] H1 := by
  refine ⟨.ref s, rfl, s, .int o1.left, rfl, gLeft hs1, ?_⟩
  refine ⟨.int o1.left, rfl, o1.left, 1, rfl, rfl, _, rfl, ?_⟩
  have hm0 : 0 < m := by omega
  have cd : CDivW o1.left m := ⟨hm0, by
    have h1 : m.natAbs < 2 ^ 30 := by omega
    have := (Nat.log2_lt (by omega)).mpr h1
    omega⟩
  have pf : pickF m o = if 1 < o1.left then (o1.left % m, { o with cells := o1.cells, left := o1.left / m }) else (((((o.mixed + (o.turn + 1) * 104729) % 998244353) * ((o.mixed + (o.turn + 1) * 104729) % 998244353) + (o.turn + 1) * 17) % 2147483647) / 16 % m, { o with cells := o1.cells, left := o1.left, turn := o.turn + 1 }) := by
    unfold pickF
    rw [if_neg h2, e3]
  by_cases h3 : 1 < o1.left
  · refine iteT (by simpa using h3) ?_
    rw [if_pos h3] at pf
    rw [pf] at hQ
    refine ⟨.int o1.left, rfl, .int m, rfl, o1.left, m, rfl, rfl, cd, .ref s, rfl, s, _, rfl, pLeft _ hs1, ?_⟩
    refine ⟨.int o1.left, rfl, .inl ⟨_, rfl, .int m, rfl, _, _, rfl, rfl, hm0, ?_⟩⟩
    refine hQ _ (e1.trans (.oc q (.inl rfl) (.inl ⟨_, hs1⟩))) fun a b e => ?_
    rw [q] at e; cases e
    refine ⟨nsc, by rw [upd_same, ← em, ← et]; rfl, by rw [upd_ne nsc.symm]; exact hc1, ok1.cells, Int.ediv_nonneg ok1.left (Int.le_of_lt hm0), oko.mixed, oko.turn, ok1.many⟩
  · refine iteF (by simpa using h3) ?_
    rw [if_neg h3] at pf
    rw [pf] at hQ
    have hb := oko.mixed
    have a1 : 0 ≤ (o.mixed + (o.turn + 1) * 104729) % 998244353 := Int.emod_nonneg _ (by decide)
    have a2 : (o.mixed + (o.turn + 1) * 104729) % 998244353 < 998244353 := Int.emod_lt_of_pos _ (by decide)
    rw [← em, ← et] at a1 a2 hQ
    have hs2 : upd H1 s (.dK (kv4 c o1.left o1.mixed (o1.turn + 1))) s = some (.dK (kv4 c o1.left o1.mixed (o1.turn + 1))) := upd_same
    refine ⟨.ref s, rfl, s, .int o1.turn, rfl, gTurn hs1, o1.turn, 1, rfl, rfl, .ref s, rfl, s, _, rfl, pTurn _ hs1, ?_⟩
    refine ⟨.ref s, rfl, s, .int (o1.turn + 1), rfl, gTurn hs2, ?_⟩
    refine ⟨.ref s, rfl, s, .int o1.mixed, rfl, gMixed hs2, .int (o1.turn + 1), rfl, _, _, rfl, rfl, .inr (by decide), _, _, rfl, rfl, .inl ⟨_, rfl, _, _, rfl, rfl, (by omega : (0:Int) < _), ?_⟩⟩
    refine ⟨.int ((o1.mixed + (o1.turn + 1) * 104729) % 998244353), rfl, .int ((o1.mixed + (o1.turn + 1) * 104729) % 998244353), rfl, _, _, rfl, rfl, .inl ⟨by omega, by omega⟩, .int (o1.turn + 1), rfl, _, _, rfl, rfl, .inr (by decide), _, _, rfl, rfl, .inl ⟨_, rfl, _, _, rfl, rfl, (by omega : (0:Int) < _), ?_⟩⟩
    refine ⟨_, rfl, _, _, rfl, rfl, ⟨by decide, by decide⟩, .inl ⟨_, rfl, .int m, rfl, _, _, rfl, rfl, hm0, ?_⟩⟩
    refine hQ _ (e1.trans (.oc q (.inl rfl) (.inl ⟨_, hs1⟩))) fun a b e => ?_
    rw [q] at e; cases e
    refine ⟨nsc, hs2, by rw [upd_ne nsc.symm]; exact hc1, ok1.cells, ok1.left, ok1.mixed, ?_, ok1.many⟩
    have := ok1.turn
    show 0 ≤ o1.turn + 1
    omega
theorem pick_walk {X : Cx} (ok : PickX X) {p0 p1 p2 p3 p4 p5 p6 p7 p8 p9 p10 p11 p12 p13 p14 p15 p16 p17 p18 p19 p20 p21 p22 p23 p24 p25 p26 p27 p28 p29 p30 p31 p32 p33 p34 p35 p36 p37 p38 p39 p40 p41 p42 p43 p44 p45 p46 p47 p48 p49 p50 p51 p52 p53 p54 p55 p56 p57 p58 p59 p60 p61 p62 p63 p64 p65 p66 p67 p68 p69 p70 p71 p72 p73 p74 p75 p76 p77 p78 p79 p80 p81 p82 p83 p84 p85 p86 p87 p88 p89 p90 p91 p92 p93 p94 p95 p96 p97 p98 p99 : Pos} (hl : (p26.endLine == p27.line) = true) : ∃ t, PSs X (pickBody p0 p1 p2 p3 p4 p5 p6 p7 p8 p9 p10 p11 p12 p13 p14 p15 p16 p17 p18 p19 p20 p21 p22 p23 p24 p25 p26 p27 p28 p29 p30 p31 p32 p33 p34 p35 p36 p37 p38 p39 p40 p41 p42 p43 p44 p45 p46 p47 p48 p49 p50 p51 p52 p53 p54 p55 p56 p57 p58 p59 p60 p61 p62 p63 p64 p65 p66 p67 p68 p69 p70 p71 p72 p73 p74 p75 p76 p77 p78 p79 p80 p81 p82 p83 p84 p85 p86 p87 p88 p89 p90 p91 p92 p93 p94 p95 p96 p97 p98 p99) t ∧ ∀ (vs : List V) (H : Hp) (Q : VK) (E : XK), spPick g vs H Q E → t { nx := fun _ H' => Q .non H', rt := Q } (L2.start pickN vs) H := by
  have v1 : ∀ {p : Pos}, PE X (.Name "_law_most" p) (tVar 1) := ok.v 1 rfl (by decide +kernel) (by decide) (by decide)
  have v2 : ∀ {p : Pos}, PE X (.Name "_law_cells" p) (tVar 2) := ok.v 2 rfl (by decide +kernel) (by decide) (by decide)
  have v3 : ∀ {p : Pos}, PE X (.Name "_law_others" p) (tVar 3) := ok.v 3 rfl (by decide +kernel) (by decide) (by decide)
  have v4 : ∀ {p : Pos}, PE X (.Name "_law_lap" p) (tVar 4) := ok.v 4 rfl (by decide +kernel) (by decide) (by decide)
  have v5 : ∀ {p : Pos}, PE X (.Name "_law_stirred" p) (tVar 5) := ok.v 5 rfl (by decide +kernel) (by decide) (by decide)
  refine ⟨_, pss_cons (ps_if (pt_cmpR op_lt v1 pe_int (nomark _)) (pss_one (ps_ret pe_int)) pss_nil)
    (pss_cons (ok.set 2 rfl (by decide +kernel) ok.item rfl)
    (pss_cons (ps_while ok.pass (pw_and (pt_cmpR op_lt ok.item pe_int (nomark _)) (pw_and1 (pt_cmpR op_gt (pe_callB call_len (ok.gl (by decide +kernel)) ok.len boot_len (pa_cons v2 pa_nil)) pe_int (nomark _)))).pt
      (pss_one (ok.put (pe_bm0 PySem.F.plainAttrs_list PySem.F.slot_list_pop PySem.F.type_list_pop mt_pop v2 rfl ?_) rfl)))
    (pss_cons (ok.set 3 rfl (by decide +kernel) ok.item rfl)
    (pss_cons (ps_if (pt_cmpR op_gt v3 pe_int (nomark _)) (pss_cons (ok.put (pe_op op_fdivW v3 v1) rfl) (pss_one (ps_ret (pe_op op_mod (ok.intOf v3 rfl) v1)))) pss_nil)
    (pss_cons (ok.put (pe_op op_add ok.item pe_int) rfl)
    (pss_cons (ok.set 4 rfl (by decide +kernel) ok.item rfl)
    (pss_cons (ok.set 5 rfl (by decide +kernel) (pe_op op_mod (ok.intOf (pe_op op_add ok.item (pe_op op_mul v4 pe_int)) rfl) pe_int) rfl)
    (pss_cons (ok.set 5 rfl (by decide +kernel) (pe_op op_mod (ok.intOf (pe_op op_add (pe_op op_mul v5 v5) (pe_op op_mul v4 pe_int)) rfl) pe_int) rfl)
    (pss_one (ps_ret (pe_op op_mod (ok.intOf (pe_op op_fdiv v5 pe_int) rfl) v1))))))))))), ?_⟩
  · exact hl
  · rintro vs H Q E ⟨s, c, o, m, q, rfl, r, hm, hQ⟩
    obtain ⟨nsc, hs, hcl, oko⟩ := r s c q
    have e0 : ∀ (σ : L2.St), True := fun _ => trivial
    refine ⟨.int m, rfl, m, 2, rfl, rfl, _, rfl, ?_⟩
    by_cases h2 : m < 2
    · refine iteT (by simpa using h2) ?_
      have e : pickF m o = (0, o) := by unfold pickF; rw [if_pos h2]
      rw [e] at hQ
      exact hQ H .refl r
    refine iteF (by simpa using h2) ?_
    refine ⟨.ref s, rfl, s, .ref c, rfl, gCells hs, ?_⟩
    refine ⟨fun n σ H1 => ∃ o1, n = o1.cells.length ∧ σ = [some (.ref s), some (.int m), some (.ref c), none, none, none] ∧ Or g.q H1 o1 ∧ Ext g.q H H1 ∧ skip o1.left o1.cells = skip o.left o.cells ∧ o1.mixed = o.mixed ∧ o1.turn = o.turn,
      ⟨_, o, rfl, rfl, r, .refl, rfl, rfl, rfl⟩, ?_⟩
    rintro n σ H1 ⟨o1, rfl, rfl, r1, e1, sk, em, et⟩
    obtain ⟨_, hs1, hc1, ok1⟩ := r1 s c q
    refine ⟨.ref s, rfl, s, .int o1.left, rfl, gLeft hs1, o1.left, 2, rfl, rfl, _, rfl, ?_⟩
    by_cases h4 : o1.left < 2
    · refine iteT (by simpa using h4) ?_
      refine ⟨.ref c, rfl, .ref c, _, rfl, .inl ⟨_, SqL.of hc1, rfl⟩, _, 0, rfl, rfl, _, rfl, ?_⟩
      cases hcs : o1.cells with
      | nil =>
        refine iteF (by simp [hcs]) ?_
        exact pick_rest q nsc oko ok1 hs1 hc1 e1 em et h2 hm hQ (by rw [← sk, hcs]; rfl)
      | cons d r' =>
        refine iteT (by simp [hcs]) ?_
        refine ⟨fun σ H2 => ∃ o2, r'.length = o2.cells.length ∧ σ = [some (.ref s), some (.int m), some (.ref c), none, none, none] ∧ Or g.q H2 o2 ∧ Ext g.q H H2 ∧ skip o2.left o2.cells = skip o.left o.cells ∧ o2.mixed = o.mixed ∧ o2.turn = o.turn, fun σ' H' ⟨o2, w1, w⟩ => ⟨r'.length, Nat.lt_succ_self _, o2, w1, w⟩, ?_⟩
        rw [hcs] at hc1
        have el : (d :: r').reverse.map V.int = r'.reverse.map V.int ++ [V.int d] := by simp
        rw [el] at hc1
        have hs2 : upd H1 c (.lst (r'.reverse.map V.int)) s = some (srcD c o1) := by rw [upd_ne nsc]; exact hs1
        refine ⟨.ref c, rfl, .inl ⟨rfl, _, SqL.of hc1⟩, c, _, .int d, rfl, rfl, hc1, by simp, ?_⟩
        rw [List.dropLast_concat]
        refine ⟨.ref s, rfl, s, _, rfl, pLeft d hs2, { o1 with cells := r', left := d }, rfl, rfl, fun a b e => ?_, ?_, ?_, em, et⟩
        · rw [q] at e; cases e
          have cok := ok1.cells
          rw [hcs] at cok
          have many := ok1.many
          rw [hcs] at many
          exact ⟨nsc, upd_same, by rw [upd_ne nsc.symm, upd_same], fun x hx => cok x (List.mem_cons_of_mem _ hx), cok d List.mem_cons_self, ok1.mixed, ok1.turn, by simp at many ⊢; omega⟩
        · exact e1.trans ((Ext.oc q (.inr rfl) (.inr ⟨_, hc1⟩)).trans (.oc q (.inl rfl) (.inl ⟨_, hs2⟩)))
        · rw [← sk, hcs, skip_lt h4]
    · refine iteF (by simpa using h4) ?_
      exact pick_rest q nsc oko ok1 hs1 hc1 e1 em et h2 hm hQ (by rw [← sk, skip_ge h4])
theorem pick_fnG {P : Program} {w : World} {K : PySem.W.Frag} {mg : PySem.Str → Option Value} {base : Heap} {x qual : PySem.Str} {st : Stmt} {f : Addr} {fd : FuncData} {n : Nat} {p0 p1 p2 p3 p4 p5 p6 p7 p8 p9 p10 p11 p12 p13 p14 p15 p16 p17 p18 p19 p20 p21 p22 p23 p24 p25 p26 p27 p28 p29 p30 p31 p32 p33 p34 p35 p36 p37 p38 p39 p40 p41 p42 p43 p44 p45 p46 p47 p48 p49 p50 p51 p52 p53 p54 p55 p56 p57 p58 p59 p60 p61 p62 p63 p64 p65 p66 p67 p68 p69 p70 p71 p72 p73 p74 p75 p76 p77 p78 p79 p80 p81 p82 p83 p84 p85 p86 p87 p88 p89 p90 p91 p92 p93 p94 p95 p96 p97 p98 p99 : Pos} (F : Fun K x qual st f fd) (hb : defBody st = pickBody p0 p1 p2 p3 p4 p5 p6 p7 p8 p9 p10 p11 p12 p13 p14 p15 p16 p17 p18 p19 p20 p21 p22 p23 p24 p25 p26 p27 p28 p29 p30 p31 p32 p33 p34 p35 p36 p37 p38 p39 p40 p41 p42 p43 p44 p45 p46 p47 p48 p49 p50 p51 p52 p53 p54 p55 p56 p57 p58 p59 p60 p61 p62 p63 p64 p65 p66 p67 p68 p69 p70 p71 p72 p73 p74 p75 p76 p77 p78 p79 p80 p81 p82 p83 p84 p85 p86 p87 p88 p89 p90 p91 p92 p93 p94 p95 p96 p97 p98 p99) (hs : defScope st = pickScope) (hl : (p26.endLine == p27.line) = true) (m1 : mg "len" = none) (m2 : mg "int" = none) :
    FnG P w K mg base (n + 1) f fd ["_law_source", "_law_most"] (spPick g) := by
  refine fnG_of (N := pickN) F ⟨by rw [hs]; rfl, by rw [hs]; rfl, by rw [hs]; rfl, by decide +kernel, rfl, by rw [hs]; decide +kernel, by rw [hs]; decide +kernel⟩ (fun vs H Q E ⟨s, c, o, m, _, e, _⟩ => by rw [e]; rfl) fun cdv A outer s H vs Q E hr hg hq => ?_
  have ok : PickX (cxOf (L2.CX P w) P w K mg base pickN qual (defScope st) f cdv A outer s H E) := by
    refine ⟨rfl, ?_, fun _ => rfl, rfl, m1, m2, passes_of rfl, ?_⟩
    · show defScope st = _
      exact hs
    · have := hr.un
      show (A.deeper (envOfC qual (defScope st) s.heap.objs.size f cdv)).units + 64 < cLine
      omega
  obtain ⟨t, ht, hz⟩ := pick_walk (g := g) ok (p0 := p0) (p1 := p1) (p2 := p2) (p3 := p3) (p4 := p4) (p5 := p5) (p6 := p6) (p7 := p7) (p8 := p8) (p9 := p9) (p10 := p10) (p11 := p11) (p12 := p12) (p13 := p13) (p14 := p14) (p15 := p15) (p16 := p16) (p17 := p17) (p18 := p18) (p19 := p19) (p20 := p20) (p21 := p21) (p22 := p22) (p23 := p23) (p24 := p24) (p25 := p25) (p26 := p26) (p27 := p27) (p28 := p28) (p29 := p29) (p30 := p30) (p31 := p31) (p32 := p32) (p33 := p33) (p34 := p34) (p35 := p35) (p36 := p36) (p37 := p37) (p38 := p38) (p39 := p39) (p40 := p40) (p41 := p41) (p42 := p42) (p43 := p43) (p44 := p44) (p45 := p45) (p46 := p46) (p47 := p47) (p48 := p48) (p49 := p49) (p50 := p50) (p51 := p51) (p52 := p52) (p53 := p53) (p54 := p54) (p55 := p55) (p56 := p56) (p57 := p57) (p58 := p58) (p59 := p59) (p60 := p60) (p61 := p61) (p62 := p62) (p63 := p63) (p64 := p64) (p65 := p65) (p66 := p66) (p67 := p67) (p68 := p68) (p69 := p69) (p70 := p70) (p71 := p71) (p72 := p72) (p73 := p73) (p74 := p74) (p75 := p75) (p76 := p76) (p77 := p77) (p78 := p78) (p79 := p79) (p80 := p80) (p81 := p81) (p82 := p82) (p83 := p83) (p84 := p84) (p85 := p85) (p86 := p86) (p87 := p87) (p88 := p88) (p89 := p89) (p90 := p90) (p91 := p91) (p92 := p92) (p93 := p93) (p94 := p94) (p95 := p95) (p96 := p96) (p97 := p97) (p98 := p98) (p99 := p99) hl
  rw [hb]
  exact ⟨t, ht, hz vs H Q E hq⟩
end O
end

section
set_option Elab.async false
set_option linter.all false
set_option maxRecDepth 100000
set_option maxHeartbeats 4000000
/-! OOpen: how the drawn source is made of the script. -/
namespace O
open PySem PySem.Spec PyProof.Rows L2
def openBody (p0 p1 p2 p3 p4 p5 p6 p7 p8 p9 p10 p11 p12 p13 p14 p15 p16 p17 p18 p19 p20 p21 p22 p23 p24 p25 p26 p27 p28 p29 p30 p31 p32 p33 p34 p35 p36 p37 p38 p39 p40 p41 p42 : Pos) : List Stmt := [ (Stmt.Assign (targets := [(Expr.Name "_law_stirred" p0)]) (value := (Expr.Constant (Const.int 11) 0 p1)) (pos := p2)), (Stmt.For (target := (Expr.Name "_law_cell" p3)) (iter := (Expr.Name "_law_script" p4)) (body := [ (Stmt.Assign (targets := [(Expr.Name "_law_stirred" p5)]) (value := (Expr.BinOp (left := (Expr.Call (func := (Expr.Name "int" p6)) (args := [ (Expr.BinOp (left := (Expr.BinOp (left := (Expr.BinOp (left := (Expr.Name "_law_stirred" p7)) (op := Operator.Mult) (right := (Expr.Constant (Const.int 69069) 0 p8)) (pos := p9))) (op := Operator.Add) (right := (Expr.BinOp (left := (Expr.Name "_law_cell" p10)) (op := Operator.Mult) (right := (Expr.Constant (Const.int 31) 0 p11)) (pos := p12))) (pos := p13))) (op := Operator.Add) (right := (Expr.Constant (Const.int 5) 0 p14)) (pos := p15))]) (keywords := []) (pos := p16))) (op := Operator.Mod) (right := (Expr.Constant (Const.int 2147483629) 0 p17)) (pos := p18))) (pos := p19))]) (orelse := []) (pos := p20)), (Stmt.Assign (targets := [(Expr.Name "_law_cells" p21)]) (value := (Expr.ListComp (elt := (Expr.Call (func := (Expr.Name "abs" p22)) (args := [(Expr.Name "_law_cell" p23)]) (keywords := []) (pos := p24))) (generators := [ { target := (Expr.Name "_law_cell" p25), iter := (Expr.Name "_law_script" p26), ifs := [], is_async := 0 : PySem.Comprehension }]) (scope := { kind := PySem.ScopeKind.function, names := [ (PySem.Str.ofString ".0", PySem.NameKind.local), (PySem.Str.ofString "_law_cell", PySem.NameKind.local), (PySem.Str.ofString "abs", PySem.NameKind.globalImplicit)], isGenerator := false, isCoroutine := false, more := [] : PySem.Scope }) (pos := p27))) (pos := p28)), (Stmt.Return (value := (some (Expr.Dict (keys := [ (some (Expr.Constant (Const.str "cells") 0 p29)), (some (Expr.Constant (Const.str "left") 0 p30)), (some (Expr.Constant (Const.str "mixed") 0 p31)), (some (Expr.Constant (Const.str "turn") 0 p32))]) (values := [ (Expr.Subscript (value := (Expr.Name "_law_cells" p33)) (slice := (Expr.Slice (lower := none) (upper := none) (step := (some (Expr.UnaryOp (op := PySem.UnaryOp.USub) (operand := (Expr.Constant (Const.int 1) 0 p34)) (pos := p35)))) (pos := p36))) (pos := p37)), (Expr.Constant (Const.int 1) 0 p38), (Expr.Name "_law_stirred" p39), (Expr.Constant (Const.int 0) 0 p40)]) (pos := p41)))) (pos := p42))]
def openScope : Scope := { kind := PySem.ScopeKind.function, names := [ (PySem.Str.ofString "_law_script", PySem.NameKind.local), (PySem.Str.ofString "_law_stirred", PySem.NameKind.local), (PySem.Str.ofString "_law_cell", PySem.NameKind.local), (PySem.Str.ofString "_law_cells", PySem.NameKind.local), (PySem.Str.ofString "int", PySem.NameKind.globalImplicit)], isGenerator := false, isCoroutine := false, more := [ (PySem.Str.ofString "fast", (PySem.Const.str "_law_script")), (PySem.Str.ofString "fast", (PySem.Const.str "_law_stirred")), (PySem.Str.ofString "fast", (PySem.Const.str "_law_cell")), (PySem.Str.ofString "fast", (PySem.Const.str "_law_cells"))] : PySem.Scope }
def openScopeC : Scope := { kind := .function, names := [(".0", .local), ("_law_cell", .local), ("abs", .globalImplicit)], isGenerator := false, isCoroutine := false, more := [] }
abbrev openN : List PySem.Str := ["_law_script", "_law_stirred", "_law_cell", "_law_cells"]
def stirF (x c : Int) : Int := (x * 69069 + c * 31 + 5) % 2147483629
def openOS (ns : List Int) : OS := ⟨ns.map fun n => (n.natAbs : Int), 1, ns.foldl stirF 11, 0⟩
def spOpen (K : PySem.W.Frag) : Sp := fun vs H Q _ => ∃ a ns, vs = [.ref a] ∧ SqL K H a (ns.map V.int) ∧ ns.length ≤ 63 ∧
  ∀ s c H', s ≠ c → Same H H' → H s = none → H c = none → H' s = some (srcD c (openOS ns)) → H' c = some (.lst ((openOS ns).cells.reverse.map V.int)) → Q (.ref s) H'
structure OpenX (X : Cx) : Prop where
  N : X.N = openN
  sc : X.env.scope = openScope
  fn : ∀ x, X.fn x = true
  calm : X.calm = true
  int : X.mg "int" = none
  abs : X.mg "abs" = none
  pass : PassesOwn (model X.prog X.w) X.A X.env X.xe
section
variable {X : Cx} (ok : OpenX X)
include ok
theorem OpenX.at (i : Nat) {x : PySem.Str} (h : openN[i]? = some x) : X.N[i]? = some x := by rw [ok.N]; exact h
theorem OpenX.loc {x : PySem.Str} (h : openScope.names.lookup x = some .local) : X.env.scope.names.lookup x = some .local := by rw [ok.sc]; exact h
theorem OpenX.nd : X.N.Nodup := by rw [ok.N]; decide +kernel
theorem OpenX.v (i : Nat) {x : PySem.Str} {p : Pos} (h : openN[i]? = some x) (hl : openScope.names.lookup x = some .local) (h1 : (x == ("__debug__" : PySem.Str)) = false) (h2 : (x == ("__classdict__" : PySem.Str)) = false) : PE X (.Name x p) (tVar i) :=
  pe_var (ok.at i h) (.inl (ok.loc hl)) h1 h2
theorem OpenX.set (i : Nat) {x : PySem.Str} {p1 p2 : Pos} {e : Expr} {te : TE} (h : openN[i]? = some x) (hl : openScope.names.lookup x = some .local) (he : PE X e te) (hc : isComp e = false) : PS X (.Assign [.Name x p1] e p2) (tAsg te (gName i)) :=
  ps_set ok.nd (ok.at i h) (.inl (ok.loc hl)) he (sw_plain hc) (.inl (ok.fn x))
theorem OpenX.intOf {p1 p2 : Pos} {e : Expr} {te : TE} (he : PE X e te) (hs : notStar e = true) : PE X (.Call (.Name "int" p1) [e] [] p2) (tCB rIntOf (tCons te tNil)) :=
  pe_callTy call_int1 (by show X.env.scope.names.lookup _ = _; rw [ok.sc]; decide +kernel) ok.int (by decide +kernel) (pa_cons he pa_nil (star_of hs)) (by decide) (by decide) (star_of hs) rfl
end
theorem kne9 : ¬ ((Sum.inr "left" : Key) = .inr "cells") := by decide +kernel
theorem merge4 {c : Addr} {l m t : Int} : L2.mergeK [] (kv4 c l m t) = kv4 c l m t := by
  unfold L2.mergeK kv4
  simp only [List.foldl_cons, List.foldl_nil, putK, List.any_nil, List.any_cons, Bool.false_eq_true, if_false, List.nil_append, decide_eq_false kne1, decide_eq_false kne2, decide_eq_false kne3, decide_eq_false kne4, decide_eq_false kne5, decide_eq_false kne6, Bool.or_false, List.cons_append]
theorem sqL_upd {K : PySem.W.Frag} {H : Hp} {a p : Addr} {xs : List V} {u : HO} (h : SqL K H a xs) (n : H p = none) : SqL K (upd H p u) a xs := by
  have ne : ∀ {o}, H a = some o → a ≠ p := fun e z => by subst z; rw [n] at e; cases e
  rcases h with (h | ⟨o, h⟩) | h
  · exact .inl (.inl (by rw [upd_ne (ne h)]; exact h))
  · exact .inl (.inr ⟨o, by rw [upd_ne (ne h)]; exact h⟩)
  · exact .inr h
theorem take_fold {ns : List Int} {i : Nat} {n : Int} {x : Int} (h : ns[i]? = some n) : (ns.take (i + 1)).foldl stirF x = stirF ((ns.take i).foldl stirF x) n := by
  rw [List.take_add_one, h, List.foldl_append]
  rfl
theorem open_walk {X : Cx} (ok : OpenX X) {p0 p1 p2 p3 p4 p5 p6 p7 p8 p9 p10 p11 p12 p13 p14 p15 p16 p17 p18 p19 p20 p21 p22 p23 p24 p25 p26 p27 p28 p29 p30 p31 p32 p33 p34 p35 p36 p37 p38 p39 p40 p41 p42 : Pos} (hl : (p21.line == p27.line) = true) : ∃ t, PSs X (openBody p0 p1 p2 p3 p4 p5 p6 p7 p8 p9 p10 p11 p12 p13 p14 p15 p16 p17 p18 p19 p20 p21 p22 p23 p24 p25 p26 p27 p28 p29 p30 p31 p32 p33 p34 p35 p36 p37 p38 p39 p40 p41 p42) t ∧ ∀ (vs : List V) (H : Hp) (Q : VK) (E : XK), spOpen X.K vs H Q E → t { nx := fun _ H' => Q .non H', rt := Q } (L2.start openN vs) H := by
  have v0 : ∀ {p : Pos}, PE X (.Name "_law_script" p) (tVar 0) := ok.v 0 rfl (by decide +kernel) (by decide) (by decide)
  have v1 : ∀ {p : Pos}, PE X (.Name "_law_stirred" p) (tVar 1) := ok.v 1 rfl (by decide +kernel) (by decide) (by decide)
  have v2 : ∀ {p : Pos}, PE X (.Name "_law_cell" p) (tVar 2) := ok.v 2 rfl (by decide +kernel) (by decide) (by decide)
  have v3 : ∀ {p : Pos}, PE X (.Name "_law_cells" p) (tVar 3) := ok.v 3 rfl (by decide +kernel) (by decide) (by decide)
  have blk : BlkOk X.N X.env.scope openScopeC [("_law_cell", 2)] := blkOk_by (by rw [ok.N, ok.sc]; decide +kernel)
  have kd : X.env.scope.kind = .function := by rw [ok.sc]; rfl
  refine ⟨_, pss_cons (ok.set 1 rfl (by decide +kernel) pe_int rfl)
    (pss_cons (ps_for ok.pass ok.calm (pi_list v0) (pg_name ok.nd (ok.at 2 rfl) (.inl (ok.loc (by decide +kernel))) (.inl (ok.fn _))) (pss_one (ok.set 1 rfl (by decide +kernel) (pe_op op_mod (ok.intOf (pe_op op_add (pe_op op_add (pe_op op_mul v1 pe_int) (pe_op op_mul v2 pe_int)) pe_int) rfl) pe_int) rfl)))
    (pss_cons (ps_setLc ok.calm ok.nd (ok.at 3 rfl) (ok.loc (by decide +kernel)) (sw_true kd (ok.loc (by decide +kernel)) hl (by decide +kernel)) (pi_list v0) blk
        (fun s H C cl fp => pg_name ok.nd (ok.at 2 rfl) (.inl (by show (relS openScopeC X.env.scope).names.lookup _ = _; rw [ok.sc]; decide +kernel)) (.inr (by show (relS openScopeC X.env.scope).names.lookup _ = _; rw [ok.sc]; decide +kernel)))
        (fun s H C cl fp => pts_nil)
        (fun s H C cl fp => pe_callB (X := X.blk s H openScopeC (compEnvC openScopeC cl C X.env) fp) call_abs (by show (relS openScopeC X.env.scope).names.lookup _ = _; rw [ok.sc]; decide +kernel) ok.abs (by decide +kernel) (pa_cons (pe_var (i := 2) (ok.at 2 rfl) (.inl (by show (relS openScopeC X.env.scope).names.lookup _ = _; rw [ok.sc]; decide +kernel)) (by decide) (by decide)) pa_nil) (by decide) (by decide)))
    (pss_one (ps_ret (pe_disp (pps_cons pe_str (pe_revL v3) (pps_cons pe_str pe_int (pps_cons pe_str v1 (pps_cons pe_str pe_int pps_nil)))) rfl rfl (by simp) (by simp)))))), ?_⟩
  rintro vs H Q E ⟨a, ns, rfl, hS, hn, hQ⟩
  have at_ : ∀ {i : Nat} {x : V}, (ns.map V.int)[i]? = some x → ∃ n, ns[i]? = some n ∧ x = .int n := fun {i x} h => by
    rw [List.getElem?_map] at h
    cases e : ns[i]? with
    | none => rw [e] at h; cases h
    | some n => rw [e] at h; cases h; exact ⟨n, rfl, rfl⟩
  refine ⟨.ref a, rfl, a, rfl, ⟨_, hS⟩, for_list (xs := ns.map V.int) (fun i σ H' => H' = H ∧ ∃ c, σ = [some (.ref a), some (.int ((ns.take i).foldl stirF 11)), c, none]) ⟨rfl, none, rfl⟩ (fun i σ H' _ ⟨e, _⟩ => by rw [e]; exact hS) ?_ ?_⟩
  · rintro i x σ H' hx ⟨rfl, c, rfl⟩
    obtain ⟨n, hni, rfl⟩ := at_ hx
    refine ⟨.int ((ns.take i).foldl stirF 11), rfl, _, _, rfl, rfl, .inr (by decide), .int n, rfl, _, _, rfl, rfl, .inr (by decide), _, _, rfl, rfl, _, _, rfl, rfl, .inl ⟨_, rfl, _, _, rfl, rfl, (by omega : (0 : Int) < _), ?_⟩⟩
    exact ⟨rfl, _, by rw [take_fold hni]; rfl⟩
  · rintro σ H' ⟨rfl, c, rfl⟩
    rw [List.length_map, List.take_length]
    refine ⟨.ref a, rfl, a, rfl, ⟨_, hS⟩, fun D hD => lc_list (xs := ns.map V.int) (fun i H2 => H2 = upd H' D (.lst ((ns.take i).map fun n => V.int n.natAbs))) rfl (fun i H2 _ e => by rw [e]; exact sqL_upd hS hD) ?_ ?_⟩
    · rintro i x H2 hx rfl
      obtain ⟨n, hni, rfl⟩ := at_ hx
      refine ⟨rfl, ?_⟩
      refine ⟨.int n, rfl, n, rfl, _, upd_same, ?_, ?_⟩
      · have := (List.getElem?_eq_some_iff.mp hni).1
        have hl : lid = 16777216 := rfl
        rw [List.length_map, List.length_take, lid_eq]
        omega
      · have e : (if n < 0 then -n else n) = (n.natAbs : Int) := by split <;> omega
        rw [e, List.take_add_one, hni, List.map_append]
        show upd (upd H' D _) D _ = _
        rw [upd_upd]
        rfl
    · rintro H2 rfl
      rw [List.length_map, List.take_length]
      intro p hp
      have hDp : D ≠ p := fun z => by rw [← z, upd_same] at hp; cases hp
      have hp0 : H' p = none := by rw [upd_ne hDp.symm] at hp; exact hp
      refine ⟨.ref D, rfl, D, _, rfl, SqL.of (by rw [upd_ne hDp, upd_same]), fun r hr => ?_⟩
      have hrp : p ≠ r := fun z => by rw [← z, upd_same] at hr; cases hr
      have hr1 : upd H' D (.lst (ns.map fun n => V.int n.natAbs)) r = none := by rw [upd_ne hrp.symm] at hr; exact hr
      have hDr : D ≠ r := fun z => by rw [← z, upd_same] at hr1; cases hr1
      have hr0 : H' r = none := by rw [upd_ne hDr.symm] at hr1; exact hr1
      refine ⟨_, rfl, by rw [upd_ne hrp, upd_same], kv4 r 1 (ns.foldl stirF 11) 0, rfl, by show 4 ≤ 15; decide, ?_⟩
      rw [merge4]
      refine hQ p r _ hrp (fun b o e => ?_) hp0 hr0 ?_ ?_
      · have n1 : b ≠ p := fun z => by rw [z, hp0] at e; cases e
        have n2 : b ≠ r := fun z => by rw [z, hr0] at e; cases e
        have n3 : b ≠ D := fun z => by rw [z, hD] at e; cases e
        rw [upd_ne n1, upd_ne n2, upd_ne n1, upd_ne n3]
        exact e
      · rw [upd_same]; rfl
      · rw [upd_ne hrp.symm, upd_same, ← List.map_reverse]
        show some _ = some _
        congr 2
        simp [openOS, List.map_reverse]
end O
end

section
set_option Elab.async false
set_option linter.all false
set_option maxRecDepth 100000
set_option maxHeartbeats 4000000
/-! OEnd: a law's end, the law's def knowing that no guard is set around it. -/
namespace O
open PySem PySem.Spec PyProof.Rows L2
theorem law_callG {P : Program} {w : World} {K : PySem.W.Frag} {mg mb : PySem.Str → Option Value} {k : Nat} {fa a : Addr} {fd : FuncData} {x : PySem.Str} {sp : Sp} {s1 : Shared} {us : List Value} {is : List Int}
    (inK : K.In s1.heap) (nsG : s1.heap.Ns mainGlobals mg) (nsB : s1.heap.Ns builtinsNs mb) (boot : ∀ y : PySem.Str, y ≠ "__name__" → mb y = bootBuiltins y) (free : s1.heap.NoLimit) (noGen : s1.gens = #[])
    (obj : s1.heap.get? a = some { cls := .type "list", data := .seq us.toArray }) (isv : IntsAre us is) (short : is.length ≤ sizeLine) (room : Room k callerA)
    (FF : ∀ base : Heap, K.In base → base.Ns mainGlobals mg → FnG P w K mg base k fa fd [x] sp) (binds : ∀ (s : Shared) (u : Value), BindsTo s fd ⟨[u], []⟩ [(x, u)])
    (promise : ∀ H : Hp, Only H → SqL K H a (is.map V.int) → sp [.ref a] H (fun v _ => v = .bl true) fun _ _ _ => False) :
    codeAny (model P w) callerA (.call (.ref fa) ⟨[.ref a], []⟩) (fun r s' => r = .ok (.ret (.bool true)) ∧ OldK s1.heap s'.heap ∧ s'.os = s1.os ∧ AllBare s'.gens) s1 := by
  have rel := vals_ints isv
  have same := isv.length
  suffices core : ∀ H : Hp, Only H → SqL K H a (is.map V.int) → HOk P w H s1.heap → (∀ b, H b ≠ none → b = a ∧ K.lookup a = none) →
      codeAny (model P w) callerA (.call (.ref fa) ⟨[.ref a], []⟩) (fun r s' => r = .ok (.ret (.bool true)) ∧ OldK s1.heap s'.heap ∧ s'.os = s1.os ∧ AllBare s'.gens) s1 by
    cases inside : K.lookup a with
    | some ob =>
      have e := inK a ob inside
      rw [obj] at e
      cases e
      exact core (fun _ => none) (fun _ => .inl rfl) (.inr ⟨_, us.toArray, _, inside, rfl, rfl, rfl, by rw [List.size_toArray, same]; exact short, by simpa using rel⟩) (fun b u z => by cases (show (none : Option HO) = some u from z)) fun b z => absurd rfl z
    | none =>
      have yes : ∀ {b : Addr}, b = a → (if b = a then some (HO.frz { cls := .type "list", data := .seq us.toArray } (.lst (is.map V.int))) else none) = some (HO.frz { cls := .type "list", data := .seq us.toArray } (.lst (is.map V.int))) := fun e => if_pos e
      have no : ∀ {b : Addr}, b ≠ a → (if b = a then some (HO.frz { cls := .type "list", data := .seq us.toArray } (.lst (is.map V.int))) else none) = none := fun e => if_neg e
      refine core (fun b => if b = a then some (.frz { cls := .type "list", data := .seq us.toArray } (.lst (is.map V.int))) else none) (fun b => ?_) (.inl (.inr ⟨_, yes rfl⟩)) (fun b u z => ?_) fun b z => ?_
      · rcases Decidable.em (b = a) with e | e
        · exact .inr ⟨_, _, yes e⟩
        · exact .inl (no e)
      · rcases Decidable.em (b = a) with e | e
        · have z2 := (yes e).symm.trans z
          cases z2
          subst e
          exact ⟨obj, by rw [List.length_map]; exact short, us, _, rel, obj⟩
        · have z2 := (no e).symm.trans z
          cases z2
      · rcases Decidable.em (b = a) with e | e
        · exact ⟨e, inside⟩
        · exact absurd (no e) z
  intro H only seq hok lone
  -- what is not tracked lies in the ground
  have low : ∀ {b : Addr} {ob : Obj}, s1.heap.get? b = some ob → (b = a → K.lookup a = none → False) → (hidT s1.heap H).get? b = some ob := fun {b ob} e n => hidT_get e (by
    cases q : H b with
    | none => rfl
    | some u =>
      obtain ⟨z1, z2⟩ := lone b (by rw [q]; simp)
      exact (n z1 z2).elim)
  have names : ∀ {b : Addr} {m : PySem.Str → Option Value}, s1.heap.Ns b m → (hidT s1.heap H).Ns b m := fun {b m} ⟨ob, es, ep, e, d, r⟩ => ⟨ob, es, ep, low e (fun z _ => by
    subst z
    rw [obj] at e
    cases e
    have d2 : Data.seq us.toArray _ = Data.dict es ep := d
    cases d2), d, r⟩
  have part : K.In (hidT s1.heap H) := fun b ob e => low (inK b ob e) (fun z n => by
    subst z
    rw [n] at e
    cases e)
  have md : Mod K mg (hidT s1.heap H) := ⟨part, names nsG, ⟨mb, names nsB, boot⟩, let ⟨mc, h1, h2⟩ := free; ⟨mc, names h1, h2⟩⟩
  have e0 : Env0 P w K mg (hidT s1.heap H) callerA [] s1 H := ⟨rfl, md, fun b ob e => of_hidT e, Nat.le_of_eq (hidT_size _ _), trivial, fun b hb => absurd (show b ∈ ([] : List Addr) from hb) (by simp), hok, .of_eq noGen⟩
  refine codeAny_mono ((FF _ part (names nsG)).run callerA [] s1 H ⟨[.ref a], []⟩ [.ref a] [.ref a] _ _ room rfl e0 (binds s1 (.ref a)) (.cons rfl .nil) (promise H only seq)) fun r s' h => ?_
  match r, h with
  | .error e, h =>
    obtain ⟨_, _, _, _, _, _, _, _, _, _, _, _, q⟩ := h
    exact q.elim
  | .ok .next, h => exact h.elim
  | .ok .brk, h => exact h.elim
  | .ok .cont, h => exact h.elim
  | .ok (.ret u), h =>
    obtain ⟨v, H2, os, bare, un, ok2, ru, q⟩ := h
    have q2 : v = .bl true := q
    subst q2
    obtain rfl : u = Value.bool true := ru
    refine ⟨rfl, OldK.of_keep fun b ob e => ?_, os, bare⟩
    cases z : H b with
    | none => exact un.keep b ob e z (fun y => absurd (show b ∈ ([] : List Addr) from y) (by simp)) (by simp)
    | some y =>
      rcases only b with n | ⟨oc, xs, n⟩
      · rw [z] at n; cases n
      · obtain ⟨g1, _⟩ := hok b _ n
        obtain ⟨g2, _⟩ := ok2 b _ (un.frzs b oc _ n)
        rw [e] at g1; cases g1
        exact g2

/-- a law: the written part, the function object, the promise over every base -/
theorem walk_ofG {l : PySem.W.OpenLaw} {n k : Nat} {q : Program} {loose : List PySem.Str} {XP : (PySem.Str → Option Value) → Heap → Prop} {YP : World → Heap → Prop} {d : DefRec} {x : PySem.Str}
    (most : l.most = some n) (n63 : n ≤ sizeLine) (plain : d.params.defaults = []) (room : Room k callerA)
    (FF : ∀ (w : World) (mg : PySem.Str → Option Value) (fa : Addr) (h : Heap), YP w h → h.Ns mainGlobals mg → mg d.name = some (.ref fa) →
      ∃ (K : PySem.W.Frag) (fd : FuncData) (sp : Sp), K.In h ∧ (∀ (s : Shared) (u : Value), BindsTo s fd ⟨[u], []⟩ [(x, u)]) ∧
        (∀ (H : Hp) (a : Addr) (is : List Int), is.length ≤ n → Only H → SqL K H a (is.map V.int) → sp [.ref a] H (fun v _ => v = .bl true) fun _ _ _ => False) ∧
        ∀ base : Heap, K.In base → base.Ns mainGlobals mg → FnG l.prog w K mg base k fa fd [x] sp) :
    PySem.W.WalkO q loose XP YP l.row.toRowW d [] (fun f vs => PySem.call f vs) := by
  refine Att.attach_call most plain fun w s0 s1 mg mb fa o pm cd doc a us is G Y ho hd hcd hmg hobj hints hlen hg => ?_
  obtain ⟨K, fd, sp, inK, hb, pr, hF⟩ := FF w mg fa _ Y G.T.g hmg
  exact law_callG inK G.T.g G.T.b G.T.builtins G.T.nolimit hg hobj hints (Nat.le_trans hlen n63) room hF hb fun H only hS => pr H a is hlen only hS
end O
end

section
set_option Elab.async false
set_option linter.all false
set_option maxRecDepth 100000
set_option maxHeartbeats 4000000
/-! OExc: the package's own copying of a number; an exception class below an own class below ValueError, its __init__ walked. -/
namespace O
open PySem PySem.Spec PyProof.Rows L2
def copBody (p0 p1 p2 p3 p4 p5 p6 p7 p8 p9 p10 p11 p12 p13 p14 p15 p16 p17 p18 p19 p20 p21 p22 p23 p24 p25 p26 p27 p28 p29 p30 p31 p32 p33 p34 p35 p36 p37 p38 p39 p40 p41 p42 p43 p44 : Pos) : List Stmt := [ (Stmt.If (test := (Expr.Call (func := (Expr.Name "isinstance" p0)) (args := [(Expr.Name "value" p1), (Expr.Name "list" p2)]) (keywords := []) (pos := p3))) (body := [ (Stmt.Return (value := (some (Expr.ListComp (elt := (Expr.Call (func := (Expr.Name "copied" p4)) (args := [(Expr.Name "one" p5)]) (keywords := []) (pos := p6))) (generators := [ { target := (Expr.Name "one" p7), iter := (Expr.Name "value" p8), ifs := [], is_async := 0 : PySem.Comprehension }]) (scope := { kind := PySem.ScopeKind.function, names := [ (PySem.Str.ofString ".0", PySem.NameKind.local), (PySem.Str.ofString "one", PySem.NameKind.local), (PySem.Str.ofString "copied", PySem.NameKind.globalImplicit)], isGenerator := false, isCoroutine := false, more := [] : PySem.Scope }) (pos := p9)))) (pos := p10))]) (orelse := []) (pos := p11)), (Stmt.If (test := (Expr.Call (func := (Expr.Name "isinstance" p12)) (args := [(Expr.Name "value" p13), (Expr.Name "tuple" p14)]) (keywords := []) (pos := p15))) (body := [ (Stmt.Return (value := (some (Expr.Call (func := (Expr.Name "tuple" p16)) (args := [ (Expr.ListComp (elt := (Expr.Call (func := (Expr.Name "copied" p17)) (args := [(Expr.Name "one" p18)]) (keywords := []) (pos := p19))) (generators := [ { target := (Expr.Name "one" p20), iter := (Expr.Name "value" p21), ifs := [], is_async := 0 : PySem.Comprehension }]) (scope := { kind := PySem.ScopeKind.function, names := [ (PySem.Str.ofString ".0", PySem.NameKind.local), (PySem.Str.ofString "one", PySem.NameKind.local), (PySem.Str.ofString "copied", PySem.NameKind.globalImplicit)], isGenerator := false, isCoroutine := false, more := [] : PySem.Scope }) (pos := p22))]) (keywords := []) (pos := p23)))) (pos := p24))]) (orelse := []) (pos := p25)), (Stmt.If (test := (Expr.Call (func := (Expr.Name "isinstance" p26)) (args := [(Expr.Name "value" p27), (Expr.Name "dict" p28)]) (keywords := []) (pos := p29))) (body := [ (Stmt.Return (value := (some (Expr.DictComp (key := (Expr.Name "key" p30)) (value := (Expr.Call (func := (Expr.Name "copied" p31)) (args := [(Expr.Name "one" p32)]) (keywords := []) (pos := p33))) (generators := [ { target := (Expr.Tuple (elts := [(Expr.Name "key" p34), (Expr.Name "one" p35)]) (k := 0) (pos := p36)), iter := (Expr.Call (func := (Expr.Attribute (Expr.Name "value" p37) "items" p38)) (args := []) (keywords := []) (pos := p39)), ifs := [], is_async := 0 : PySem.Comprehension }]) (scope := { kind := PySem.ScopeKind.function, names := [ (PySem.Str.ofString ".0", PySem.NameKind.local), (PySem.Str.ofString "key", PySem.NameKind.local), (PySem.Str.ofString "one", PySem.NameKind.local), (PySem.Str.ofString "copied", PySem.NameKind.globalImplicit)], isGenerator := false, isCoroutine := false, more := [] : PySem.Scope }) (pos := p40)))) (pos := p41))]) (orelse := []) (pos := p42)), (Stmt.Return (some (Expr.Name "value" p43)) p44)]
def copScope : Scope := { kind := PySem.ScopeKind.function, names := [ (PySem.Str.ofString "value", PySem.NameKind.local), (PySem.Str.ofString "isinstance", PySem.NameKind.globalImplicit), (PySem.Str.ofString "list", PySem.NameKind.globalImplicit), (PySem.Str.ofString "tuple", PySem.NameKind.globalImplicit), (PySem.Str.ofString "dict", PySem.NameKind.globalImplicit)], isGenerator := false, isCoroutine := false, more := [ (PySem.Str.ofString "fast", (PySem.Const.str "value")), (PySem.Str.ofString "fast", (PySem.Const.str "one")), (PySem.Str.ofString "fast", (PySem.Const.str "key"))] : PySem.Scope }
/-- a number's copy is the number -/
def spCopI : Sp := fun vs H Q _ => ∃ i, vs = [.int i] ∧ Q (.int i) H
theorem ps_any {X : Cx} {st : Stmt} : PS X st (fun _ _ _ => False) := ⟨fun _ _ _ _ _ _ h => h.elim⟩
theorem pe_isiX {X : Cx} {ea : Expr} {t : Nat} {T : PySem.Str} {p pt pos : Pos} (hg : Gl X "isinstance") (hm : X.mg "isinstance" = none) (hgT : Gl X T) (hmT : X.mg T = none) (hvT : bootBuiltins T = some (.type (isN t))) (hnT : T ≠ "__name__") (hdT : (T == ("__debug__" : PySem.Str)) = false)
    (hs : notStar ea = true) (ha : PE X ea (tVar 0)) (ht : kitB "int" (isN t) = some false) : PE X (.Call (.Name "isinstance" p) [ea, .Name T pt] [] pos) (fun σ H Q => tVar 0 σ H fun v H1 => ∃ i, v = .int i ∧ Q (.bl false) H1) := by
  have hT : PE X (.Name T pt) (tC (.ty (isN t))) := pe_bltn hgT hmT hvT rfl hnT hdT
  refine (pe_callB (p := p) (pos := pos) call_isi hg hm boot_isinstance (pa_cons ha (pa_cons hT pa_nil (star_of rfl)) (star_of hs)) (by decide) (by decide) (star_of hs) (noStars [_] _ _ rfl)).of fun σ H Q ⟨v, hv, i, e, q⟩ => ?_
  subst e
  exact ⟨_, hv, _, _, _, _, _, rfl, .ty _, .base (.int i), kit_ty ht, q⟩
theorem cop_fnG {P : Program} {w : World} {K : PySem.W.Frag} {mg : PySem.Str → Option Value} {base : Heap} {x qual : PySem.Str} {st : Stmt} {f : Addr} {fd : FuncData} {n : Nat} {p0 p1 p2 p3 p4 p5 p6 p7 p8 p9 p10 p11 p12 p13 p14 p15 p16 p17 p18 p19 p20 p21 p22 p23 p24 p25 p26 p27 p28 p29 p30 p31 p32 p33 p34 p35 p36 p37 p38 p39 p40 p41 p42 p43 p44 : Pos} (F : Fun K x qual st f fd) (hb : defBody st = copBody p0 p1 p2 p3 p4 p5 p6 p7 p8 p9 p10 p11 p12 p13 p14 p15 p16 p17 p18 p19 p20 p21 p22 p23 p24 p25 p26 p27 p28 p29 p30 p31 p32 p33 p34 p35 p36 p37 p38 p39 p40 p41 p42 p43 p44) (hs : defScope st = copScope) (m1 : mg "isinstance" = none) (m2 : mg "list" = none) (m3 : mg "tuple" = none) (m4 : mg "dict" = none) :
    FnG P w K mg base (n + 1) f fd ["value"] spCopI := by
  refine fnG_of (N := ["value"]) F ⟨by rw [hs]; rfl, by rw [hs]; rfl, by rw [hs]; rfl, by decide +kernel, rfl, by rw [hs]; decide +kernel, by rw [hs]; decide +kernel⟩ (fun vs H Q E ⟨i, e, _⟩ => by rw [e]; rfl) fun cdv A outer s H vs Q E hr hg hq => ?_
  obtain ⟨i, rfl, hq⟩ := hq
  have sc : (cxOf (L2.CX P w) P w K mg base ["value"] qual (defScope st) f cdv A outer s H E).env.scope = copScope := hs
  have v0 : ∀ {p : Pos}, PE (cxOf (L2.CX P w) P w K mg base ["value"] qual (defScope st) f cdv A outer s H E) (.Name "value" p) (tVar 0) := pe_var rfl (.inl (by show (cxOf (L2.CX P w) P w K mg base ["value"] qual (defScope st) f cdv A outer s H E).env.scope.names.lookup _ = _; rw [sc]; decide +kernel)) (by decide) (by decide)
  have gl : ∀ {y : PySem.Str}, copScope.names.lookup y = some .globalImplicit → Gl (cxOf (L2.CX P w) P w K mg base ["value"] qual (defScope st) f cdv A outer s H E) y := fun {y} h => by
    show (cxOf (L2.CX P w) P w K mg base ["value"] qual (defScope st) f cdv A outer s H E).env.scope.names.lookup _ = _
    rw [sc]; exact h
  have is : ∀ {T : PySem.Str} {t : Nat} {p0 p1 p2 p3 p4 : Pos} {b : Stmt}, copScope.names.lookup T = some .globalImplicit → mg T = none → bootBuiltins T = some (.type (isN t)) → T ≠ "__name__" → (T == ("__debug__" : PySem.Str)) = false → kitB "int" (isN t) = some false →
      PS (cxOf (L2.CX P w) P w K mg base ["value"] qual (defScope st) f cdv A outer s H E) (.If (.Call (.Name "isinstance" p0) [.Name "value" p1, .Name T p2] [] p3) [b] [] p4) (fun D σ H1 => σ = [some (.int i)] ∧ D.nx σ H1) := fun {T t p0 p1 p2 p3 p4 b} h1 h2 h3 h4 h5 h6 =>
    (ps_if (pt_val (pe_isiX (gl (by decide +kernel)) m1 (gl h1) h2 h3 h4 h5 rfl v0 h6)) (pss_one ps_any) pss_nil).of fun D σ H1 ⟨e, q⟩ => by
      subst e
      exact ⟨.int i, rfl, i, rfl, _, rfl, q⟩
  rw [hb]
  refine ⟨_, pss_cons (is (t := 4) (by decide +kernel) m2 (by decide +kernel) (by decide) (by decide) (by decide +kernel)) (pss_cons (is (t := 3) (by decide +kernel) m3 (by decide +kernel) (by decide) (by decide) (by decide +kernel)) (pss_cons (is (t := 5) (by decide +kernel) m4 (by decide +kernel) (by decide) (by decide) (by decide +kernel)) (pss_one (ps_ret v0)))), ?_⟩
  exact ⟨rfl, rfl, rfl, .int i, rfl, hq⟩
end O
end

section
set_option Elab.async false
set_option linter.all false
set_option maxRecDepth 100000
set_option maxHeartbeats 4000000
/-! OExc2: __init__ of such a class, walked: its argument handed on by super(), then kept in a field. -/
namespace O
open PySem PySem.Spec PyProof.Rows L2
section
open PySem.W
variable {prog : Program} {w : World} {A : Around} {E : Value → Shared → Prop} {h : Heap} {g : Array GenState} {d : Drawn} {t : Nat} {os : OsState}
variable {nm q : PySem.Str} {C N : Addr} {bs bm : List Value} {hdct : Bool} {sn : List PySem.Str} {sub : List Value} {ab : Bool} {col : Option Bool} {dd : Option Addr} {k0 k1 k2 k3 k5 : Option Value}
/-- ValueError's __init__, bound to the one that is made, called -/
theorem call_veInit {u e t0 : Addr} {rest : List Value} {Q : Value → Shared → Prop}
    (hC : h.get? C = some (excClassObj nm q C N bs bm hdct sn sub ab col dd k0 k1 k2 k3 k5 "ValueError.__new__")) (he : h.get? e = some (HandSPX.excO C t0)) (hu : h.get? u = some (kxs_mw "ValueError.__init__" e)) (hrest : rest.length ≤ sizeLine)
    (hq : ∀ h' t1, (∀ b o, b ≠ e → h.get? b = some o → h'.get? b = some o) → h'.get? e = some (HandSPX.excO C t1) → Q .none ⟨h', g, d, t, os⟩) :
    wpAny (model prog w) A (PySem.call (.ref u) rest) Q E ⟨h, g, d, t, os⟩ := by
  refine wpAny_call (codeAny_of_tree ?_)
  show wpAny _ A.in1 (callAny (.ref u) ⟨rest, []⟩) _ _ _
  simp only [callAny]
  refine wpAny_bind (wpAny_load hu ?_)
  simp only [kxs_mw, show (Value.type "method-wrapper" == Value.type "method" || Value.type "method-wrapper" == Value.type "builtin_function_or_method" || Value.type "method-wrapper" == Value.type "method-wrapper") = true by decide, if_true]
  refine KFB.if_so (by decide) ?_
  refine wpAny_bind (check_bound_init F.excBase_ValueError.toExcCallFacts hC he rfl ?_)
  refine wpAny_bind (wpAny_pure (wpAny_pure ?_))
  refine ⟨plainId_quiet F.excBase_ValueError.init.plain _, codeAny_builtin F.excBase_ValueError.initEntry ?_⟩
  exact exc_init_tree (cls := .ref C) (t0 := t0) (dv := none) (c2 := .none) (c3 := .none) (b4 := .bool false) he hrest fun h' k e' _ => hq h' _ k e'
end

/-! ### the entry -/
def iniBody (fl : PySem.Str) (p0 p1 p2 p3 p4 p5 p6 p7 p8 p9 p10 p11 p12 p13 : Pos) : List Stmt := [
  .Expr (.Call (.Attribute (.Call (.Name "super" p0) [] [] p1) "__init__" p2) [.Call (.Name "copied" p3) [.Name fl p4] [] p5] [] p6) p7,
  .Assign [.Attribute (.Name "self" p8) fl p9] (.Call (.Name "copied" p10) [.Name fl p11] [] p12) p13]
def iniScope (fl : PySem.Str) : Scope := { kind := .function, names := [("self", .local), (fl, .local), ("__class__", .free), ("super", .globalImplicit), ("copied", .globalImplicit)], isGenerator := false, isCoroutine := false, more := [] }
def cxC (P : Program) (w : World) (K : PySem.W.Frag) (mg : PySem.Str → Option Value) (base : Heap) (N : List PySem.Str) (qual : PySem.Str) (scope : Scope) (f : Addr) (cd : Value) (cc : Addr) (A : Around) (outer : List PySem.Env) (s : Shared) (H : Hp) : Cx where
  prog := P
  w := w
  K := K
  mg := mg
  base := base
  A := A.deeper (PySem.W.ksEnv qual scope s.heap.objs.size f cd cc)
  N := N
  s_0 := s
  H_0 := H
  env := PySem.W.ksEnv qual scope s.heap.objs.size f cd cc
  outer := outer
  stack := PySem.W.ksEnv qual scope s.heap.objs.size f cd cc :: outer
  ex := []
  calm := true
  fn := fun _ => false
  pn := []
  xe := fun _ _ => False
theorem cc_one {cc c : Addr} {y : PySem.Str} (h : ([(("__class__" : PySem.Str), cc)] : List (PySem.Str × Addr)).lookup y = some c) : y = "__class__" ∧ c = cc := by
  rw [List.lookup_cons] at h
  split at h
  · rename_i e
    cases h
    exact ⟨eq_of_beq e, rfl⟩
  · cases h
theorem inv_startC {P : Program} {w : World} {K : PySem.W.Frag} {mg : PySem.Str → Option Value} {base : Heap} {qual fl : PySem.Str} {f cc a : Addr} {cd cl v : Value} {cld : Option Addr} {csl : Array (Option Value)} {A : Around} {outer : List PySem.Env} {s : Shared} {H : Hp} {u : Value} {i : Int} {h1 : Heap} {tk : Nat}
    (hfl : fl ≠ "self") (hfc : fl ≠ "__class__") (hd : A.handled = none) (e0 : Env0 P w K mg base A outer s H) (r : RelV (.int i) u) (hcell : K.lookup cc = some ⟨cl, cld, .cell (some v), csl⟩)
    (hns : h1.Ns s.heap.objs.size (fun y => ([("self", .ref a), (fl, u)] : List (PySem.Str × Value)).reverse.lookup y)) (hk : ∀ b o, s.heap.get? b = some o → h1.get? b = some o) :
    Inv (cxC P w K mg base ["self", fl] qual (iniScope fl) f cd cc A outer s H) [] [some (.ref a), some (.int i)] H { s with heap := h1, toks := tk } := by
  have noA : ∀ b : Addr, b ∉ (cxC P w K mg base ["self", fl] qual (iniScope fl) f cd cc A outer s H).ex := fun b z => absurd (show b ∈ ([] : List Addr) from z) (by simp)
  have cb := e0.mod.kin _ _ hcell
  have cs := e0.bs _ _ cb
  refine ⟨⟨e0.mod, rfl, rfl, rfl, Nat.le_refl _, fun y z c h2 h3 => ?_, fun y hy => ?_, fun y c h2 h3 => (Bool.false_ne_true h2).elim, fun _ => hd, Around.frames_deeper e0.frames, .inr ⟨rfl, rfl⟩, fun b z => absurd z (noA b), e0.bs, e0.bsz, fun b _ _ => noA b, fun b z => absurd z (noA b), e0.funs, e0.frf⟩,
    rfl, e0.bare, Un.kept hk, ⟨_, hns, fun j y x h2 h3 h4 => ?_⟩, fun y c h2 => ?_, e0.hok.fresh (Nat.le_refl _), fun y c h2 => ?_, fun p hp => absurd (show p ∈ ([] : List (Addr × Obj)) from hp) (by simp), e0.hok.kept hk, rfl⟩
  · rw [(cc_one h2).1, (cc_one h3).1]
  · have hy : (iniScope fl).names.lookup y = some .cell ∨ (iniScope fl).names.lookup y = some .free := hy
    have : y = "__class__" := by
      rcases hy with hy | hy <;> (have := PySem.mem_of_lookup hy; simp [iniScope] at this; try exact this)
    subst this
    exact ⟨cc, rfl⟩
  · match j, h2, h3 with
    | 0, h2, h3 =>
      have h2 : ([("self" : PySem.Str), fl])[0]? = some y := h2
      simp at h2 h3; subst h2 h3
      refine ⟨.ref a, rfl, .inl ⟨?_, ?_⟩⟩
      · rfl
      · show ([(fl, u), ("self", .ref a)] : List (PySem.Str × Value)).lookup ("self" : PySem.Str) = _
        have e : (("self" : PySem.Str) == fl) = false := beq_eq_false_iff_ne.mpr (Ne.symm hfl)
        rw [List.lookup_cons, e]
        rfl
    | 1, h2, h3 =>
      have h2 : ([("self" : PySem.Str), fl])[1]? = some y := h2
      simp at h2 h3; subst h2 h3
      refine ⟨u, r, .inl ⟨?_, ?_⟩⟩
      · show ([(("self" : PySem.Str), NameKind.local), (fl, .local), ("__class__", .free), ("super", .globalImplicit), ("copied", .globalImplicit)] : List (PySem.Str × NameKind)).lookup fl = _
        have e : (fl == ("self" : PySem.Str)) = false := beq_eq_false_iff_ne.mpr hfl
        rw [List.lookup_cons, e, List.lookup_cons]
        simp
      · show ([(fl, u), ("self", .ref a)] : List (PySem.Str × Value)).lookup fl = _
        rw [List.lookup_cons]
        simp
    | j + 2, h2, h3 =>
      have h2 : ([("self" : PySem.Str), fl])[j + 2]? = some y := h2
      simp at h2
  · obtain ⟨e1, e2⟩ := cc_one h2
    subst e2
    exact ⟨_, _, hk _ _ cs.1, rfl⟩
  · obtain ⟨e1, e2⟩ := cc_one h2
    subst e2
    exact cs.2

theorem at_meth {prog : Program} {w : World} {A : Around} {c : Code} {E : Value → Shared → Prop} {s : Shared} {env : PySem.Env} {o e : Expr} {name : PySem.Str} {apos pos : Pos} {Q : Value → Shared → Prop} (hl : (apos.endLine == pos.line) = true) (he : starEach [e] env = [(false, eval e env)])
    (h : PySem.wpAt (model prog w) A c (attributeBase o name env (eval o env)) (fun ov s₁ => ∀ pl, wpAny (model prog w) A (getMethod ov name pl) (fun fx s₂ => wpAny (model prog w) A (callWith pos fx.1 fx.2 (backTo pos (starEach [e] env)) []) Q E s₂) E s₁) E s) :
    PySem.wpAt (model prog w) A c (eval (.Call (.Attribute o name apos) [e] [] pos) env) Q E s := by
  rw [arm_eval_Call]
  refine PySem.wpAt_bind (ks_wpAt_mono h (fun ov s₁ h₁ => PySem.wpAt_of_wpAny (wpAny_bind (wpAny_standAt ?_))) fun _ _ x => x)
  have hform : methodCallForm (([e] : List Expr).length + ([] : List Keyword).length) (backTo pos (starEach [e] env)) (backToKw pos (keywordEach [] env)) = true := by rw [he]; rfl
  have hpos : methodCallPos true o env apos pos = Pure.pure pos := by unfold methodCallPos; simp [hl]
  unfold methodCall
  rw [hform]
  refine wpAny_bind (wpAny_holding (wpAny_mono (h₁ _) (fun fx s₂ h₂ => ?_) fun _ _ x => x))
  exact wpAny_bind (wpAny_of_eq hpos h₂)
/-! ### the class -/
/-- what the written part says of a class below ValueError whose __init__ hands its one argument on by super() and keeps it in the field fl -/
structure InitC (P : Program) (K : PySem.W.Frag) (C fI cc cda : Addr) (fl qual : PySem.Str) (fd : FuncData) : Prop where
  ox : OexC K C
  find : PySem.W.findIn K (.ref C) "__init__" = some (some (.ref fI))
  noat : PySem.W.findIn K (.ref C) fl = some none
  typ : PySem.W.typeIn K (.ref fI) = some (.type "function")
  lk : ∃ oc od osl, K.lookup fI = some ⟨oc, od, .func fd, osl⟩
  fdq : ∃ ar1 ar2 kV doc pm an ct p0 p1 p2 p3 p4 p5 p6 p7 p8 p9 p10 p11 p12 p13, fd = PySem.W.ksFn "__init__" qual { posonlyargs := [], args := [ar1, ar2], vararg := none, kwonlyargs := [], kw_defaults := [], kwarg := none, defaults := [] } (iniBody fl p0 p1 p2 p3 p4 p5 p6 p7 p8 p9 p10 p11 p12 p13) (iniScope fl) .none kV doc pm an (.ref cda) ct cc ∧ ar1.arg = "self" ∧ ar2.arg = fl ∧ (p2.endLine == p6.line) = true
  bd : ∀ u v : Value, bindArgs fd ⟨[u, v], []⟩ = Pure.pure [(("self" : PySem.Str), u), (fl, v)]
  code : PySem.W.codeIn K (.ref cda) qual = true
  file : ∃ ccl cdd vs ccs file tf, K.lookup cda = some ⟨ccl, cdd, .fields vs, ccs⟩ ∧ vs[2]? = some (.str file tf) ∧ ((P.main.file : PySem.Str) == file) = true
  cell : ∃ cl cld csl, K.lookup cc = some ⟨cl, cld, .cell (some (.ref C)), csl⟩
  mro : PySem.W.mroIn K C (.ref C) = some true
  sup : PySem.W.ks_superIn K C C "__init__" = some (some (.builtin "ValueError.__init__"))
  ve : PySem.W.subIn K (.ref C) (.type "ValueError") = some true
  nosup : PySem.W.nsIn K mainGlobals "super" = some none
  opq : PySem.W.nsIn K cStatics "thirdparty.any" = some none
  topq : (P.main.scope.names.lookup ("super" : PySem.Str)).isSome = false
  ne1 : fl ≠ "self"
  ne2 : fl ≠ "__class__"
  ne3 : (fl == ("__debug__" : PySem.Str)) = false
  ne4 : (fl == ("__classdict__" : PySem.Str)) = false
  ne5 : fl ≠ "super"
  ne6 : fl ≠ "copied"
theorem boot_super : bootBuiltins "super" = some (.type "super") := by decide +kernel
theorem ini_run {P : Program} {w : World} {K : PySem.W.Frag} {mg : PySem.Str → Option Value} {base : Heap} {C fI cc cda : Addr} {fl qual : PySem.Str} {fd : FuncData} {k : Nat} {fc : Addr} {fdc : FuncData} (T : InitC P K C fI cc cda fl qual fd)
    (FC : FnG P w K mg base k fc fdc ["value"] spCopI) (mc : mg "copied" = some (.ref fc)) (kc : PySem.W.keepIn K (.ref fc) = true) (bc : Binds K fdc ["value"] [])
    {A : Around} {outer : List PySem.Env} {s : Shared} {H : Hp} {a : Addr} {i : Int} {u : Value} {Q : VK} (hr : Room (k + 1) A) (hg : A.guards = some []) (e0 : Env0 P w K mg base A outer s H) (ru : RelV (.int i) u) (ha : H a = some (exo a C none))
    (hq : ∀ d, H d = none → d ≠ a → Q .non (upd (upd H d (exd d [(fl, .int i)])) a (exo a C (some d)))) :
    codeAny (model P w) A (.call (.ref fI) ⟨[.ref a, u], []⟩) (CR (L2.CX P w) outer P w H s Q fun _ _ _ => False) s := by
  obtain ⟨oc, od, osl, lk⟩ := T.lk
  obtain ⟨ar1, ar2, kV, doc, pm, an, ct, p0, p1, p2, p3, p4, p5, p6, p7, p8, p9, p10, p11, p12, p13, rfl, na1, na2, hline⟩ := T.fdq
  obtain ⟨cl, cld, csl, hcell⟩ := T.cell
  obtain ⟨nm, q, N, bs, bm, sn, sub, ab, col, dd, k0, k1, k2, k3, k5, hC, hbm⟩ := T.ox.cls
  have old : ∀ b o, base.get? b = some o → s.heap.get? b = some o := fun b o e => (e0.bs b o e).1
  have KX : K.In s.heap := e0.mod.kin.keeps old
  refine ks_codeAny_call_defAt (binds := [("self", .ref a), (fl, u)]) hr.depth (KX _ _ lk) rfl (e0.mod.nolimit.keeps old) (PySem.W.codeRec_of KX T.code) rfl ?_ ?_ ?_ (fun h1 hns hk => ?_) rfl rfl rfl
  · exact .of_eq (T.bd _ _)
  · intro x hx
    have hx : x ∈ (iniScope fl).names := hx
    simp [iniScope] at hx
    rcases hx with rfl | rfl | rfl | rfl | rfl <;> (intro z; cases z)
  · intro x hx
    simp at hx
    show (iniScope fl).names.lookup x.1 = _
    rcases hx with rfl | rfl
    · rfl
    · show ([(("self" : PySem.Str), NameKind.local), (fl, .local), ("__class__", .free), ("super", .globalImplicit), ("copied", .globalImplicit)] : List (PySem.Str × NameKind)).lookup fl = _
      have e : (fl == ("self" : PySem.Str)) = false := beq_eq_false_iff_ne.mpr T.ne1
      rw [List.lookup_cons, e, List.lookup_cons]
      simp
  have ns1 : s.heap.objs.size = (PySem.W.ksEnv qual (iniScope fl) s.heap.objs.size fI (.ref cda) cc).locals := rfl
  have I0 : Inv (cxC P w K mg base ["self", fl] qual (iniScope fl) fI (.ref cda) cc A outer s H) [] [some (.ref a), some (.int i)] H { s with heap := h1, toks := s.toks + 2 } := inv_startC T.ne1 T.ne2 hr.hd e0 ru hcell hns hk
  have lookfl : ([(("self" : PySem.Str), NameKind.local), (fl, .local), ("__class__", .free), ("super", .globalImplicit), ("copied", .globalImplicit)] : List (PySem.Str × NameKind)).lookup fl = some .local := by
    have e : (fl == ("self" : PySem.Str)) = false := beq_eq_false_iff_ne.mpr T.ne1
    rw [List.lookup_cons, e, List.lookup_cons]
    simp
  have look2 : ∀ {y : PySem.Str} {n : NameKind}, y ≠ "self" → y ≠ fl → ([(("__class__" : PySem.Str), NameKind.free), ("super", .globalImplicit), ("copied", .globalImplicit)] : List (PySem.Str × NameKind)).lookup y = some n → (iniScope fl).names.lookup y = some n := fun {y n} h1 h2 h3 => by
    show ([(("self" : PySem.Str), NameKind.local), (fl, .local), ("__class__", .free), ("super", .globalImplicit), ("copied", .globalImplicit)] : List (PySem.Str × NameKind)).lookup y = _
    have e : (y == ("self" : PySem.Str)) = false := beq_eq_false_iff_ne.mpr h1
    have e2 : (y == fl) = false := beq_eq_false_iff_ne.mpr h2
    rw [List.lookup_cons, e, List.lookup_cons, e2]
    exact h3
  have hsup := look2 (y := "super") (n := .globalImplicit) (by decide) (Ne.symm T.ne5) (by decide +kernel)
  have hcls := look2 (y := "__class__") (n := .free) (by decide) (Ne.symm T.ne2) (by decide +kernel)
  have hcop := look2 (y := "copied") (n := .globalImplicit) (by decide) (Ne.symm T.ne6) (by decide +kernel)
  -- the copy
  have v1 : ∀ {p : Pos}, PE (cxC P w K mg base ["self", fl] qual (iniScope fl) fI (.ref cda) cc A outer s H) (.Name fl p) (tVar 1) := pe_var rfl (.inl lookfl) T.ne3 T.ne4
  have v0 : ∀ {p : Pos}, PE (cxC P w K mg base ["self", fl] qual (iniScope fl) fI (.ref cda) cc A outer s H) (.Name "self" p) (tVar 0) := pe_var rfl (.inl rfl) (by decide) (by decide)
  have cop : ∀ {p1 p2 p3 : Pos}, PE (cxC P w K mg base ["self", fl] qual (iniScope fl) fI (.ref cda) cc A outer s H) (.Call (.Name "copied" p1) [.Name fl p2] [] p3) (tCallG spCopI (fun _ _ _ _ => False) (tCons (tVar 1) tNil)) := fun {p1 p2 p3} =>
    pe_callG (k := k) FC (hr.deeper _) hg hcop mc kc bc (fun u' s' ⟨a, B, sI, pins, σ, H, cls, d, e, I, nb, up, sky, na, os, ag, w⟩ => w) (pa_cons v1 pa_nil) (by decide) rfl rfl
  refine ks_wpAt_execs_cons (ks_wpAt_mono (Q := fun f s' => f = .next ∧ Inv (cxC P w K mg base ["self", fl] qual (iniScope fl) fI (.ref cda) cc A outer s H) [] [some (.ref a), some (.int i)] H s') (E := fun _ _ => False) ?_ (fun f s' z => ?_) fun _ _ z => z.elim)
  · obtain ⟨ccl, cdd, vs0, ccs, file, tf, hcode, hvs, hfile⟩ := T.file
    obtain ⟨t0, hx0⟩ := exo_at I0.hok ha
    have hcl : PySem.W.clsIn K C = some { name := nm, bases := bs, mro := .ref C :: bm, ns := N, qualname := q, hasDict := true, slotNames := sn, subclasses := sub, abstract := ab, collection := col, hasDel := false } := by unfold PySem.W.clsIn; rw [hC] <;> rfl
    have hm : PySem.W.alongIn K "__init__" (((Value.ref C :: bm).dropWhile (· != .ref C)).drop 1) = some (some (.builtin "ValueError.__init__")) := by
      have z := T.sup
      unfold PySem.W.ks_superIn at z
      rw [hcl] at z
      exact z
    obtain ⟨mb, hb1, hb2⟩ := e0.mod.blt
    refine ks_wpAt_Expr_any (at_meth hline rfl ?_)
    refine ks_wpAt_super_base (f := fI) (cc := cda) hsup hcls (by decide) rfl (I0.kIn _ _ lk) rfl rfl rfl (I0.kIn _ _ hcode) rfl hvs hfile T.topq ?_
    refine PySem.W.ks_loadName_global rfl hsup (PySem.Calls.loadGlobal_builtin (env := PySem.W.ksEnv qual (iniScope fl) s.heap.objs.size fI (.ref cda) cc) (e0.mod.glob.keeps I0.bk) (PySem.W.mg_none_of e0.mod.kin e0.mod.glob T.nosup) (hb1.keeps I0.bk) ((hb2 _ (by decide)).trans boot_super) ⟨rfl, ?_⟩)
    refine wpAny_loadName_free rfl hcls rfl ⟨_, I0.kIn _ _ hcell, rfl⟩ ?_
    rw [na1]
    refine wpAny_loadName_local rfl rfl hns (v := .ref a) ?_ ?_
    · show ([(fl, u), ("self", .ref a)] : List (PySem.Str × Value)).lookup ("self" : PySem.Str) = _
      have e : (("self" : PySem.Str) == fl) = false := beq_eq_false_iff_ne.mpr (Ne.symm T.ne1)
      rw [List.lookup_cons, e]
      rfl
    refine ks_wpAny_isType_cls (I0.kIn _ _ hC) rfl ⟨rfl, ?_⟩
    refine ks_wpAny_call_super (I0.kIn _ _ hC) rfl hx0 rfl (fun c z => by cases z) (PySem.W.looks_mroIn I0.kIn T.mro) fun h2 e2 k2 pl => ?_
    have I2 := I0.kept (h' := h2) (t' := s.toks + 2) k2
    have J2 : PySem.W.InstAt h2 a { cls := .ref C, data := .fields #[.ref t0, .none, .none, .none, .bool false, .none] } C none := ⟨k2 _ _ hx0, rfl, rfl, trivial⟩
    refine PySem.W.kxs_getMethod PySem.W.kxs_ValueError e2 (PySem.W.looks_opaque I2.kIn T.opq) (l₀ := .ref C :: bm) (fun A Q E s k q => wpAny_bind ((PySem.W.looks_clsIn I2.kIn hcl) A _ E s k (wpAny_pure q))) rfl I2.kIn hm (J2.type.andThen (PySem.W.looks_subIn I2.kIn T.ve)) (PySem.W.ks_ne I2.kIn J2 hcl) (by decide) ?_
    have k3 : ∀ b o, h2.get? b = some o → (h2.push (PySem.W.kxs_mw "ValueError.__init__" a)).get? b = some o := fun b o e => Heap.get?_push_of_some _ e
    have I3 := I2.kept (h' := h2.push (PySem.W.kxs_mw "ValueError.__init__" a)) (t' := s.toks + 2 + 1) k3
    have I4 := I3.pins_of (pins' := [(h2.objs.size, PySem.W.kxs_mw "ValueError.__init__" a)]) fun p hp => by
      simp at hp
      subst hp
      refine ⟨Heap.get?_push_at rfl rfl, I2.hok.fresh (Nat.le_refl _), fun z => ?_, I2.nofs (Nat.le_refl _), fun v z => by cases z⟩
      obtain ⟨m, ⟨o, es, ep, eo, _⟩, _⟩ := I2.loc
      have := Heap.lt_size eo
      rw [← z] at this
      exact absurd this (Nat.lt_irrefl _)
    show wpAny _ _ (callWith p6 (.ref h2.objs.size) [] ((false, eval (.Call (.Name "copied" p3) [.Name fl p4] [] p5) (PySem.W.ksEnv qual (iniScope fl) s.heap.objs.size fI (.ref cda) cc)) :: backTo p6 (starEach [] (PySem.W.ksEnv qual (iniScope fl) s.heap.objs.size fI (.ref cda) cc))) []) _ _ _
    refine PySem.W.kxs_callWith (i := "ValueError.__init__") (x := a) rfl (PySem.Calls.evalArgs_plain (thn ((pa_cons cop pa_nil).run p6 _ _ _ H (fun vs H1 => vs = [.int i] ∧ H1 = H) I4 ⟨.int i, rfl, i, rfl, rfl, rfl⟩) fun us s5 ⟨vs, H5, I5, r5, e5, e6⟩ => ?_))
    subst e5 e6
    have hu := (I5.pin _ (List.mem_append_right _ (List.mem_cons_self))).1
    refine ⟨hu, ?_⟩
    obtain ⟨t5, hx5⟩ := exo_at I5.hok ha
    have hl : us.length ≤ sizeLine := by
      rw [← Paired.length r5, sizeLine_eq]
      show 1 ≤ 16777216
      omega
    obtain ⟨h5, g5, d5, tk5, os5⟩ := s5
    refine call_veInit (I5.kIn _ _ hC) hx5 hu hl fun h6 t6 k6 hx6 => ⟨rfl, ?_⟩
    have J := I5.write (t' := tk5) (x := a) (e := a) (o := exo a C none) (by rw [ha]; exact True.intro) (.inl rfl) k6 ⟨_, hx6⟩ (exo_ok hx6)
    have eu : upd H5 a (exo a C none) = H5 := by
      funext b
      by_cases hb : b = a
      · rw [hb, upd_same, ha]
      · rw [upd_ne hb]
    rw [eu] at J
    exact J.pins_of fun p hp => absurd hp (by simp)
  · obtain ⟨rfl, I1⟩ := z
    refine wpAt_of_wpAny (wpAny_mono ((pss_one (ps_ost v0 cop)).run [] s' _ H { nx := fun _ H' => Q .non H', rt := Q } I1 ?_) (fun f s'' z => ?_) fun _ _ z => z.elim)
    · refine ⟨.int i, rfl, i, rfl, .ref a, rfl, a, C, rfl, T.ox, T.noat, .inl ⟨ha, fun d h1 h2 => hq d h1 h2⟩⟩
    · match f, z with
      | .next, ⟨σ', H', J, q⟩ => exact ⟨V.non, H', J.os, J.bare, J.base, J.hok, rfl, q⟩
      | .ret _, ⟨v, σ', H', J, rv, q⟩ => exact ⟨v, H', J.os, J.bare, J.base, J.hok, rv, q⟩
      | .brk, ⟨_, _, _, q⟩ => exact q.elim
      | .cont, ⟨_, _, _, q⟩ => exact q.elim
theorem make_guards {A : Around} {C : Addr} {us : List Value} {kw : List (PySem.Str × Value)} (h : A.guards = some []) : (A.under (.builtin "type.__call__" ⟨.ref C :: us, kw⟩)).guards = some [] := by
  first | exact h | (show A.guards = _; exact h) | simp [Around.under, Code.weight, Code.isCreation, Code.isGuard, Code.isCaller, Code.frames, Code.isFrame, guardIds, h]
/-- such a class, called with a number and raised -/
theorem rz_ini {X : Cx} {C fI cc cda : Addr} {fl qual y : PySem.Str} {fd : FuncData} {k : Nat} {fc : Addr} {fdc : FuncData} (T : InitC X.prog X.K C fI cc cda fl qual fd)
    (FC : FnG X.prog X.w X.K X.mg X.base k fc fdc ["value"] spCopI) (mc : X.mg "copied" = some (.ref fc)) (kc : PySem.W.keepIn X.K (.ref fc) = true) (bc : Binds X.K fdc ["value"] [])
    (hr : Room (k + 2) X.A) (hgd : X.A.guards = some []) (hg : Gl X y) (hm : X.mg y = some (.ref C)) (hdb : (y == ("__debug__" : PySem.Str)) = false) : Rz X (.ref C) y := by
  intro ea p pos te hs he pins s σ H Q I h
  obtain ⟨nm, q, N, bs, bm, sn, sub, ab, col, dd, k0, k1, k2, k3, k5, hC, hbm⟩ := T.ox.cls
  refine wpAny_Call_Name_kw (ld_glob I hg hm ?_ hdb)
  refine PySem.W.callWith_K (h₀ := X.base) I.ok.mod.kin T.ox.kC (thn ((pa_cons he pa_nil (star_of hs)).run pos pins s σ H (fun vs H1 => match vs with | [v] => ∃ i, v = .int i ∧ ∀ dd H', Same H1 H' → Q (.ref C) dd H' | _ => False) I h) fun us s1 ⟨vs, H1, I1, r1, q1⟩ => ⟨I1.kIn, ?_⟩) (star_of hs) rfl
  match vs, q1 with
  | [_], ⟨i, rfl, q1⟩ =>
  show wpAny _ _ (PySem.call (.ref C) us) _ _ _
  cases r1 with
  | @cons _ u0 _ ur ra rw' =>
  cases rw' with
  | nil =>
  obtain ⟨hp, g, dr, tk, os⟩ := s1
  have hsz : hp.objs.size ≤ hp.objs.size + 1 := Nat.le_succ _
  have hn : H1 (hp.objs.size + 1) = none := I1.hok.fresh hsz
  have kk : ∀ b o, hp.get? b = some o → ((hp.push (PySem.W.kdv_tup [u0])).push (PySem.HandSPX.excO C hp.objs.size)).get? b = some o := fun b o e => Heap.get?_push_of_some _ (Heap.get?_push_of_some _ e)
  have hget : ((hp.push (PySem.W.kdv_tup [u0])).push (PySem.HandSPX.excO C hp.objs.size)).get? (hp.objs.size + 1) = some (PySem.HandSPX.excO C hp.objs.size) := by heap_get
  have I2 : Inv X pins σ (upd H1 (hp.objs.size + 1) (exo (hp.objs.size + 1) C none)) ⟨(hp.push (PySem.W.kdv_tup [u0])).push (PySem.HandSPX.excO C hp.objs.size), g, dr, tk, os⟩ :=
    I1.laid (t' := tk) (a := hp.objs.size + 1) (o := exo (hp.objs.size + 1) C none) (h' := (hp.push (PySem.W.kdv_tup [u0])).push (PySem.HandSPX.excO C hp.objs.size)) kk hsz (exo_ok hget)
  refine wpAny_call (PySem.HandSPX.call_own F.excBase_ValueError (fun Y => PySem.HandSPX.refsVE_contains Y bm hbm) (I1.kIn _ _ hC) (PySem.W.looks_findIn I1.kIn T.find) (fun self => PySem.W.bind_fn I1.kIn self T.typ) (by show 1 ≤ sizeLine; rw [sizeLine_eq]; omega)
    (codeAny_mono (ini_run (Q := fun v H2 => v = .non ∧ ∃ (d : Addr) (fs : List (PySem.Str × V)), H2 (hp.objs.size + 1) = some (exo (hp.objs.size + 1) C (some d)) ∧ H2 d = some (exd d fs) ∧ H1 d = none ∧ Q (.ref C) (some d) (upd (del H2 (hp.objs.size + 1)) d (.xd fs))) T FC mc kc bc (hr.make C [u0] []) (make_guards hgd) (I2.env0.make C [u0] []) ra upd_same fun d h1 h2 => ⟨rfl, d, _, upd_same, by rw [upd_ne h2, upd_same], by rw [upd_ne h2] at h1; exact h1, q1 _ _ fun b o e => ?_⟩) fun r s' hq' => ?_))
  · have n1 : b ≠ hp.objs.size + 1 := fun z => by rw [z, hn] at e; cases e
    have n2 : b ≠ d := fun z => by rw [upd_ne h2] at h1; rw [z, h1] at e; cases e
    rw [upd_ne n2, del_ne n1, upd_ne n1, upd_ne n2, upd_ne n1]
    exact e
  · cases r with
    | error er => obtain ⟨_, _, _, _, _, _, _, _, _, _, _, _, z⟩ := hq'; exact z.elim
    | ok fl =>
      cases fl with
      | ret u =>
        obtain ⟨v, H2, os2, bare2, un2, hok2, rv, ev, d, fs, ea, ed, hd1, q2⟩ := hq'
        subst ev
        obtain ⟨h2, g2, d2, t2, os'⟩ := s'
        exact ⟨rv, mk_end (raises_own T.ox.exC T.ox.tyC) I1 hsz kk un2 hok2 os2 bare2 ea ed hd1 q2⟩
      | next => exact False.elim hq'
      | brk => exact False.elim hq'
      | cont => exact False.elim hq'
end O
end

section
set_option Elab.async false
set_option linter.all false
set_option maxRecDepth 100000
set_option maxHeartbeats 4000000
/-! OHook: what the head is looked at for: the library's facts, an own test, the __init__ of own exceptions. -/
namespace O
open PySem PySem.Spec PyProof.Rows L2 He
structure IniD where
  cls : PySem.Str
  fl : PySem.Str
  qual : PySem.Str
  args : Arguments
  body : List Stmt
  scope : Scope
abbrev IniV : Type := Option (PySem.Str × PySem.Str × Arguments × FuncBody × Scope × Addr × Addr)
def IniD.val (d : IniD) : IniV := some ("__init__", d.qual, d.args, .stmts d.body, d.scope, mainGlobals, builtinsNs)
def iniObs (K : PySem.W.Frag) (d : IniD) : IniV := match K.lookup (ma K (ga K d.cls) "__init__") with
  | some ⟨_, _, .func fd, _⟩ => some (fd.name, fd.qualname, fd.params, fd.body, fd.scope, fd.globals, fd.builtins)
  | _ => none
/-- a class below ValueError, its own dict, no own making -/
def exoB (K : PySem.W.Frag) (C : Addr) : Bool := match K.lookup C with
  | some ⟨.type t, _, .cls cd, sl⟩ => (match cd.mro, sl.toList with
    | .ref C' :: bm, [_, _, _, _, some (.builtin n), _] => decide (t = "type") && decide (C' = C) && decide (n = "ValueError.__new__") && !cd.hasDel && cd.hasDict && PySem.HandSPX.refsVE bm
    | _, _ => false)
  | _ => false
theorem exoB_ok {K : PySem.W.Frag} {C : Addr} (h : exoB K C = true) : ∃ nm q N bs bm sn sub ab col dd k0 k1 k2 k3 k5, K.lookup C = some (excClassObj nm q C N bs bm true sn sub ab col dd k0 k1 k2 k3 k5 "ValueError.__new__") ∧ PySem.HandSPX.refsVE bm = true := by
  unfold exoB at h
  split at h
  · rename_i t dd cd sl hl
    split at h
    · rename_i C' bm k0 k1 k2 k3 n k5 hm hs
      simp only [Bool.and_eq_true, decide_eq_true_eq, Bool.not_eq_true'] at h
      obtain ⟨⟨⟨⟨⟨rfl, rfl⟩, rfl⟩, h3⟩, h4⟩, h5⟩ := h
      obtain ⟨nm, bs, mro, ns, qn, hd, sn, sub, ab, col, del⟩ := cd
      simp only at hm h3 h4
      subst hm h3 h4
      have hsl : sl = #[k0, k1, k2, k3, some (.builtin "ValueError.__new__"), k5] := by
        obtain ⟨l⟩ := sl
        simp only at hs
        rw [hs]
      subst hsl
      exact ⟨nm, qn, ns, bs, bm, sn, sub, ab, col, dd, k0, k1, k2, k3, k5, hl, h5⟩
    · cases h
  · cases h
def fileB (K : PySem.W.Frag) (a : Addr) (file : PySem.Str) : Bool := match K.lookup a with
  | some ⟨_, _, .fields vs, _⟩ => (match vs[2]? with
    | some (Value.str f _) => file == f
    | _ => false)
  | _ => false
def cellB (K : PySem.W.Frag) (a C : Addr) : Bool := match K.lookup a with
  | some ⟨_, _, .cell (some (.ref D')), _⟩ => decide (D' = C)
  | _ => false
def iniB (K : PySem.W.Frag) (file qual : PySem.Str) (C fI : Addr) : Bool := match K.lookup fI with
  | some ⟨_, _, .func fd, _⟩ => (match fd.closure, fd.defaults, fd.code with
    | [(n, cc)], .none, .ref cda => decide (n = "__class__") && cellB K cc C && PySem.W.codeIn K (.ref cda) qual && fileB K cda file
    | _, _, _ => false)
  | _ => false
def IniD.ok (K : PySem.W.Frag) (file : PySem.Str) (d : IniD) : Bool :=
  exoB K (ga K d.cls) && eqO (PySem.W.findIn K (.ref (ga K d.cls)) "__setattr__") (some (some (.builtin "object.__setattr__"))) && decide (PySem.W.subIn K (.ref (ga K d.cls)) (.type "BaseException") = some true) && decide (PySem.W.typeIn K (.ref (ga K d.cls)) = some (.type "type")) && PySem.W.keepIn K (.ref (ga K d.cls)) &&
  eqO (PySem.W.findIn K (.ref (ga K d.cls)) "__init__") (some (some (.ref (ma K (ga K d.cls) "__init__")))) && eqO (PySem.W.findIn K (.ref (ga K d.cls)) d.fl) (some none) && decide (PySem.W.typeIn K (.ref (ma K (ga K d.cls) "__init__")) = some (.type "function")) && iniB K file d.qual (ga K d.cls) (ma K (ga K d.cls) "__init__") &&
  decide (PySem.W.mroIn K (ga K d.cls) (.ref (ga K d.cls)) = some true) && eqO (PySem.W.ks_superIn K (ga K d.cls) (ga K d.cls) "__init__") (some (some (.builtin "ValueError.__init__"))) && decide (PySem.W.subIn K (.ref (ga K d.cls)) (.type "ValueError") = some true) &&
  eqO (PySem.W.nsIn K mainGlobals "super") (some none) && eqO (PySem.W.nsIn K cStatics "thirdparty.any") (some none)
theorem iniB_ok {K : PySem.W.Frag} {file qual : PySem.Str} {C fI : Addr} (h : iniB K file qual C fI = true) : ∃ oc od osl fd cc cda, K.lookup fI = some ⟨oc, od, .func fd, osl⟩ ∧ fd.closure = [(("__class__" : PySem.Str), cc)] ∧ fd.defaults = .none ∧ fd.code = .ref cda ∧ PySem.W.codeIn K (.ref cda) qual = true ∧
    (∃ cl cld csl, K.lookup cc = some ⟨cl, cld, .cell (some (.ref C)), csl⟩) ∧ ∃ ccl cdd vs ccs f tf, K.lookup cda = some ⟨ccl, cdd, .fields vs, ccs⟩ ∧ vs[2]? = some (.str f tf) ∧ (file == f) = true := by
  unfold iniB at h
  split at h
  · rename_i oc od fd osl hl
    split at h
    · rename_i n cc cda h1 h2 h3
      simp only [Bool.and_eq_true, decide_eq_true_eq] at h
      obtain ⟨⟨⟨rfl, h4⟩, h5⟩, h6⟩ := h
      refine ⟨oc, od, osl, fd, cc, cda, hl, h1, h2, h3, h5, ?_, ?_⟩
      · unfold cellB at h4
        split at h4
        · rename_i cl cld D' csl hc
          simp only [decide_eq_true_eq] at h4
          subst h4
          exact ⟨cl, cld, csl, hc⟩
        · cases h4
      · unfold fileB at h6
        split at h6
        · rename_i ccl cdd vs ccs hc
          split at h6
          · rename_i f tf hv
            exact ⟨ccl, cdd, vs, ccs, f, tf, hc, hv, h6⟩
          · cases h6
        · cases h6
    · cases h
  · cases h
theorem IniD.initC {P : Program} {K : PySem.W.Frag} {d : IniD} (e : iniObs K d = d.val) (c : d.ok K P.main.file = true) {ar1 ar2 : Arg} {p0 p1 p2 p3 p4 p5 p6 p7 p8 p9 p10 p11 p12 p13 : Pos}
    (ha : d.args = { posonlyargs := [], args := [ar1, ar2], vararg := none, kwonlyargs := [], kw_defaults := [], kwarg := none, defaults := [] }) (hb : d.body = iniBody d.fl p0 p1 p2 p3 p4 p5 p6 p7 p8 p9 p10 p11 p12 p13) (hs : d.scope = iniScope d.fl) (a1 : ar1.arg = "self") (a2 : ar2.arg = d.fl) (hl : (p2.endLine == p6.line) = true)
    (bd : ∀ (kV doc pm : Value) (an : Option Addr) (cda : Addr) (ct : Value) (cc : Addr) (u v : Value), bindArgs (PySem.W.ksFn "__init__" d.qual d.args d.body d.scope .none kV doc pm an (.ref cda) ct cc) ⟨[u, v], []⟩ = Pure.pure [(("self" : PySem.Str), u), (d.fl, v)])
    (topq : (P.main.scope.names.lookup ("super" : PySem.Str)).isSome = false) (n1 : d.fl ≠ "self") (n2 : d.fl ≠ "__class__") (n3 : (d.fl == ("__debug__" : PySem.Str)) = false) (n4 : (d.fl == ("__classdict__" : PySem.Str)) = false) (n5 : d.fl ≠ "super") (n6 : d.fl ≠ "copied") :
    ∃ fI cc cda fd, InitC P K (ga K d.cls) fI cc cda d.fl d.qual fd := by
  unfold IniD.ok at c
  simp only [Bool.and_eq_true, decide_eq_true_eq] at c
  obtain ⟨⟨⟨⟨⟨⟨⟨⟨⟨⟨⟨⟨⟨c1, c2⟩, c3⟩, c4⟩, c5⟩, c6⟩, c7⟩, c8⟩, c9⟩, c10⟩, c11⟩, c12⟩, c13⟩, c14⟩ := c
  obtain ⟨oc, od, osl, fd, cc, cda, lk, h1, h2, h3, h4, h5, h6⟩ := iniB_ok c9
  unfold iniObs at e
  rw [lk] at e
  obtain ⟨m1, m2, m3, m4, m5, m6, m7, m8, m9, m10, m11, m12, m13, m14, m15⟩ := fd
  simp only at h1 h2 h3
  subst h1 h2 h3
  simp only [IniD.val, Option.some.injEq, Prod.mk.injEq] at e
  obtain ⟨rfl, rfl, rfl, rfl, rfl, rfl, rfl⟩ := e
  refine ⟨ma K (ga K d.cls) "__init__", cc, cda, _, ⟨exoB_ok c1, eqO_ok c2, c3, c4, c5⟩, eqO_ok c6, eqO_ok c7, c8, ⟨oc, od, osl, lk⟩, ⟨ar1, ar2, m9, m10, m11, m12, m14, p0, p1, p2, p3, p4, p5, p6, p7, p8, p9, p10, p11, p12, p13, ?_, a1, a2, hl⟩, fun u v => bd _ _ _ _ _ _ _ u v, h4, h6, h5, c10, eqO_ok c11, c12, eqO_ok c13, eqO_ok c14, topq, n1, n2, n3, n4, n5, n6⟩
  rw [← ha, ← hb, ← hs]
/-! ### the Hook -/
abbrev AlX : Type := AlT × (List IniV × Bool)
def obsX (fa : List Fa) (fn : List DefD) (ts : List Tab) (file : PySem.Str) (ini : List IniD) (ex : PySem.W.Frag → Bool) (K : PySem.W.Frag) : AlX := (obsT fa fn ts K, ini.map (iniObs K), (ini.all fun d => d.ok K file) && ex K)
def valX (fn : List DefD) (ts : List Tab) (ini : List IniD) (w : World) : AlX := (valT fn ts w, ini.map IniD.val, true)
def obsXG (n : Nat) (fa : List Fa) (fn : List DefD) (ts : List Tab) (file : PySem.Str) (ini : List IniD) (ex : PySem.W.Frag → Bool) (g : Addr → Option Obj) : AlX := obsX fa fn ts file ini ex (frG g (cStatics :: asD g n))
def SaysX (fa : List Fa) (fn : List DefD) (ts : List Tab) (file : PySem.Str) (ini : List IniD) (ex : PySem.W.Frag → Bool) (w : World) (K : PySem.W.Frag) : Prop := obsX fa fn ts file ini ex K = valX fn ts ini w
def hookX (n : Nat) (fa : List Fa) (fn : List DefD) (ts : List Tab) (file : PySem.Str) (ini : List IniD) (ex : PySem.W.Frag → Bool) : PySem.W.Hook where
  α := AlX
  obs := fun s => obsXG n fa fn ts file ini ex s.heap.get?
  val := fun w => valX fn ts ini w
  says := fun w h => ∃ K : PySem.W.Frag, K.In h ∧ SaysX fa fn ts file ini ex w K
  of := fun _ _ e => ⟨_, frG_in, e⟩
  keeps := fun _ _ _ ⟨K, hK, c⟩ k => ⟨K, PySem.W.Frag.In.keeps hK k, c⟩
theorem obsXG_eq {n : Nat} {fa : List Fa} {fn : List DefD} {ts : List Tab} {file : PySem.Str} {ini : List IniD} {ex : PySem.W.Frag → Bool} {g : Addr → Option Obj} {s : Shared} (h : ∀ a, g a = s.heap.get? a) : obsXG n fa fn ts file ini ex g = (hookX n fa fn ts file ini ex).obs s := by
  have e : g = s.heap.get? := funext h
  rw [e] <;> rfl
section
variable {fa : List Fa} {fn : List DefD} {ts : List Tab} {file : PySem.Str} {ini : List IniD} {ex : PySem.W.Frag → Bool} {w : World} {K : PySem.W.Frag}
theorem SaysX.t (c : SaysX fa fn ts file ini ex w K) : SaysT fa fn ts w K := congrArg (fun z : AlX => z.1) c
theorem SaysX.exT (c : SaysX fa fn ts file ini ex w K) : ex K = true := (ba (show ((ini.all fun d => d.ok K file) && ex K) = true from congrArg (fun z : AlX => z.2.2) c)).2
theorem SaysX.iniT (c : SaysX fa fn ts file ini ex w K) (i : Nat) {d : IniD} (h : ini[i]? = some d) : iniObs K d = d.val ∧ d.ok K file = true := by
  have c1 := (ba (show ((ini.all fun d => d.ok K file) && ex K) = true from congrArg (fun z : AlX => z.2.2) c)).1
  have e : ini.map (iniObs K) = ini.map IniD.val := congrArg (fun z : AlX => z.2.1) c
  have e2 : (ini.map (iniObs K))[i]? = (ini.map IniD.val)[i]? := by rw [e]
  rw [List.getElem?_map, List.getElem?_map, h] at e2
  exact ⟨Option.some.inj e2, List.all_eq_true.mp c1 d (List.mem_of_getElem? h)⟩
end
end O
end

section
set_option Elab.async false
set_option linter.all false
set_option maxRecDepth 100000
set_option maxHeartbeats 4000000
/-! OLaw: tables with text keys; the drawn source's making as a def; a law's own def. -/
namespace O
open PySem PySem.Spec PyProof.Rows L2
/-! ### a table with text keys -/
theorem isStr_keyOf {e : DictEntry} {k : PySem.Str} {h : Int} (x : He.keyOf e = some (k, h)) (z : PySem.Str) : e.key.isStr z = (k == z) := by
  unfold He.keyOf at x
  split at x
  · rename_i y t q
    cases x
    rw [q]; rfl
  · cases x
theorem find_none {P : Params} {z : PySem.Str} : ∀ {l : List DictEntry} {ks : List PySem.Str}, l.map He.keyOf = He.keysIn P ks → z ∉ ks → l.find? (·.key.isStr z) = none ∧ l.any (·.refKey) = false
  | [], _, _, _ => ⟨rfl, rfl⟩
  | e :: r, [], h, _ => by cases h
  | e :: r, k :: ks, h, hn => by
    have h1 : He.keyOf e :: r.map He.keyOf = some (k, PyData.keyHash P k) :: He.keysIn P ks := h
    injection h1 with h2 h3
    obtain ⟨q1, q2⟩ := find_none h3 fun m => hn (List.mem_cons_of_mem _ m)
    have hk : e.key.isStr z = false := by
      rw [isStr_keyOf h2 z]
      exact beq_eq_false_iff_ne.mpr fun e => hn (by rw [e]; exact List.mem_cons_self)
    refine ⟨by rw [List.find?_cons, hk]; exact q1, ?_⟩
    rw [List.any_cons, q2, Bool.or_false]
    unfold He.keyOf at h2
    split at h2
    · rename_i y t q
      unfold DictEntry.refKey
      rw [q]
    · cases h2
theorem nsIn_none {K : PySem.W.Frag} {w : World} {a : Addr} {ks : List PySem.Str} {z : PySem.Str} (h : He.dicW K a = some (He.keysIn w.params ks)) (hn : z ∉ ks) : PySem.W.nsIn K a z = some none := by
  unfold He.dicW at h
  split at h
  · rename_i c es m sl hl
    split at h
    · obtain ⟨q1, q2⟩ := find_none (Option.some.inj h) hn
      unfold PySem.W.nsIn
      rw [hl]
      simp only [q1, q2]
      rfl
    · cases h
  · cases h
/-- what the table tells, as data -/
theorem kdOk_of {X : Cx} {g : Gx} {G : Nat → D} {y : PySem.Str} {i : Nat} {ks : List PySem.Str} {a : Addr} {kvs : List (D × D)} {vals : List (PySem.Str × He.Dv)} (hm : X.mg y = some (.ref a)) (hd : He.dicW X.K a = some (He.keysIn X.w.params ks)) (hv : He.valsB X.K a vals = true) (hG : G i = .dct kvs)
    (h : ∀ s r, keyG (.dct kvs) (.str s) = some r → (r = none ∧ strV s ∉ ks) ∨ ∃ p z, p ∈ vals ∧ p.1 = strV s ∧ r = some z ∧ ∀ A H, Rep g.K g.q A 0 H (p.2.v X.K) z) : KdOk X g G y i := by
  obtain ⟨es, n, D'⟩ := He.dicW_ok hd
  refine ⟨a, es, n, hm, D', fun s r e => ?_⟩
  rw [hG] at e
  rcases h s r e with ⟨rfl, hn⟩ | ⟨p, z, hp, e1, rfl, rp⟩
  · exact .inl ⟨rfl, nsIn_none hd hn⟩
  · obtain ⟨u, hu, rv⟩ := He.valsB_ok hv hp
    rw [e1] at hu
    exact .inr ⟨u, _, z, rfl, hu, rv, rp⟩
/-! ### _law_open_cells as a def -/
theorem open_fnG {P : Program} {w : World} {K : PySem.W.Frag} {mg : PySem.Str → Option Value} {base : Heap} {x qual : PySem.Str} {st : Stmt} {f : Addr} {fd : FuncData} {n : Nat} {p0 p1 p2 p3 p4 p5 p6 p7 p8 p9 p10 p11 p12 p13 p14 p15 p16 p17 p18 p19 p20 p21 p22 p23 p24 p25 p26 p27 p28 p29 p30 p31 p32 p33 p34 p35 p36 p37 p38 p39 p40 p41 p42 : Pos} (F : Fun K x qual st f fd)
    (hb : defBody st = openBody p0 p1 p2 p3 p4 p5 p6 p7 p8 p9 p10 p11 p12 p13 p14 p15 p16 p17 p18 p19 p20 p21 p22 p23 p24 p25 p26 p27 p28 p29 p30 p31 p32 p33 p34 p35 p36 p37 p38 p39 p40 p41 p42) (hs : defScope st = openScope) (hl : (p21.line == p27.line) = true) (m1 : mg "int" = none) (m2 : mg "abs" = none) :
    FnG P w K mg base (n + 1) f fd ["_law_script"] (spOpen K) := by
  refine fnG_of (N := openN) F ⟨by rw [hs]; rfl, by rw [hs]; rfl, by rw [hs]; rfl, by decide +kernel, rfl, by rw [hs]; decide +kernel, by rw [hs]; decide +kernel⟩ (fun vs H Q E ⟨a, ns, e, _⟩ => by rw [e]; rfl) fun cdv A outer s H vs Q E hr hg hq => ?_
  have ok : OpenX (cxOf (L2.CX P w) P w K mg base openN qual (defScope st) f cdv A outer s H E) := ⟨rfl, hs, fun _ => rfl, rfl, m1, m2, passes_of rfl⟩
  obtain ⟨t, ht, hz⟩ := open_walk ok (p0 := p0) (p1 := p1) (p2 := p2) (p3 := p3) (p4 := p4) (p5 := p5) (p6 := p6) (p7 := p7) (p8 := p8) (p9 := p9) (p10 := p10) (p11 := p11) (p12 := p12) (p13 := p13) (p14 := p14) (p15 := p15) (p16 := p16) (p17 := p17) (p18 := p18) (p19 := p19) (p20 := p20) (p21 := p21) (p22 := p22) (p23 := p23) (p24 := p24) (p25 := p25) (p26 := p26) (p27 := p27) (p28 := p28) (p29 := p29) (p30 := p30) (p31 := p31) (p32 := p32) (p33 := p33) (p34 := p34) (p35 := p35) (p36 := p36) (p37 := p37) (p38 := p38) (p39 := p39) (p40 := p40) (p41 := p41) (p42 := p42) hl
  rw [hb]
  exact ⟨t, ht, hz vs H Q E hq⟩
theorem openOS_ok {ns : List Int} (h : ns.length ≤ 63) : OSok (openOS ns) := by
  refine ⟨fun c hc => ?_, by show (0 : Int) ≤ 1; decide, ?_, Int.le_refl _, by show (ns.map _).length ≤ 63; rw [List.length_map]; exact h⟩
  · obtain ⟨n, _, rfl⟩ := List.mem_map.mp hc
    exact Int.natCast_nonneg _
  · show 0 ≤ ns.foldl stirF 11 ∧ _
    have : ∀ (l : List Int) (x : Int), 0 ≤ x ∧ x < 2147483629 → 0 ≤ l.foldl stirF x ∧ l.foldl stirF x < 2147483629 := by
      intro l
      induction l with
      | nil => intro x hx; exact hx
      | cons c l ih => intro x hx; exact ih _ ⟨Int.emod_nonneg _ (by decide), Int.emod_lt_of_pos _ (by decide)⟩
    exact this ns 11 (by decide)
/-! ### the law's own def -/
/-- the promise of a law: at every script of at most 63 numbers it answers True -/
def spLaw (K : PySem.W.Frag) : Sp := fun vs H Q _ => ∃ (a : Addr) (ns : List Int), vs = [.ref a] ∧ SqL K H a (ns.map V.int) ∧ ns.length ≤ 63 ∧ ∀ H', Q (.bl true) H'
theorem pss_ex {X : Cx} {α : Type} {ss : List Stmt} {t : α → TS} (h : ∀ a, PSs X ss (t a)) : PSs X ss (fun D σ H => ∃ a, t a D σ H) := ⟨fun pins s σ H D I ⟨a, q⟩ => (h a).run pins s σ H D I q⟩
theorem law_fnG {P : Program} {w : World} {K : PySem.W.Frag} {mg : PySem.Str → Option Value} {base : Heap} {M : MI} {d : DI} {fn : Fn} {st : Stmt} {f fo : Addr} {fd fdo : FuncData} {n : Nat} {F : Nat → List D → OS → R D} {G : Nat → D} {W : Nat} {ct : Nat → Value} {rest : List Stmt} {p0 p1 p2 p3 p4 : Pos}
    (FF : Fun K d.x d.qual st f fd) (S : FnScope d.N ["_law_script"] (defScope st)) (hb : defBody st = .Assign [.Name "_law_source" p0] (.Call (.Name "_law_open_cells" p1) [.Name "_law_script" p2] [] p3) p4 :: rest) (ck : ckSs (tx M d (defScope st)) fn.body rest = true)
    (h0 : d.N[0]? = some ("_law_script" : PySem.Str)) (h1 : d.N[1]? = some ("_law_source" : PySem.Str)) (hl1 : (defScope st).names.lookup ("_law_source" : PySem.Str) = some .local) (hl0 : (defScope st).names.lookup ("_law_script" : PySem.Str) = some .local) (hgo : (defScope st).names.lookup ("_law_open_cells" : PySem.Str) = some .globalImplicit) (hms : ∀ j, at0 d.ms j = 0) (hks : at0 d.ks 1 = 0) (hrt : d.rt = ⟨0, 0⟩)
    (mo : ∀ q, MOk P w K mg base ⟨K, q, ct⟩ M G) (hn : 10 ≤ n) (OPF : FnG P w K mg base n fo fdo ["_law_script"] (spOpen K)) (mOp : mg "_law_open_cells" = some (.ref fo)) (kOp : PySem.W.keepIn K (.ref fo) = true) (bOp : Binds K fdo ["_law_script"] [])
    (pk : ∀ q y, M.pk y = true → ∃ (a : Addr) (fd : FuncData) (ps : List PySem.Str), mg y = some (.ref a) ∧ PySem.W.keepIn K (.ref a) = true ∧ Binds K fd ps [] ∧ FnG P w K mg base n a fd ps (spPick ⟨K, q, ct⟩))
    (sig : ∀ q y i kl τ, M.sig y = some (i, kl, τ) → (∃ (a : Addr) (fd : FuncData) (ps : List PySem.Str), mg y = some (.ref a) ∧ PySem.W.keepIn K (.ref a) = true ∧ Binds K fd ps [] ∧ FnG P w K mg base n a fd ps (spF ⟨K, q, ct⟩ (F i) kl τ)) ∧ ∀ ds o, ds.length ≠ kl.length → F i ds o = .bad)
    (ev : ∀ ns : List Int, ns.length ≤ 63 → ∃ o', evSs F G W fn.body (none :: some .src :: List.replicate (d.N.length - 2) none) (openOS ns) = .ok (.rt (.bl true)) o') :
    FnG P w K mg base (n + 1) f fd ["_law_script"] (spLaw K) := by
  refine fnG_of FF S (fun vs H Q E ⟨a, ns, e, _⟩ => by rw [e]; rfl) fun cdv A outer s H vs Q E hr hg ⟨a, ns, e, hS, hlen, hQ⟩ => ?_
  subst e
  have tk : Takes (cxOf (L2.CX P w) P w K mg base d.N d.qual (defScope st) f cdv A outer s H E) (wx E) := takes_of rfl rfl rfl rfl
  have okS : ∀ q, OkS (cxOf (L2.CX P w) P w K mg base d.N d.qual (defScope st) f cdv A outer s H E) ⟨K, q, ct⟩ n F G (tx M d (defScope st)) E := fun q => by
    refine ⟨⟨(mo q).kk, rfl, S.nd, rfl, rfl, fun _ _ => rfl, ?_, hg, hr, (mo q).outs, fun y i kl τ h => ?_, (mo q).glo, fun y h => ⟨pk q y h⟩, fun y i h => (mo q).kd y i h _ rfl rfl rfl, tk⟩, S.kind, passes_of rfl, rfl, rfl, fun j z => absurd (hms j) z, fun y c h hy => ?_, fun y c h hy pn xe => ?_, fun y c h hy => ?_⟩
    · have := hr.un
      show (A.deeper (envOfC d.qual (defScope st) s.heap.objs.size f cdv)).units + 80 < cLine
      omega
    · obtain ⟨q1, q2⟩ := sig q y i kl τ h
      exact ⟨⟨q1⟩, q2⟩
    · refine (mo q).exn y c h _ rfl rfl rfl rfl rfl rfl hg (hr.mono hn) ?_
      simp only [gN, Bool.and_eq_true, decide_eq_true_eq] at hy
      exact hy.1.1
    · refine (mo q).exn y c h _ rfl rfl rfl rfl rfl rfl hg (hr.mono hn) ?_
      simp only [gN, Bool.and_eq_true, decide_eq_true_eq] at hy
      exact hy.1.1
    · obtain ⟨v, q1, q2⟩ := (mo q).cat y c h
      simp only [gN, Bool.and_eq_true, decide_eq_true_eq, Bool.not_eq_true'] at hy
      exact ⟨v, ⟨hy.1.1, hy.1.2, q1⟩, q2⟩
  rw [hb]
  have v0 : PE (cxOf (L2.CX P w) P w K mg base d.N d.qual (defScope st) f cdv A outer s H E) (.Name "_law_script" p2) (tVar 0) := pe_var h0 (.inl hl0) (by decide) (by decide)
  refine ⟨_, pss_cons (ps_set (i := 1) S.nd h1 (.inl hl1) (pe_callG OPF hr hg hgo mOp kOp bOp tk (pa_cons v0 pa_nil) (by decide) rfl rfl) (sw_plain rfl) (.inl rfl)) (pss_ex fun p : Addr × Addr => ckSs_ok (fu := W) fn.body _ (tx M d (defScope st)) E _ (okS (some p)) ck), ?_⟩
  obtain ⟨o', he⟩ := ev ns hlen
  refine ⟨.ref a, rfl, a, ns, rfl, hS, hlen, fun sa ca H' hne sm hs hc es ec => ?_⟩
  have ln : (L2.start d.N [.ref a]).length = d.N.length := by
    unfold L2.start
    simp only [List.length_append, List.length_map, List.length_replicate, List.length_cons, List.length_nil]
    have := (List.getElem?_eq_some_iff.mp h0).1
    omega
  have l2 : 2 ≤ d.N.length := (List.getElem?_eq_some_iff.mp h1).1
  have orr : Or (some (sa, ca)) H' (openOS ns) := fun s c e => by cases e; exact ⟨hne, es, ec, openOS_ok hlen⟩
  refine ⟨(sa, ca), fun _ => False, H', H', fun b => H' b = none, (none :: some D.src :: List.replicate (d.N.length - 2) none : Env), openOS ns, ⟨fun _ => False, fun _ => [], ⟨⟨⟨?_, fun i e he => ?_⟩, orr, fun b z => z.elim⟩, fun _ z => z, fun _ z => z.elim, fun j hj hk e he => ?_, fun _ z => z.elim, fun _ _ z => (nomatch z), fun j hj => absurd (hms j) hj, fun _ => List.nodup_nil, fun _ _ _ z => (nomatch z), .refl, Ext.refl.chg, fun _ _ z => (nomatch z), fun _ z => z⟩⟩, ?_⟩
  · show (none :: some D.src :: List.replicate (d.N.length - 2) none : List (Option D)).length = _
    rw [List.length_set, ln]
    simp only [List.length_cons, List.length_replicate]
    omega
  · have : i = 1 ∧ e = .src := by
      match i, he with
      | 0, he => cases he
      | 1, he => cases he; exact ⟨rfl, rfl⟩
      | i + 2, he =>
        simp only [List.getElem?_cons_succ, List.getElem?_replicate] at he
        split at he <;> cases he
    obtain ⟨rfl, rfl⟩ := this
    refine ⟨.ref sa, by rw [List.getElem?_set_self (by rw [ln]; omega)], ?_⟩
    unfold Rep
    exact ⟨(sa, ca), rfl, rfl⟩
  · have : j = 1 := by
      match j, he with
      | 0, he => cases he
      | 1, _ => rfl
      | i + 2, he =>
        simp only [List.getElem?_cons_succ, List.getElem?_replicate] at he
        split at he <;> cases he
    subst this
    exact absurd hks hk
  · rw [he]
    intro v H2 _ _ r
    have r1 := r.1
    unfold Rep at r1
    rw [r1]
    exact hQ H2
end O
end

section
set_option Elab.async false
set_option linter.all false
set_option maxRecDepth 100000
/-! OI62: the program's and the law's defs as terms (printed by gen.py). -/
namespace O
namespace K62
/-- 0: word_text -/
def f0 : Fn := ⟨1, 2, false, .cons (.iff (.cmp .is (.var 0) (.con .non)) (.cons (.ret (.con (.str [78]))) .nil) (.nil)) (.cons (.iff (.isi (.var 0) 1) (.cons (.ret (.ite (.var 0) (.con (.str [84])) (.con (.str [70])))) .nil) (.nil)) (.cons (.iff (.isi (.var 0) 0) (.cons (.ret (.bin .add (.bin .add (.con (.str [105])) (.bi .str (.cons (.var 0) .nil))) (.con (.str [59])))) .nil) (.nil)) (.cons (.iff (.isi (.var 0) 2) (.cons (.ret (.bin .add (.bin .add (.bin .add (.con (.str [116])) (.bi .str (.cons (.bi .len (.cons (.var 0) .nil)) .nil))) (.con (.str [58]))) (.var 0))) .nil) (.nil)) (.cons (.ret (.bin .add (.bin .add (.con (.str [40])) (.bi .join (.cons (.con (.str [])) (.cons (.lc [1] (.nm 1) (.e (.var 0)) (.nil) (.call 0 (.cons (.var 1) .nil))) .nil)))) (.con (.str [41])))) .nil))))⟩
/-- 1: digits_from -/
def f1 : Fn := ⟨2, 3, false, .cons (.iff (.or (.cmp .eq (.sl (.var 0) (.var 1) (.bin .add (.var 1) (.con (.int 1)))) (.con (.str []))) (.cmp .notin (.ix (.var 0) (.var 1)) (.glo 0))) (.cons (.rai 1 (.var 1)) .nil) (.nil)) (.cons (.asg (.nm 2) (.bin .add (.var 1) (.con (.int 1)))) (.cons (.whil (.and (.cmp .ne (.ix (.var 0) (.var 1)) (.con (.str [48]))) (.and (.cmp .lt (.var 2) (.bi .len (.cons (.var 0) .nil))) (.cmp .inn (.ix (.var 0) (.var 2)) (.glo 0)))) (.cons (.aug 2 .add (.con (.int 1))) .nil)) (.cons (.ret (.var 2)) .nil)))⟩
/-- 2: integer_from -/
def f2 : Fn := ⟨2, 4, false, .cons (.asg (.nm 2) (.bin .add (.var 1) (.bi .int (.cons (.cmp .eq (.sl (.var 0) (.var 1) (.bin .add (.var 1) (.con (.int 1)))) (.con (.str [45]))) .nil)))) (.cons (.iff (.and (.cmp .gt (.var 2) (.var 1)) (.cmp .eq (.sl (.var 0) (.var 2) (.bin .add (.var 2) (.con (.int 1)))) (.con (.str [48])))) (.cons (.rai 1 (.var 2)) .nil) (.nil)) (.cons (.asg (.nm 3) (.call 1 (.cons (.var 0) (.cons (.var 2) .nil)))) (.cons (.iff (.cmp .ne (.sl (.var 0) (.var 3) (.bin .add (.var 3) (.con (.int 1)))) (.con (.str [59]))) (.cons (.rai 1 (.var 3)) .nil) (.nil)) (.cons (.ret (.tup (.cons (.bi .int (.cons (.sl (.var 0) (.var 1) (.var 3)) .nil)) (.cons (.bin .add (.var 3) (.con (.int 1))) .nil)))) .nil))))⟩
/-- 3: text_from -/
def f3 : Fn := ⟨2, 6, false, .cons (.asg (.nm 2) (.call 1 (.cons (.var 0) (.cons (.var 1) .nil)))) (.cons (.iff (.cmp .ne (.sl (.var 0) (.var 2) (.bin .add (.var 2) (.con (.int 1)))) (.con (.str [58]))) (.cons (.rai 1 (.var 2)) .nil) (.nil)) (.cons (.par [4, 5] (.cons (.bin .add (.var 2) (.con (.int 1))) (.cons (.bi .int (.cons (.sl (.var 0) (.var 1) (.var 2)) .nil)) .nil))) (.cons (.forr (.nm 3) (.r2 (.var 4) (.bi .min2 (.cons (.bin .add (.var 4) (.var 5)) (.cons (.bi .len (.cons (.var 0) .nil)) .nil)))) (.cons (.iff (.not (.chn .le .le (.con (.str [32])) (.ix (.var 0) (.var 3)) (.con (.str [126])))) (.cons (.rai 1 (.var 3)) .nil) (.nil)) .nil)) (.cons (.iff (.cmp .gt (.bin .add (.var 4) (.var 5)) (.bi .len (.cons (.var 0) .nil))) (.cons (.rai 1 (.bi .len (.cons (.var 0) .nil))) .nil) (.nil)) (.cons (.ret (.tup (.cons (.sl (.var 0) (.var 4) (.bin .add (.var 4) (.var 5))) (.cons (.bin .add (.var 4) (.var 5)) .nil)))) .nil)))))⟩
/-- 4: read_word -/
def f4 : Fn := ⟨1, 5, false, .cons (.par [1, 2] (.cons (.con (.int 0)) (.cons (.nn) .nil))) (.cons (.whil (.and (.cmp .lt (.var 1) (.bi .len (.cons (.var 0) .nil))) (.not (.and (.cmp .eq (.bi .len (.cons (.var 2) .nil)) (.con (.int 1))) (.ix (.var 2) (.con (.int 0)))))) (.cons (.asg (.nm 3) (.ix (.var 0) (.var 1))) (.cons (.iff (.cmp .eq (.var 3) (.con (.str [40]))) (.cons (.appN 2) (.cons (.aug 1 .add (.con (.int 1))) (.cons (.cnt) .nil))) (.nil)) (.cons (.iff (.and (.cmp .eq (.var 3) (.con (.str [41]))) (.cmp .gt (.bi .len (.cons (.var 2) .nil)) (.con (.int 1)))) (.cons (.popT 2 4 1 (.bin .add (.var 1) (.con (.int 1)))) .nil) (.cons (.iff (.inG false (.var 3) 1) (.cons (.par [4, 1] (.cons (.ixG 1 (.var 3)) (.cons (.bin .add (.var 1) (.con (.int 1))) .nil))) .nil) (.cons (.iff (.cmp .eq (.var 3) (.con (.str [105]))) (.cons (.asg (.tup (.cons (.nm 4) (.cons (.nm 1) .nil))) (.call 2 (.cons (.var 0) (.cons (.bin .add (.var 1) (.con (.int 1))) .nil)))) .nil) (.cons (.iff (.cmp .eq (.var 3) (.con (.str [116]))) (.cons (.asg (.tup (.cons (.nm 4) (.cons (.nm 1) .nil))) (.call 3 (.cons (.var 0) (.cons (.bin .add (.var 1) (.con (.int 1))) .nil)))) .nil) (.cons (.rai 1 (.var 1)) .nil)) .nil)) .nil)) .nil)) (.cons (.appL 2 (.var 4)) .nil))))) (.cons (.iff (.or (.cmp .gt (.bi .len (.cons (.var 2) .nil)) (.con (.int 1))) (.or (.not (.ix (.var 2) (.con (.int 0)))) (.cmp .lt (.var 1) (.bi .len (.cons (.var 0) .nil))))) (.cons (.rai 1 (.var 1)) .nil) (.nil)) (.cons (.ret (.ix (.ix (.var 2) (.con (.int 0))) (.con (.int 0)))) .nil)))⟩
/-- 5: check_of -/
def f5 : Fn := ⟨1, 3, false, .cons (.asg (.nm 1) (.bi .len (.cons (.var 0) .nil))) (.cons (.forr (.nm 2) (.e (.var 0)) (.cons (.asg (.nm 1) (.bin .mod (.bin .add (.bin .mul (.con (.int 131)) (.var 1)) (.bi .ord (.cons (.var 2) .nil))) (.con (.int 99991)))) .nil)) (.cons (.ret (.slo (.bi .str (.cons (.bin .add (.con (.int 100000)) (.var 1)) .nil)) (.con (.int 1)))) .nil))⟩
/-- 6: sealed -/
def f6 : Fn := ⟨1, 1, false, .cons (.ret (.bin .add (.bin .add (.bin .add (.bi .str (.cons (.bi .len (.cons (.var 0) .nil)) .nil)) (.con (.str [58]))) (.var 0)) (.call 5 (.cons (.var 0) .nil)))) .nil⟩
/-- 7: records -/
def f7 : Fn := ⟨1, 2, false, .cons (.ret (.bi .join (.cons (.con (.str [])) (.cons (.lc [1] (.nm 1) (.e (.var 0)) (.nil) (.call 6 (.cons (.var 1) .nil))) .nil)))) .nil⟩
/-- 8: unsealed_from -/
def f8 : Fn := ⟨2, 4, false, .cons (.tryR (.tup (.cons (.nm 2) (.cons (.nm 3) .nil))) (.call 3 (.cons (.var 0) (.cons (.var 1) .nil))) 1 (.cons (.ret (.con .non)) .nil)) (.cons (.ret (.ite (.cmp .eq (.sl (.var 0) (.var 3) (.bin .add (.var 3) (.con (.int 5)))) (.call 5 (.cons (.var 2) .nil))) (.tup (.cons (.var 2) (.cons (.bin .add (.var 3) (.con (.int 5))) .nil))) (.con .non))) .nil)⟩
/-- 9: read_records -/
def f9 : Fn := ⟨1, 4, false, .cons (.par [2, 3] (.cons (.lst (.nil)) (.cons (.con (.int 0)) .nil))) (.cons (.asg (.nm 1) (.call 8 (.cons (.var 0) (.cons (.var 3) .nil)))) (.cons (.whil (.cmp .isnot (.var 1) (.con .non)) (.cons (.app 2 (.ix (.var 1) (.con (.int 0)))) (.cons (.asg (.nm 3) (.ix (.var 1) (.con (.int 1)))) (.cons (.asg (.nm 1) (.call 8 (.cons (.var 0) (.cons (.var 3) .nil)))) .nil)))) (.cons (.ret (.tup (.cons (.bi .tuple (.cons (.var 2) .nil)) (.cons (.slo (.var 0) (.var 3)) .nil)))) .nil)))⟩
/-- 10: kept_text -/
def f10 : Fn := ⟨5, 5, false, .cons (.ret (.call 7 (.cons (.lst (.cons (.call 0 (.cons (.tup (.cons (.var 0) (.cons (.var 1) (.cons (.var 2) (.cons (.var 3) (.cons (.var 4) .nil)))))) .nil)) .nil)) .nil))) .nil⟩
/-- 11: mended -/
def f11 : Fn := ⟨1, 1, false, .cons (.ret (.call 7 (.cons (.ix (.call 9 (.cons (.var 0) .nil)) (.con (.int 0))) .nil))) .nil⟩
/-- 12: put_down -/
def f12 : Fn := ⟨6, 6, false, .cons (.ret (.bin .add (.call 11 (.cons (.var 0) .nil)) (.call 10 (.cons (.var 1) (.cons (.var 2) (.cons (.var 3) (.cons (.var 4) (.cons (.var 5) .nil)))))))) .nil⟩
/-- 13: is_integer -/
def f13 : Fn := ⟨2, 2, false, .cons (.ret (.and (.isi (.var 0) 0) (.and (.not (.isi (.var 0) 1)) (.cmp .ge (.var 0) (.var 1))))) .nil⟩
/-- 14: is_kept -/
def f14 : Fn := ⟨1, 3, false, .cons (.iff (.or (.not (.isi (.var 0) 3)) (.or (.cmp .ne (.bi .len (.cons (.var 0) .nil)) (.con (.int 5))) (.or (.not (.call 13 (.cons (.ix (.var 0) (.con (.int 0))) (.cons (.con (.int 0)) .nil)))) (.not (.call 13 (.cons (.ix (.var 0) (.con (.int 1))) (.cons (.con (.int 1)) .nil))))))) (.cons (.ret (.con (.bl false))) .nil) (.nil)) (.cons (.par [1, 2] (.cons (.ix (.var 0) (.con (.int 2))) (.cons (.ix (.var 0) (.con (.int 4))) .nil))) (.cons (.iff (.or (.not (.isi (.var 1) 3)) (.or (.cmp .ne (.bi .len (.cons (.var 1) .nil)) (.con (.int 2))) (.or (.not (.isi (.ix (.var 1) (.con (.int 0))) 2)) (.not (.call 13 (.cons (.ix (.var 1) (.con (.int 1))) (.cons (.con (.int 0)) .nil))))))) (.cons (.ret (.con (.bl false))) .nil) (.nil)) (.cons (.ret (.or (.cmp .is (.var 2) (.con .non)) (.call 13 (.cons (.var 2) (.cons (.con (.int 0)) .nil))))) .nil)))⟩
/-- 15: kept_on -/
def f15 : Fn := ⟨1, 5, false, .cons (.asg (.nm 1) (.lst (.nil))) (.cons (.forr (.tup (.cons (.nm 2) (.cons (.nm 3) .nil))) (.en (.ix (.call 9 (.cons (.var 0) .nil)) (.con (.int 0)))) (.cons (.tryR (.nm 4) (.call 4 (.cons (.var 3) .nil)) 1 (.cons (.asg (.nm 4) (.con .non)) .nil)) (.cons (.iff (.not (.call 14 (.cons (.var 4) .nil))) (.cons (.rai 2 (.var 2)) .nil) (.nil)) (.cons (.app 1 (.var 4)) .nil)))) (.cons (.ret (.var 1)) .nil))⟩
/-- 16: on_shelf -/
def f16 : Fn := ⟨4, 5, false, .cons (.forr (.nm 4) (.e (.call 15 (.cons (.var 0) .nil))) (.cons (.iff (.cmp .eq (.shi (.var 4) (.con (.int 3))) (.tup (.cons (.var 1) (.cons (.var 2) (.cons (.var 3) .nil))))) (.cons (.ret (.slo (.var 4) (.con (.int 3)))) .nil) (.nil)) .nil)) (.cons (.ret (.con .non)) .nil)⟩
/-- 17: tasks_on -/
def f17 : Fn := ⟨3, 4, false, .cons (.ret (.bi .tuple (.cons (.sc [3] (.nm 3) (.e (.call 15 (.cons (.var 0) .nil))) (.cons (.cmp .eq (.shi (.var 3) (.con (.int 2))) (.tup (.cons (.var 1) (.cons (.var 2) .nil)))) .nil) (.ix (.var 3) (.con (.int 2)))) .nil))) .nil⟩
/-- 18: is_whole -/
def f18 : Fn := ⟨4, 6, false, .cons (.asg (.nm 4) (.call 17 (.cons (.var 0) (.cons (.var 1) (.cons (.var 2) .nil))))) (.cons (.ret (.bi .all (.cons (.lc [5] (.nm 5) (.e (.var 3)) (.nil) (.cmp .inn (.var 5) (.var 4))) .nil))) .nil)⟩
/-- 19: numbers_on -/
def f19 : Fn := ⟨1, 2, false, .cons (.ret (.bi .tuple (.cons (.sc [1] (.nm 1) (.e (.call 15 (.cons (.var 0) .nil))) (.nil) (.shi (.var 1) (.con (.int 2)))) .nil))) .nil⟩
/-- 20: cleared -/
def f20 : Fn := ⟨3, 4, false, .cons (.ret (.bi .join (.cons (.con (.str [])) (.cons (.lc [3] (.nm 3) (.e (.call 15 (.cons (.var 0) .nil))) (.cons (.cmp .ge (.shi (.var 3) (.con (.int 2))) (.tup (.cons (.var 1) (.cons (.var 2) .nil)))) .nil) (.star 10 (.var 3))) .nil)))) .nil⟩
/-- 21: _law_word_text -/
def f21 : Fn := ⟨1, 2, false, .cons (.iff (.or (.cmp .is (.var 0) (.con .non)) (.isi (.var 0) 1)) (.cons (.ret (.ite (.cmp .is (.var 0) (.con .non)) (.con (.str [78])) (.ix (.con (.str [70, 84])) (.bi .int (.cons (.var 0) .nil))))) .nil) (.nil)) (.cons (.iff (.isi (.var 0) 0) (.cons (.ret (.bin .add (.bin .add (.con (.str [105])) (.bi .repr (.cons (.var 0) .nil))) (.con (.str [59])))) .nil) (.nil)) (.cons (.iff (.isi (.var 0) 2) (.cons (.ret (.bin .add (.bin .add (.bin .add (.con (.str [116])) (.bi .repr (.cons (.bi .len (.cons (.var 0) .nil)) .nil))) (.con (.str [58]))) (.var 0))) .nil) (.nil)) (.cons (.ret (.bin .add (.bin .add (.con (.str [40])) (.bi .join (.cons (.con (.str [])) (.cons (.lc [1] (.nm 1) (.e (.var 0)) (.nil) (.call 21 (.cons (.var 1) .nil))) .nil)))) (.con (.str [41])))) .nil)))⟩
/-- 22: _law_sealed -/
def f22 : Fn := ⟨1, 3, false, .cons (.asg (.nm 1) (.bi .len (.cons (.var 0) .nil))) (.cons (.forr (.nm 2) (.e (.var 0)) (.cons (.asg (.nm 1) (.bin .mod (.bi .int (.cons (.bin .add (.bin .mul (.var 1) (.con (.int 131))) (.bi .ord (.cons (.var 2) .nil))) .nil)) (.con (.int 99991)))) .nil)) (.cons (.ret (.bin .add (.bin .add (.bin .add (.bin .add (.bi .repr (.cons (.bi .len (.cons (.var 0) .nil)) .nil)) (.con (.str [58]))) (.var 0)) (.bin .mul (.bin .sub (.con (.int 5)) (.bi .len (.cons (.bi .repr (.cons (.var 1) .nil)) .nil))) (.con (.str [48])))) (.bi .repr (.cons (.var 1) .nil)))) .nil))⟩
/-- 23: _law_draw_word -/
def f23 : Fn := ⟨2, 4, false, .cons (.asg (.nm 2) (.pick 0 (.ite (.cmp .gt (.var 1) (.con (.int 0))) (.con (.int 7)) (.con (.int 5))))) (.cons (.iff (.cmp .lt (.var 2) (.con (.int 5))) (.cons (.ret (.ix (.lst (.cons (.con .non) (.cons (.bin .sub (.con (.int 0)) (.con (.int 12))) (.cons (.con (.str [97, 58, 49, 40])) (.cons (.con (.bl true)) (.cons (.pick 0 (.con (.int 100))) .nil)))))) (.var 2))) .nil) (.nil)) (.cons (.ret (.bi .tuple (.cons (.lc [3] (.nm 3) (.r1 (.pick 0 (.con (.int 4)))) (.nil) (.call 23 (.cons (.var 0) (.cons (.bin .sub (.var 1) (.con (.int 1))) .nil)))) .nil))) .nil))⟩
/-- 24: _law_told_right -/
def f24 : Fn := ⟨3, 13, false, .cons (.asg (.nm 3) (.bi .join (.cons (.con (.str [])) (.cons (.lc [10] (.nm 10) (.e (.var 2)) (.nil) (.call 22 (.cons (.call 21 (.cons (.var 10) .nil)) .nil))) .nil)))) (.cons (.iff (.or (.cmp .ne (.call 11 (.cons (.var 1) .nil)) (.var 3)) (.cmp .ne (.call 11 (.cons (.var 3) .nil)) (.var 3))) (.cons (.ret (.con (.bl false))) .nil) (.nil)) (.cons (.forr (.nm 4) (.e (.tup (.cons (.var 1) (.cons (.var 3) .nil)))) (.cons (.iff (.or (.cmp .ne (.bi .repr (.cons (.call 15 (.cons (.var 4) .nil)) .nil)) (.bi .repr (.cons (.var 2) .nil))) (.cmp .ne (.bi .repr (.cons (.call 19 (.cons (.var 4) .nil)) .nil)) (.bi .repr (.cons (.bi .tuple (.cons (.bi .set (.cons (.lc [10] (.nm 10) (.e (.var 2)) (.nil) (.shi (.var 10) (.con (.int 2)))) .nil)) .nil)) .nil)))) (.cons (.ret (.con (.bl false))) .nil) (.nil)) .nil)) (.cons (.asg (.nm 5) (.lst (.cons (.tup (.cons (.con (.str [97])) (.cons (.con (.int 0)) .nil))) (.cons (.tup (.cons (.con (.str [98])) (.cons (.con (.int 1)) .nil))) (.cons (.tup (.cons (.con (.str [98])) (.cons (.con (.int 0)) .nil))) .nil))))) (.cons (.forr (.nm 6) (.r1 (.con (.int 2))) (.cons (.asg (.nm 7) (.bin .add (.con (.int 1)) (.pick 0 (.con (.int 2))))) (.cons (.asg (.nm 8) (.lc [11] (.nm 11) (.e (.var 5)) (.nil) (.lc [10] (.nm 10) (.e (.var 2)) (.cons (.cmp .eq (.shi (.var 10) (.con (.int 3))) (.tup (.cons (.var 6) (.cons (.var 7) (.cons (.var 11) .nil))))) .nil) (.var 10)))) (.cons (.iff (.cmp .ne (.bi .repr (.cons (.lc [11] (.nm 11) (.e (.var 5)) (.nil) (.call 16 (.cons (.var 1) (.cons (.var 6) (.cons (.var 7) (.cons (.var 11) .nil)))))) .nil)) (.bi .repr (.cons (.lc [12] (.nm 12) (.e (.var 8)) (.nil) (.ite (.cmp .ne (.var 12) (.lst (.nil))) (.slo (.ix (.var 12) (.con (.int 0))) (.con (.int 3))) (.con .non))) .nil))) (.cons (.ret (.con (.bl false))) .nil) (.nil)) (.cons (.asg (.nm 9) (.lc [11, 12] (.tup (.cons (.nm 11) (.cons (.nm 12) .nil))) (.zip (.var 5) (.var 8)) (.cons (.cmp .ne (.var 12) (.lst (.nil))) .nil) (.var 11))) (.cons (.iff (.or (.cmp .ne (.call 17 (.cons (.var 1) (.cons (.var 6) (.cons (.var 7) .nil)))) (.bi .tuple (.cons (.bi .sorted (.cons (.var 9) .nil)) .nil))) (.cmp .ne (.call 18 (.cons (.var 1) (.cons (.var 6) (.cons (.var 7) (.cons (.var 5) .nil))))) (.cmp .eq (.bi .len (.cons (.var 9) .nil)) (.con (.int 3))))) (.cons (.ret (.con (.bl false))) .nil) (.nil)) .nil)))))) (.cons (.ret (.con (.bl true))) .nil)))))⟩
/-- 25: law -/
def f25 : Fn := ⟨1, 14, false, .cons (.par [3, 4] (.cons (.con (.str [])) (.cons (.lst (.nil)) .nil))) (.cons (.forr (.nm 2) (.r1 (.con (.int 14))) (.cons (.par [7, 8] (.cons (.pick 1 (.con (.int 8))) (.cons (.ix (.lst (.cons (.tup (.cons (.con (.str [97])) (.cons (.con (.int 0)) .nil))) (.cons (.tup (.cons (.con (.str [98])) (.cons (.con (.int 1)) .nil))) (.cons (.tup (.cons (.con (.str [98])) (.cons (.con (.int 0)) .nil))) .nil)))) (.pick 1 (.con (.int 3)))) .nil))) (.cons (.asg (.tup (.cons (.nm 9) (.cons (.nm 10) (.cons (.nm 11) .nil)))) (.tup (.cons (.pick 1 (.con (.int 2))) (.cons (.bin .add (.con (.int 1)) (.pick 1 (.con (.int 2)))) (.cons (.call 23 (.cons (.var 1) (.cons (.con (.int 3)) .nil))) .nil))))) (.cons (.asg (.nm 5) (.tup (.cons (.var 9) (.cons (.var 10) (.cons (.var 8) (.cons (.var 11) (.cons (.ix (.lst (.cons (.con .non) (.cons (.con (.int 4)) .nil))) (.pick 1 (.con (.int 2)))) .nil))))))) (.cons (.asg (.nm 6) (.call 10 (.cons (.var 9) (.cons (.var 10) (.cons (.var 8) (.cons (.var 11) (.cons (.ix (.var 5) (.con (.int 4))) .nil))))))) (.cons (.iff (.or (.cmp .ne (.var 6) (.call 22 (.cons (.call 21 (.cons (.var 5) .nil)) .nil))) (.cmp .ne (.call 0 (.cons (.var 5) .nil)) (.call 21 (.cons (.var 5) .nil)))) (.cons (.ret (.con (.bl false))) .nil) (.nil)) (.cons (.iff (.cmp .lt (.var 7) (.con (.int 4))) (.cons (.par [3, 4] (.cons (.call 12 (.cons (.var 3) (.cons (.var 9) (.cons (.var 10) (.cons (.var 8) (.cons (.var 11) (.cons (.ix (.var 5) (.con (.int 4))) .nil))))))) (.cons (.bin .add (.var 4) (.lst (.cons (.var 5) .nil))) .nil))) .nil) (.cons (.iff (.cmp .lt (.var 7) (.con (.int 6))) (.cons (.asg (.nm 12) (.pick 1 (.bin .add (.bi .len (.cons (.var 6) .nil)) (.con (.int 1))))) (.cons (.par [3, 4] (.cons (.bin .add (.call 11 (.cons (.var 3) .nil)) (.shi (.var 6) (.var 12))) (.cons (.bin .add (.var 4) (.ite (.cmp .eq (.var 12) (.bi .len (.cons (.var 6) .nil))) (.lst (.cons (.var 5) .nil)) (.lst (.nil)))) .nil))) .nil)) (.cons (.iff (.cmp .eq (.var 7) (.con (.int 6))) (.cons (.par [3, 4] (.cons (.call 20 (.cons (.var 3) (.cons (.var 9) (.cons (.var 10) .nil)))) (.cons (.lc [13] (.nm 13) (.e (.var 4)) (.cons (.cmp .ge (.shi (.var 13) (.con (.int 2))) (.tup (.cons (.var 9) (.cons (.var 10) .nil)))) .nil) (.var 13)) .nil))) .nil) (.cons (.asg (.nm 3) (.bin .add (.call 11 (.cons (.var 3) .nil)) (.shi (.var 6) (.pick 1 (.con (.int 5)))))) .nil)) .nil)) .nil)) (.cons (.iff (.not (.call 24 (.cons (.var 1) (.cons (.var 3) (.cons (.var 4) .nil))))) (.cons (.ret (.con (.bl false))) .nil) (.nil)) .nil)))))))) (.cons (.ret (.con (.bl true))) .nil))⟩
def fs : List Fn := [f0, f1, f2, f3, f4, f5, f6, f7, f8, f9, f10, f11, f12, f13, f14, f15, f16, f17, f18, f19, f20, f21, f22, f23, f24]
end K62
end O
end

section
set_option Elab.async false
set_option linter.all false
set_option maxRecDepth 100000
set_option maxHeartbeats 4000000
namespace O
open PySem PySem.Spec PyProof.Rows L2
namespace K62
def d0 : DI := ⟨"word_text", "word_text", ["word", "one"], [0, 0], [0, 0], [0], ⟨0, 0⟩⟩
def d1 : DI := ⟨"digits_from", "digits_from", ["text", "place", "late"], [0, 0, 0], [0, 0, 0], [0, 0], ⟨0, 0⟩⟩
def d2 : DI := ⟨"integer_from", "integer_from", ["text", "place", "start", "late"], [0, 0, 0, 0], [0, 0, 0, 0], [0, 0], ⟨0, 0⟩⟩
def d3 : DI := ⟨"text_from", "text_from", ["text", "place", "late", "at", "start", "many"], [0, 0, 0, 0, 0, 0], [0, 0, 0, 0, 0, 0], [0, 0], ⟨0, 0⟩⟩
def d4 : DI := ⟨"read_word", "read_word", ["text", "place", "open_ones", "sign", "word"], [0, 0, 2, 0, 0], [0, 0, 2, 0, 0], [0], ⟨0, 0⟩⟩
def d5 : DI := ⟨"check_of", "check_of", ["text", "found", "sign"], [0, 0, 0], [0, 0, 0], [0], ⟨0, 0⟩⟩
def d6 : DI := ⟨"sealed", "sealed", ["text"], [0], [0], [0], ⟨0, 0⟩⟩
def d7 : DI := ⟨"records", "records", ["texts", "text"], [0, 0], [0, 0], [0], ⟨0, 0⟩⟩
def d8 : DI := ⟨"unsealed_from", "unsealed_from", ["text", "place", "found", "late"], [0, 0, 0, 0], [0, 0, 0, 0], [0, 0], ⟨0, 0⟩⟩
def d9 : DI := ⟨"read_records", "read_records", ["text", "here", "found", "place"], [0, 0, 1, 0], [0, 0, 1, 0], [0], ⟨0, 0⟩⟩
def d10 : DI := ⟨"kept_text", "kept_text", ["epoch", "n", "task", "state", "mark"], [0, 0, 0, 0, 0], [0, 0, 0, 0, 0], [0, 0, 0, 0, 0], ⟨0, 0⟩⟩
def d11 : DI := ⟨"mended", "mended", ["shelf"], [0], [0], [0], ⟨0, 0⟩⟩
def d12 : DI := ⟨"put_down", "put_down", ["shelf", "epoch", "n", "task", "state", "mark"], [0, 0, 0, 0, 0, 0], [0, 0, 0, 0, 0, 0], [0, 0, 0, 0, 0, 0], ⟨0, 0⟩⟩
def d13 : DI := ⟨"is_integer", "is_integer", ["value", "least"], [0, 0], [0, 0], [0, 0], ⟨0, 0⟩⟩
def d14 : DI := ⟨"is_kept", "is_kept", ["word", "task", "mark"], [0, 0, 0], [0, 0, 0], [0], ⟨0, 0⟩⟩
def d15 : DI := ⟨"kept_on", "kept_on", ["shelf", "found", "number", "text", "word"], [0, 1, 0, 0, 0], [0, 1, 0, 0, 0], [0], ⟨0, 0⟩⟩
def d16 : DI := ⟨"on_shelf", "on_shelf", ["shelf", "epoch", "n", "task", "here"], [0, 0, 0, 0, 0], [0, 0, 0, 0, 0], [0, 0, 0, 0], ⟨0, 0⟩⟩
def d17 : DI := ⟨"tasks_on", "tasks_on", ["shelf", "epoch", "n", "here"], [0, 0, 0, 0], [0, 0, 0, 0], [0, 0, 0], ⟨0, 0⟩⟩
def d18 : DI := ⟨"is_whole", "is_whole", ["shelf", "epoch", "n", "tasks", "there", "task"], [0, 0, 0, 0, 0, 0], [0, 0, 0, 0, 0, 0], [0, 0, 0, 0], ⟨0, 0⟩⟩
def d19 : DI := ⟨"numbers_on", "numbers_on", ["shelf", "here"], [0, 0], [0, 0], [0], ⟨0, 0⟩⟩
def d20 : DI := ⟨"cleared", "cleared", ["shelf", "epoch", "n", "here"], [0, 0, 0, 0], [0, 0, 0, 0], [0, 0, 0], ⟨0, 0⟩⟩
def d21 : DI := ⟨"_law_word_text", "_law_word_text", ["_law_word", "_law_one"], [0, 0], [0, 0], [0], ⟨0, 0⟩⟩
def d22 : DI := ⟨"_law_sealed", "_law_sealed", ["_law_text", "_law_c", "_law_sign"], [0, 0, 0], [0, 0, 0], [0], ⟨0, 0⟩⟩
def d23 : DI := ⟨"_law_draw_word", "_law_draw_word", ["_law_source", "_law_depth", "_law_road", "_law_lap"], [0, 0, 0, 0], [0, 0, 0, 0], [0, 0], ⟨0, 0⟩⟩
def d24 : DI := ⟨"_law_told_right", "_law_told_right", ["_law_source", "_law_shelf", "_law_own", "_law_whole", "_law_here", "_law_tasks", "_law_epoch", "_law_n", "_law_lots", "_law_there", "_law_one", "_law_task", "_law_lot"], [0, 0, 0, 0, 0, 0, 0, 0, 0, 0, 0, 0, 0], [0, 0, 0, 0, 0, 0, 0, 0, 0, 0, 0, 0, 0], [0, 0, 0], ⟨0, 0⟩⟩
def d25 : DI := ⟨"law", "law", ["_law_script", "_law_source", "_law_lap", "_law_shelf", "_law_own", "_law_kept", "_law_text", "_law_road", "_law_task", "_law_epoch", "_law_n", "_law_state", "_law_keep", "_law_one"], [0, 0, 0, 0, 0, 0, 0, 0, 0, 0, 0, 0, 0, 0], [0, 0, 0, 0, 0, 0, 0, 0, 0, 0, 0, 0, 0, 0], [0], ⟨0, 0⟩⟩
def dis : List DI := [d0, d1, d2, d3, d4, d5, d6, d7, d8, d9, d10, d11, d12, d13, d14, d15, d16, d17, d18, d19, d20, d21, d22, d23, d24]
def outs : List PySem.Str := ["len", "tuple", "list", "int", "str", "repr", "ord", "abs", "min", "max", "all", "any", "sum", "sorted", "range", "enumerate", "zip", "isinstance", "bool", "dict", "set"]
def sigK (y : PySem.Str) : Option (Nat × List Nat × Ty) := (dis.findIdx? (fun d => d.x == y)).bind fun i => dis[i]?.map fun d => (i, d.kl, d.rt)
def M : MI := ⟨outs, sigK, fun y => if y = "DIGITS" then some 0 else none, fun y => if y = "BadText" then some 1 else if y = "BadDisk" then some 2 else none, fun y c => decide (y = "BadText") && decide (c = 1), fun y => decide (y = "_law_pick"), fun y => if y = "SMALL" then some 1 else none⟩
def top (i : Nat) : Stmt := PySem.Challenge.pw_oncestream_k62_whole_torn_shelves.main.body.getD i (.Pass ⟨0, 0, 0, 0⟩)
def tops : List Nat := [8, 9, 10, 11, 12, 13, 14, 15, 16, 17, 19, 20, 21, 22, 23, 24, 25, 26, 27, 28, 29, 33, 34, 35, 36]
def res : List Bool := (List.range 25).map fun i => ckD M (dis.getD i d0) (fs.getD i f0) (top (tops.getD i 0))
def lawBody : List Stmt := (defBody (top 37)).drop 1
def resL : Bool := ckSs (tx M d25 (defScope (top 37))) f25.body lawBody
end K62
end O
end

section
set_option Elab.async false
set_option linter.all false
set_option maxRecDepth 100000
set_option maxHeartbeats 0
namespace O.K62
open PySem PySem.Spec PyProof.Rows L2
def dd (x : PySem.Str) (i : Nat) : He.DefD := ⟨(x, none), x, x, defArgs (top i), defBody (top i), defScope (top i), [], []⟩
def fnL : List He.DefD := [dd "copied" 1, dd "word_text" 8, dd "digits_from" 9, dd "integer_from" 10, dd "text_from" 11, dd "read_word" 12, dd "check_of" 13, dd "sealed" 14, dd "records" 15, dd "unsealed_from" 16, dd "read_records" 17, dd "kept_text" 19, dd "mended" 20, dd "put_down" 21, dd "is_integer" 22, dd "is_kept" 23, dd "kept_on" 24, dd "on_shelf" 25, dd "tasks_on" 26, dd "is_whole" 27, dd "numbers_on" 28, dd "cleared" 29, dd "_law_open_cells" 31, dd "_law_pick" 32, dd "_law_word_text" 33, dd "_law_sealed" 34, dd "_law_draw_word" 35, dd "_law_told_right" 36, dd "law" 37]
def faL : List He.Fa := ([.glo "copied", .glo "word_text", .glo "digits_from", .glo "integer_from", .glo "text_from", .glo "read_word", .glo "check_of", .glo "sealed", .glo "records", .glo "unsealed_from", .glo "read_records", .glo "kept_text", .glo "mended", .glo "put_down", .glo "is_integer"] : List He.Fa) ++ ([.glo "is_kept", .glo "kept_on", .glo "on_shelf", .glo "tasks_on", .glo "is_whole", .glo "numbers_on", .glo "cleared", .glo "_law_open_cells", .glo "_law_pick", .glo "_law_word_text", .glo "_law_sealed", .glo "_law_draw_word", .glo "_law_told_right", .glo "law", .free "len"] : List He.Fa) ++ ([.free "tuple", .free "list", .free "int", .free "str", .free "repr", .free "ord", .free "abs", .free "min", .free "max", .free "all", .free "any", .free "sum", .free "sorted", .free "range", .free "enumerate"] : List He.Fa) ++ ([.free "zip", .free "isinstance", .free "bool", .free "dict", .free "set", .str "DIGITS" "0123456789", .free "ValueError", .free "super", .glo "BadText", .glo "BadDisk", .glo "SMALL", .exm "BadText" "BadText" true] : List He.Fa)
def tsL : List He.Tab := [((fun K => He.ga K "SMALL"), ["N", "T", "F"])]
abbrev Rw : PySem.W.OpenRow := PySem.W.OpenLaw.row PySem.Challenge.rw_oncestream_k62_whole_torn_shelves
def clsBody (i : Nat) : List Stmt := match top i with
  | .ClassDef _ _ _ b .. => b
  | _ => []
def ini1 (i : Nat) : Stmt := (clsBody i).getD 0 (.Pass ⟨0, 0, 0, 0⟩)
def iniOf (x q : PySem.Str) (i : Nat) : IniD := ⟨x, "place", q, defArgs (ini1 i), defBody (ini1 i), defScope (ini1 i)⟩
def inL : List IniD := [iniOf "BadText" "BadText.__init__" 3, iniOf "BadDisk" "BadDisk.__init__" 4]
def exB (K : PySem.W.Frag) : Bool := He.valsB K (He.ga K "SMALL") [("N", .non), ("T", .bl true), ("F", .bl false)]
abbrev fileP : PySem.Str := Rw.prog.main.file
abbrev hk : PySem.W.Hook := hookX 8 faL fnL tsL fileP inL exB
def ob (s : PySem.W.SharedT) : AlX := obsXG 8 faL fnL tsL fileP inL exB (HandSHeadRun.getT s)
theorem ob_eq (s : PySem.W.SharedT) : ob s = hk.obs s.abs := obsXG_eq (HandSHeadRun.getT_eq s)
def looseL : List PySem.Str := (["copied", "StreamError", "BadText", "BadDisk", "DIGITS", "SMALL", "word_text", "digits_from", "integer_from", "text_from", "read_word", "check_of", "sealed", "records", "unsealed_from"] : List PySem.Str) ++ (["read_records", "kept_text", "mended", "put_down", "is_integer", "is_kept", "kept_on", "on_shelf", "tasks_on", "is_whole", "numbers_on", "cleared", "_law_open_cells", "_law_pick", "_law_word_text"] : List PySem.Str) ++ (["_law_sealed", "_law_draw_word", "_law_told_right"] : List PySem.Str)
theorem run_f (w : World) : HandSHeadRun.RunEq Rw (PySem.W.view Rw.prog [37]) hk ob 6000 looseL (w.withFollow "special-get-raises" false) := by
  intro os
  kernel_rfl
theorem run_t (w : World) : HandSHeadRun.RunEq Rw (PySem.W.view Rw.prog [37]) hk ob 6000 looseL (w.withFollow "special-get-raises" true) := by
  intro os
  kernel_rfl
theorem run (w : World) : HandSHeadRun.RunEq Rw (PySem.W.view Rw.prog [37]) hk ob 6000 looseL w := PySem.W.byRow2 "special-get-raises" (P := fun w => HandSHeadRun.RunEq Rw (PySem.W.view Rw.prog [37]) hk ob 6000 looseL w) run_f run_t w
end O.K62
end

section
set_option Elab.async false
set_option linter.all false
set_option maxRecDepth 100000
set_option maxHeartbeats 0
/-! OEnd62: k62 joined. -/
namespace O.K62
open PySem PySem.Spec PyProof.Rows L2
section
variable {K : PySem.W.Frag} {h : Heap} {mg : PySem.Str → Option Value} {w : World}
abbrev Sx (w : World) (K : PySem.W.Frag) : Prop := SaysX faL fnL tsL fileP inL exB w K
theorem fact (c : Sx w K) {f : He.Fa} (i : Nat) (hf : faL[i]? = some f) : f.ok K = true := c.t.d.fact i hf
theorem gl (X : K.In h) (G : h.Ns mainGlobals mg) (c : Sx w K) {x : PySem.Str} (i : Nat) (hf : faL[i]? = some (.glo x)) : mg x = some (.ref (He.ga K x)) := He.glo_ok X G (fact c i hf)
theorem fr (X : K.In h) (G : h.Ns mainGlobals mg) (c : Sx w K) {x : PySem.Str} (i : Nat) (hf : faL[i]? = some (.free x)) : mg x = none := He.free_ok X G (fact c i hf)
theorem funOf {x qual : PySem.Str} {st : Stmt} {f : Addr} {fd : FuncData} (F : FunD K x qual (defArgs st) (defBody st) (defScope st) [] [] f fd) : Fun K x qual st f fd := by
  obtain ⟨⟨oc, od, dV, kV, doc, pm, an, cdv, ct, osl, e, lk, hcd, hD, hK⟩, kp⟩ := F
  rcases hD with ⟨_, rfl⟩ | ⟨z, _⟩
  · exact ⟨⟨oc, od, kV, doc, pm, an, cdv, ct, osl, e, lk, hcd⟩, kp⟩
  · exact absurd rfl z
theorem def_ (c : Sx w K) (j : Nat) {x : PySem.Str} {i : Nat} (hj : fnL[j]? = some (dd x i)) : ∃ fd, FunD K x x (defArgs (top i)) (defBody (top i)) (defScope (top i)) [] [] (He.ga K x) fd := c.t.d.def_ j hj
theorem liesOf (X : K.In h) (G : h.Ns mainGlobals mg) (c : Sx w K) (j : Nat) {x : PySem.Str} {i : Nat} (hj : fnL[j]? = some (dd x i)) (hg : faL[j]? = some (.glo x)) {d : DI} {fn : Fn} (hx : d.x = x) (hq : d.qual = x) (ck : ckD M d fn (top i) = true)
    (bd : ∀ (kV doc pm : Value) (an : Option Addr) (cdv ct : Value) (us : List Value), us.length = (d.N.take fn.np).length → bindArgs (PySem.W.fnOf x x (defArgs (top i)) (defBody (top i)) (defScope (top i)) .none kV doc pm an cdv ct) ⟨us, []⟩ = Pure.pure ((d.N.take fn.np).zip us)) :
    ∃ st f fd, Lies K mg M d fn st f fd := by
  obtain ⟨fd, F⟩ := def_ c j hj
  exact ⟨top i, He.ga K x, fd, ck, by rw [hx, hq]; exact funOf F, by rw [hx]; exact gl X G c j hg, F.bindsN bd⟩

theorem ck0 : ckD M d0 f0 (top 8) = true := by decide +kernel
theorem ck1 : ckD M d1 f1 (top 9) = true := by decide +kernel
theorem ck2 : ckD M d2 f2 (top 10) = true := by decide +kernel
theorem ck3 : ckD M d3 f3 (top 11) = true := by decide +kernel
theorem ck4 : ckD M d4 f4 (top 12) = true := by decide +kernel
theorem ck5 : ckD M d5 f5 (top 13) = true := by decide +kernel
theorem ck6 : ckD M d6 f6 (top 14) = true := by decide +kernel
theorem ck7 : ckD M d7 f7 (top 15) = true := by decide +kernel
theorem ck8 : ckD M d8 f8 (top 16) = true := by decide +kernel
theorem ck9 : ckD M d9 f9 (top 17) = true := by decide +kernel
theorem ck10 : ckD M d10 f10 (top 19) = true := by decide +kernel
theorem ck11 : ckD M d11 f11 (top 20) = true := by decide +kernel
theorem ck12 : ckD M d12 f12 (top 21) = true := by decide +kernel
theorem ck13 : ckD M d13 f13 (top 22) = true := by decide +kernel
theorem ck14 : ckD M d14 f14 (top 23) = true := by decide +kernel
theorem ck15 : ckD M d15 f15 (top 24) = true := by decide +kernel
theorem ck16 : ckD M d16 f16 (top 25) = true := by decide +kernel
theorem ck17 : ckD M d17 f17 (top 26) = true := by decide +kernel
theorem ck18 : ckD M d18 f18 (top 27) = true := by decide +kernel
theorem ck19 : ckD M d19 f19 (top 28) = true := by decide +kernel
theorem ck20 : ckD M d20 f20 (top 29) = true := by decide +kernel
theorem ck21 : ckD M d21 f21 (top 33) = true := by decide +kernel
theorem ck22 : ckD M d22 f22 (top 34) = true := by decide +kernel
theorem ck23 : ckD M d23 f23 (top 35) = true := by decide +kernel
theorem ck24 : ckD M d24 f24 (top 36) = true := by decide +kernel
theorem ckL : ckSs (tx M d25 (defScope (top 37))) f25.body lawBody = true := by decide +kernel
theorem defs (X : K.In h) (G : h.Ns mainGlobals mg) (c : Sx w K) : ∀ (i : Nat) (d : DI) (fn : Fn), dis[i]? = some d → fs[i]? = some fn → ∃ st f fd, Lies K mg M d fn st f fd
  | 0, d, fn, h1, h2 => by
    obtain rfl : d0 = d := Option.some.inj h1
    obtain rfl : f0 = fn := Option.some.inj h2
    exact liesOf X G c 1 (i := 8) rfl rfl rfl rfl ck0 fun _ _ _ _ _ _ us hl => match us, hl with | [_], _ => rfl
  | 1, d, fn, h1, h2 => by
    obtain rfl : d1 = d := Option.some.inj h1
    obtain rfl : f1 = fn := Option.some.inj h2
    exact liesOf X G c 2 (i := 9) rfl rfl rfl rfl ck1 fun _ _ _ _ _ _ us hl => match us, hl with | [_, _], _ => rfl
  | 2, d, fn, h1, h2 => by
    obtain rfl : d2 = d := Option.some.inj h1
    obtain rfl : f2 = fn := Option.some.inj h2
    exact liesOf X G c 3 (i := 10) rfl rfl rfl rfl ck2 fun _ _ _ _ _ _ us hl => match us, hl with | [_, _], _ => rfl
  | 3, d, fn, h1, h2 => by
    obtain rfl : d3 = d := Option.some.inj h1
    obtain rfl : f3 = fn := Option.some.inj h2
    exact liesOf X G c 4 (i := 11) rfl rfl rfl rfl ck3 fun _ _ _ _ _ _ us hl => match us, hl with | [_, _], _ => rfl
  | 4, d, fn, h1, h2 => by
    obtain rfl : d4 = d := Option.some.inj h1
    obtain rfl : f4 = fn := Option.some.inj h2
    exact liesOf X G c 5 (i := 12) rfl rfl rfl rfl ck4 fun _ _ _ _ _ _ us hl => match us, hl with | [_], _ => rfl
  | 5, d, fn, h1, h2 => by
    obtain rfl : d5 = d := Option.some.inj h1
    obtain rfl : f5 = fn := Option.some.inj h2
    exact liesOf X G c 6 (i := 13) rfl rfl rfl rfl ck5 fun _ _ _ _ _ _ us hl => match us, hl with | [_], _ => rfl
  | 6, d, fn, h1, h2 => by
    obtain rfl : d6 = d := Option.some.inj h1
    obtain rfl : f6 = fn := Option.some.inj h2
    exact liesOf X G c 7 (i := 14) rfl rfl rfl rfl ck6 fun _ _ _ _ _ _ us hl => match us, hl with | [_], _ => rfl
  | 7, d, fn, h1, h2 => by
    obtain rfl : d7 = d := Option.some.inj h1
    obtain rfl : f7 = fn := Option.some.inj h2
    exact liesOf X G c 8 (i := 15) rfl rfl rfl rfl ck7 fun _ _ _ _ _ _ us hl => match us, hl with | [_], _ => rfl
  | 8, d, fn, h1, h2 => by
    obtain rfl : d8 = d := Option.some.inj h1
    obtain rfl : f8 = fn := Option.some.inj h2
    exact liesOf X G c 9 (i := 16) rfl rfl rfl rfl ck8 fun _ _ _ _ _ _ us hl => match us, hl with | [_, _], _ => rfl
  | 9, d, fn, h1, h2 => by
    obtain rfl : d9 = d := Option.some.inj h1
    obtain rfl : f9 = fn := Option.some.inj h2
    exact liesOf X G c 10 (i := 17) rfl rfl rfl rfl ck9 fun _ _ _ _ _ _ us hl => match us, hl with | [_], _ => rfl
  | 10, d, fn, h1, h2 => by
    obtain rfl : d10 = d := Option.some.inj h1
    obtain rfl : f10 = fn := Option.some.inj h2
    exact liesOf X G c 11 (i := 19) rfl rfl rfl rfl ck10 fun _ _ _ _ _ _ us hl => match us, hl with | [_, _, _, _, _], _ => rfl
  | 11, d, fn, h1, h2 => by
    obtain rfl : d11 = d := Option.some.inj h1
    obtain rfl : f11 = fn := Option.some.inj h2
    exact liesOf X G c 12 (i := 20) rfl rfl rfl rfl ck11 fun _ _ _ _ _ _ us hl => match us, hl with | [_], _ => rfl
  | 12, d, fn, h1, h2 => by
    obtain rfl : d12 = d := Option.some.inj h1
    obtain rfl : f12 = fn := Option.some.inj h2
    exact liesOf X G c 13 (i := 21) rfl rfl rfl rfl ck12 fun _ _ _ _ _ _ us hl => match us, hl with | [_, _, _, _, _, _], _ => rfl
  | 13, d, fn, h1, h2 => by
    obtain rfl : d13 = d := Option.some.inj h1
    obtain rfl : f13 = fn := Option.some.inj h2
    exact liesOf X G c 14 (i := 22) rfl rfl rfl rfl ck13 fun _ _ _ _ _ _ us hl => match us, hl with | [_, _], _ => rfl
  | 14, d, fn, h1, h2 => by
    obtain rfl : d14 = d := Option.some.inj h1
    obtain rfl : f14 = fn := Option.some.inj h2
    exact liesOf X G c 15 (i := 23) rfl rfl rfl rfl ck14 fun _ _ _ _ _ _ us hl => match us, hl with | [_], _ => rfl
  | 15, d, fn, h1, h2 => by
    obtain rfl : d15 = d := Option.some.inj h1
    obtain rfl : f15 = fn := Option.some.inj h2
    exact liesOf X G c 16 (i := 24) rfl rfl rfl rfl ck15 fun _ _ _ _ _ _ us hl => match us, hl with | [_], _ => rfl
  | 16, d, fn, h1, h2 => by
    obtain rfl : d16 = d := Option.some.inj h1
    obtain rfl : f16 = fn := Option.some.inj h2
    exact liesOf X G c 17 (i := 25) rfl rfl rfl rfl ck16 fun _ _ _ _ _ _ us hl => match us, hl with | [_, _, _, _], _ => rfl
  | 17, d, fn, h1, h2 => by
    obtain rfl : d17 = d := Option.some.inj h1
    obtain rfl : f17 = fn := Option.some.inj h2
    exact liesOf X G c 18 (i := 26) rfl rfl rfl rfl ck17 fun _ _ _ _ _ _ us hl => match us, hl with | [_, _, _], _ => rfl
  | 18, d, fn, h1, h2 => by
    obtain rfl : d18 = d := Option.some.inj h1
    obtain rfl : f18 = fn := Option.some.inj h2
    exact liesOf X G c 19 (i := 27) rfl rfl rfl rfl ck18 fun _ _ _ _ _ _ us hl => match us, hl with | [_, _, _, _], _ => rfl
  | 19, d, fn, h1, h2 => by
    obtain rfl : d19 = d := Option.some.inj h1
    obtain rfl : f19 = fn := Option.some.inj h2
    exact liesOf X G c 20 (i := 28) rfl rfl rfl rfl ck19 fun _ _ _ _ _ _ us hl => match us, hl with | [_], _ => rfl
  | 20, d, fn, h1, h2 => by
    obtain rfl : d20 = d := Option.some.inj h1
    obtain rfl : f20 = fn := Option.some.inj h2
    exact liesOf X G c 21 (i := 29) rfl rfl rfl rfl ck20 fun _ _ _ _ _ _ us hl => match us, hl with | [_, _, _], _ => rfl
  | 21, d, fn, h1, h2 => by
    obtain rfl : d21 = d := Option.some.inj h1
    obtain rfl : f21 = fn := Option.some.inj h2
    exact liesOf X G c 24 (i := 33) rfl rfl rfl rfl ck21 fun _ _ _ _ _ _ us hl => match us, hl with | [_], _ => rfl
  | 22, d, fn, h1, h2 => by
    obtain rfl : d22 = d := Option.some.inj h1
    obtain rfl : f22 = fn := Option.some.inj h2
    exact liesOf X G c 25 (i := 34) rfl rfl rfl rfl ck22 fun _ _ _ _ _ _ us hl => match us, hl with | [_], _ => rfl
  | 23, d, fn, h1, h2 => by
    obtain rfl : d23 = d := Option.some.inj h1
    obtain rfl : f23 = fn := Option.some.inj h2
    exact liesOf X G c 26 (i := 35) rfl rfl rfl rfl ck23 fun _ _ _ _ _ _ us hl => match us, hl with | [_, _], _ => rfl
  | 24, d, fn, h1, h2 => by
    obtain rfl : d24 = d := Option.some.inj h1
    obtain rfl : f24 = fn := Option.some.inj h2
    exact liesOf X G c 27 (i := 36) rfl rfl rfl rfl ck24 fun _ _ _ _ _ _ us hl => match us, hl with | [_, _, _], _ => rfl
  | i + 25, d, fn, h1, h2 => absurd (show dis[i + 25]? = some d from h1) (by rw [List.getElem?_eq_none (by show 25 ≤ i + 25; omega)]; exact fun z => nomatch z)
end
end O.K62
end

section
set_option Elab.async false
set_option linter.all false
set_option maxRecDepth 100000
/-! ON: the texts of numbers. -/
namespace O
open PySem
def dig (n : Nat) : List Nat := if h : n < 10 then [48 + n] else dig (n / 10) ++ [48 + n % 10]
termination_by n
decreasing_by omega
theorem dig_lt {n : Nat} (h : n < 10) : dig n = [48 + n] := by unfold dig; rw [dif_pos h]
theorem dig_ge {n : Nat} (h : ¬ n < 10) : dig n = dig (n / 10) ++ [48 + n % 10] := by conv => { lhs; unfold dig }; rw [dif_neg h]
theorem digitChar_nat {n : Nat} (h : n < 10) : (Nat.digitChar n).toNat = 48 + n := by
  have : n = 0 ∨ n = 1 ∨ n = 2 ∨ n = 3 ∨ n = 4 ∨ n = 5 ∨ n = 6 ∨ n = 7 ∨ n = 8 ∨ n = 9 := by omega
  rcases this with rfl | rfl | rfl | rfl | rfl | rfl | rfl | rfl | rfl | rfl <;> rfl
theorem toDigits_dig : ∀ n : Nat, (Nat.toDigits 10 n).map Char.toNat = dig n := by
  intro n
  induction n using Nat.strongRecOn with
  | ind n ih =>
    by_cases h : n < 10
    · rw [Nat.toDigits_of_lt_base h, dig_lt h]
      simp [digitChar_nat h]
    · rw [Nat.toDigits_of_base_le (by decide) (by omega), dig_ge h, List.map_append, ih (n / 10) (by omega)]
      simp [digitChar_nat (show n % 10 < 10 by omega)]
theorem numT_nat (n : Nat) : numT (n : Int) = dig n := by
  unfold numT
  show (Nat.repr n).toList.map Char.toNat = _
  rw [Nat.repr_eq_ofList_toDigits, String.toList_ofList, toDigits_dig]
theorem numT_neg (n : Nat) : numT (-((n + 1 : Nat) : Int)) = 45 :: dig (n + 1) := by
  unfold numT
  show (String.append "-" (Nat.repr (n + 1))).toList.map Char.toNat = _
  rw [Nat.repr_eq_ofList_toDigits]
  rw [show String.append "-" (String.ofList (Nat.toDigits 10 (n + 1))) = "-" ++ String.ofList (Nat.toDigits 10 (n + 1)) from rfl]
  simp only [String.toList_append, String.toList_ofList, List.map_append, toDigits_dig]
  rfl
theorem numT_of_nonneg {i : Int} (h : 0 ≤ i) : numT i = dig i.toNat := by
  rw [← numT_nat]; congr 1; omega
theorem dig_ne (n : Nat) : dig n ≠ [] := by
  by_cases h : n < 10
  · rw [dig_lt h]; simp
  · rw [dig_ge h]; simp
theorem dig_all : ∀ n : Nat, ∀ c ∈ dig n, 48 ≤ c ∧ c ≤ 57 := by
  intro n
  induction n using Nat.strongRecOn with
  | ind n ih =>
    intro c hc
    by_cases h : n < 10
    · rw [dig_lt h] at hc; simp at hc; omega
    · rw [dig_ge h] at hc
      rcases List.mem_append.mp hc with hc | hc
      · exact ih (n / 10) (by omega) c hc
      · simp at hc; omega
theorem dig_isDig (n : Nat) : (dig n).all isDig = true := by
  rw [List.all_eq_true]
  intro c hc
  have := dig_all n c hc
  simp [isDig, this.1, this.2]
theorem digV_append (a b : List Nat) : digV (a ++ b) = b.foldl (fun n c => 10 * n + (c - 48)) (digV a) := by unfold digV; rw [List.foldl_append]
theorem digV_dig : ∀ n : Nat, digV (dig n) = n := by
  intro n
  induction n using Nat.strongRecOn with
  | ind n ih =>
    by_cases h : n < 10
    · rw [dig_lt h]; simp [digV]
    · rw [dig_ge h, digV_append, ih (n / 10) (by omega)]
      simp only [List.foldl_cons, List.foldl_nil]
      omega
/-- no zero in front -/
theorem dig_head : ∀ n : Nat, 0 < n → ∃ c r, dig n = c :: r ∧ 49 ≤ c ∧ c ≤ 57 := by
  intro n
  induction n using Nat.strongRecOn with
  | ind n ih =>
    intro hn
    by_cases h : n < 10
    · exact ⟨_, _, dig_lt h, by omega, by omega⟩
    · obtain ⟨c, r, e, h1, h2⟩ := ih (n / 10) (by omega) (by omega)
      exact ⟨c, r ++ [48 + n % 10], by rw [dig_ge h, e]; rfl, h1, h2⟩
theorem dig_zero : dig 0 = [48] := dig_lt (by decide)
theorem dig_len : ∀ (k n : Nat), n < 10 ^ (k + 1) → (dig n).length ≤ k + 1 := by
  intro k
  induction k with
  | zero => intro n h; rw [dig_lt (by omega)]; simp
  | succ k ih =>
    intro n h
    by_cases h' : n < 10
    · rw [dig_lt h']; simp
    · rw [dig_ge h', List.length_append]
      have := ih (n / 10) (by rw [Nat.pow_succ] at h; omega)
      simp; omega
theorem digs_dig {n : Nat} (h : (dig n).length ≤ 600) : digs (dig n) = some n := by
  unfold digs
  rw [if_pos ⟨dig_ne n, dig_isDig n, h⟩, digV_dig]
theorem intT_dig {n : Nat} (h : (dig n).length ≤ 600) : intT (dig n) = some (n : Int) := by
  unfold intT
  split
  · rename_i r e
    have := dig_all n 45 (by rw [e]; exact List.mem_cons_self)
    omega
  · rw [digs_dig h]; rfl
theorem intT_neg {n : Nat} (h : (dig n).length ≤ 600) : intT (45 :: dig n) = some (-(n : Int)) := by
  simp only [intT]
  rw [digs_dig h]; rfl
theorem intT_num {i : Int} (h : i.natAbs < 10 ^ 100) : intT (numT i) = some i := by
  have len : ∀ n : Nat, n < 10 ^ 100 → (dig n).length ≤ 600 := fun n hn => Nat.le_trans (dig_len 99 n hn) (by decide)
  by_cases hi : 0 ≤ i
  · rw [numT_of_nonneg hi, intT_dig (len _ (by omega))]
    congr 1; omega
  · obtain ⟨n, rfl⟩ : ∃ n : Nat, i = -((n + 1 : Nat) : Int) := ⟨i.natAbs - 1, by omega⟩
    rw [numT_neg, intT_neg (len _ (by omega))]
/-- five digits with a one in front, the one cut off: the number, zeros in front -/
theorem dig_six {h : Nat} (hh : h < 100000) : dig (100000 + h) = [49, 48 + h / 10000 % 10, 48 + h / 1000 % 10, 48 + h / 100 % 10, 48 + h / 10 % 10, 48 + h % 10] := by
  rw [dig_ge (by omega), dig_ge (by omega), dig_ge (by omega), dig_ge (by omega), dig_ge (by omega), dig_lt (by omega)]
  simp only [List.cons_append, List.nil_append, List.append_assoc]
  congr 1
  · omega
  congr 1
  · omega
  congr 1
  · omega
  congr 1
  · omega
  congr 1
  · omega
  congr 1
  omega
theorem dig_five {h : Nat} (hh : h < 100000) : List.replicate (5 - (dig h).length) 48 ++ dig h = [48 + h / 10000 % 10, 48 + h / 1000 % 10, 48 + h / 100 % 10, 48 + h / 10 % 10, 48 + h % 10] := by
  by_cases h1 : h < 10
  · rw [dig_lt h1]
    simp [List.replicate]; omega
  by_cases h2 : h < 100
  · rw [dig_ge h1, dig_lt (by omega)]
    simp [List.replicate]; omega
  by_cases h3 : h < 1000
  · rw [dig_ge h1, dig_ge (by omega), dig_lt (by omega)]
    simp [List.replicate]; omega
  by_cases h4 : h < 10000
  · rw [dig_ge h1, dig_ge (by omega), dig_ge (by omega), dig_lt (by omega)]
    simp [List.replicate]; omega
  · rw [dig_ge h1, dig_ge (by omega), dig_ge (by omega), dig_ge (by omega), dig_lt (by omega)]
    simp [List.replicate]; omega
end O
end

section
set_option Elab.async false
set_option linter.all false
set_option maxRecDepth 100000
/-! OEv: how terms are answered, form by form. -/
namespace O
open PySem
section
variable {F : Nat → List D → OS → R D} {G : Nat → D} {W : Nat} {env : Env} {o o1 : OS}
/-- (a rule, not a computation: the kernel shall not multiply) -/
theorem b_ok {α β : Type} {a : α} {f : α → OS → R β} : (R.ok a o).bind f = f a o := id rfl
@[simp] theorem ev_v0 {d : D} {r : Env} : evE F G (.var 0) (some d :: r) o = .ok d o := id rfl
@[simp] theorem ev_v1 {d : D} {a : Option D} {r : Env} : evE F G (.var 1) (a :: some d :: r) o = .ok d o := id rfl
@[simp] theorem ev_v2 {d : D} {a b : Option D} {r : Env} : evE F G (.var 2) (a :: b :: some d :: r) o = .ok d o := id rfl
@[simp] theorem ev_v3 {d : D} {a b c : Option D} {r : Env} : evE F G (.var 3) (a :: b :: c :: some d :: r) o = .ok d o := id rfl
@[simp] theorem ev_v4 {d : D} {a b c e : Option D} {r : Env} : evE F G (.var 4) (a :: b :: c :: e :: some d :: r) o = .ok d o := id rfl
@[simp] theorem ev_v5 {d : D} {a b c e f : Option D} {r : Env} : evE F G (.var 5) (a :: b :: c :: e :: f :: some d :: r) o = .ok d o := id rfl
@[simp] theorem ev_v6 {d : D} {a b c e f g : Option D} {r : Env} : evE F G (.var 6) (a :: b :: c :: e :: f :: g :: some d :: r) o = .ok d o := id rfl
@[simp] theorem ev_v7 {d : D} {a b c e f g h : Option D} {r : Env} : evE F G (.var 7) (a :: b :: c :: e :: f :: g :: h :: some d :: r) o = .ok d o := id rfl
@[simp] theorem ev_v8 {d : D} {a b c e f g h i : Option D} {r : Env} : evE F G (.var 8) (a :: b :: c :: e :: f :: g :: h :: i :: some d :: r) o = .ok d o := id rfl
@[simp] theorem ev_v9 {d : D} {a b c e f g h i j : Option D} {r : Env} : evE F G (.var 9) (a :: b :: c :: e :: f :: g :: h :: i :: j :: some d :: r) o = .ok d o := id rfl
@[simp] theorem ev_v10 {d : D} {a b c e f g h i j k : Option D} {r : Env} : evE F G (.var 10) (a :: b :: c :: e :: f :: g :: h :: i :: j :: k :: some d :: r) o = .ok d o := id rfl
@[simp] theorem ev_v11 {d : D} {a b c e f g h i j k l : Option D} {r : Env} : evE F G (.var 11) (a :: b :: c :: e :: f :: g :: h :: i :: j :: k :: l :: some d :: r) o = .ok d o := id rfl
@[simp] theorem ev_v12 {d : D} {a b c e f g h i j k l m : Option D} {r : Env} : evE F G (.var 12) (a :: b :: c :: e :: f :: g :: h :: i :: j :: k :: l :: m :: some d :: r) o = .ok d o := id rfl
@[simp] theorem ev_v13 {d : D} {a b c e f g h i j k l m n : Option D} {r : Env} : evE F G (.var 13) (a :: b :: c :: e :: f :: g :: h :: i :: j :: k :: l :: m :: n :: some d :: r) o = .ok d o := id rfl
@[simp] theorem ev_con {d : D} : evE F G (.con d) env o = .ok d o := id rfl
@[simp] theorem ev_glo {g : Nat} : evE F G (.glo g) env o = .ok (G g) o := id rfl
@[simp] theorem ev_bin {op : Bop} {a b : E} : evE F G (.bin op a b) env o = (evE F G a env o).bind fun x o1 => (evE F G b env o1).bind fun y o2 => R.of (binD op x y) o2 := id rfl
@[simp] theorem ev_cmp {op : Cop} {a b : E} : evE F G (.cmp op a b) env o = (evE F G a env o).bind fun x o1 => (evE F G b env o1).bind fun y o2 => R.of ((cmpD op x y).map .bl) o2 := id rfl
@[simp] theorem ev_and {a b : E} : evE F G (.and a b) env o = (evE F G a env o).bind fun x o1 => if truthy x then evE F G b env o1 else .ok x o1 := id rfl
@[simp] theorem ev_or {a b : E} : evE F G (.or a b) env o = (evE F G a env o).bind fun x o1 => if truthy x then .ok x o1 else evE F G b env o1 := id rfl
@[simp] theorem ev_not {a : E} : evE F G (.not a) env o = (evE F G a env o).bind fun x o1 => .ok (.bl (!truthy x)) o1 := id rfl
@[simp] theorem ev_ite {c a b : E} : evE F G (.ite c a b) env o = (evE F G c env o).bind fun x o1 => if truthy x then evE F G a env o1 else evE F G b env o1 := id rfl
@[simp] theorem ev_tup {es : Es} : evE F G (.tup es) env o = (evEs F G es env o).bind fun ds o1 => .ok (.tup ds) o1 := id rfl
@[simp] theorem ev_lst {es : Es} : evE F G (.lst es) env o = (evEs F G es env o).bind fun ds o1 => .ok (.lst ds) o1 := id rfl
@[simp] theorem ev_nn : evE F G .nn env o = .ok (.lst [.lst []]) o := id rfl
@[simp] theorem ev_ix {a b : E} : evE F G (.ix a b) env o = (evE F G a env o).bind fun x o1 => (evE F G b env o1).bind fun y o2 => R.of (ixD x y) o2 := id rfl
@[simp] theorem ev_sl {a lo hi : E} : evE F G (.sl a lo hi) env o = (evE F G a env o).bind fun x o1 => (evE F G lo env o1).bind fun y o2 => (R.of (bnd y) o2).bind fun i o3 => (evE F G hi env o3).bind fun z o4 => (R.of (bnd z) o4).bind fun j o5 => R.of (cutD x (some i) (some j)) o5 := id rfl
@[simp] theorem ev_slo {a lo : E} : evE F G (.slo a lo) env o = (evE F G a env o).bind fun x o1 => (evE F G lo env o1).bind fun y o2 => (R.of (bnd y) o2).bind fun i o3 => R.of (cutD x (some i) none) o3 := id rfl
@[simp] theorem ev_shi {a hi : E} : evE F G (.shi a hi) env o = (evE F G a env o).bind fun x o1 => (evE F G hi env o1).bind fun z o2 => (R.of (bnd z) o2).bind fun j o3 => R.of (cutD x none (some j)) o3 := id rfl
@[simp] theorem ev_call {f : Nat} {es : Es} : evE F G (.call f es) env o = (evEs F G es env o).bind fun ds o1 => F f ds o1 := id rfl
@[simp] theorem ev_star {f : Nat} {a : E} : evE F G (.star f a) env o = (evE F G a env o).bind fun x o1 => (R.of (match x with | .tup ds => some ds | _ => none) o1).bind fun ds o2 => F f ds o2 := id rfl
@[simp] theorem ev_bi {b : Bi} {es : Es} : evE F G (.bi b es) env o = (evEs F G es env o).bind fun ds o1 => R.of (biD b ds) o1 := id rfl
@[simp] theorem ev_isi {a : E} {t : Nat} : evE F G (.isi a t) env o = (evE F G a env o).bind fun x o1 => .ok (.bl (isiD t x)) o1 := id rfl
@[simp] theorem ev_inG {neg : Bool} {a : E} {g : Nat} : evE F G (.inG neg a g) env o = (evE F G a env o).bind fun x o1 => R.of ((keyG (G g) x).map fun r => .bl (r.isSome != neg)) o1 := id rfl
@[simp] theorem ev_ixG {a : E} {g : Nat} : evE F G (.ixG g a) env o = (evE F G a env o).bind fun x o1 => R.of ((keyG (G g) x).bind fun r => r) o1 := id rfl
@[simp] theorem ev_chn {op op' : Cop} {a b c : E} : evE F G (.chn op op' a b c) env o = (evE F G a env o).bind fun x o1 => (evE F G b env o1).bind fun y o2 => (R.of (cmpD op x y) o2).bind fun t o3 => if t then (evE F G c env o3).bind fun z o4 => R.of ((cmpD op' y z).map .bl) o4 else .ok (.bl false) o3 := id rfl
@[simp] theorem ev_es0 : evEs F G .nil env o = .ok [] o := id rfl
@[simp] theorem ev_es {e : E} {es : Es} : evEs F G (.cons e es) env o = (evE F G e env o).bind fun d o1 => (evEs F G es env o1).bind fun ds o2 => .ok (d :: ds) o2 := id rfl
@[simp] theorem ev_c0 : evC F G .nil env o = .ok true o := id rfl
@[simp] theorem ev_c {e : E} {es : Es} : evC F G (.cons e es) env o = (evE F G e env o).bind fun d o1 => if truthy d then evC F G es env o1 else .ok false o1 := id rfl
@[simp] theorem ev_ie {a : E} : evI F G (.e a) env o = (evE F G a env o).bind fun x o1 => R.of (itemsD x) o1 := id rfl
@[simp] theorem ev_ien {a : E} : evI F G (.en a) env o = (evE F G a env o).bind fun x o1 => (R.of (tupD x) o1).bind fun ds o2 => .ok (ds.zipIdx.map fun p => .tup [.int p.2, p.1]) o2 := id rfl
@[simp] theorem ev_izip {a b : E} : evI F G (.zip a b) env o = (evE F G a env o).bind fun x o1 => (evE F G b env o1).bind fun y o2 => R.of (zipD x y) o2 := id rfl
@[simp] theorem ev_ir1 {a : E} : evI F G (.r1 a) env o = (evE F G a env o).bind fun x o1 => (R.of (isInt x) o1).bind fun i o2 => if rngOk i then .ok (range 0 i.toNat) o2 else .bad := id rfl
@[simp] theorem ev_ir2 {a b : E} : evI F G (.r2 a b) env o = (evE F G a env o).bind fun x o1 => (evE F G b env o1).bind fun y o2 => (R.of (isInt x) o2).bind fun i o3 => (R.of (isInt y) o3).bind fun j o4 => if rngOk i && rngOk j then .ok (range i (j - i).toNat) o4 else .bad := id rfl
/-- a comprehension by what its items give -/
theorem ev_lc {own : List Nat} {t : Tg} {it : It} {cs : Es} {e : E} : evE F G (.lc own t it cs e) env o = (evI F G it env o).bind fun ds o1 =>
      (lcGo (fun d o => (R.of (asgT t d (wipeE env own)) o).bind fun env' o2 => (evC F G cs env' o2).nox.bind fun b o3 => if b then (evE F G e env' o3).nox.bind fun x o4 => .ok (some x) o4 else .ok none o3) ds [] o1).bind fun xs o2 => .ok (.lst xs) o2 := rfl
/-- one turn of a comprehension -/
def turn (F : Nat → List D → OS → R D) (G : Nat → D) (own : List Nat) (t : Tg) (cs : Es) (e : E) (env : Env) (d : D) (o : OS) : R (Option D) := (R.of (asgT t d (wipeE env own)) o).bind fun env' o2 => (evC F G cs env' o2).nox.bind fun b o3 => if b then (evE F G e env' o3).nox.bind fun x o4 => .ok (some x) o4 else .ok none o3
theorem ev_lc' {own : List Nat} {t : Tg} {it : It} {cs : Es} {e : E} {ds xs : List D} {o1 o2 : OS} (h1 : evI F G it env o = .ok ds o1) (h2 : lcGo (turn F G own t cs e env) ds [] o1 = .ok xs o2) : evE F G (.lc own t it cs e) env o = .ok (.lst xs) o2 := by
  rw [ev_lc, h1]
  show (lcGo (turn F G own t cs e env) ds [] o1).bind _ = _
  rw [h2]; rfl
theorem ev_sc' {own : List Nat} {t : Tg} {it : It} {cs : Es} {e : E} {ds xs zs : List D} {o1 o2 : OS} (h1 : evI F G it env o = .ok ds o1) (h2 : scGo (turn F G own t cs e env) ds [] o1 = .ok xs o2) (h3 : canon xs = some zs) : evE F G (.sc own t it cs e) env o = .ok (.lst zs) o2 := by
  show (evI F G it env o).bind _ = _
  rw [h1]
  show (scGo (turn F G own t cs e env) ds [] o1).bind _ = _
  rw [h2]
  show R.of ((canon xs).map D.lst) o2 = _
  rw [h3]; rfl
theorem turn_y {own : List Nat} {t : Tg} {cs : Es} {e : E} {d x : D} {env' : Env} {o1 o2 : OS} (h : asgT t d (wipeE env own) = some env') (hc : evC F G cs env' o = .ok true o1) (he : evE F G e env' o1 = .ok x o2) : turn F G own t cs e env d o = .ok (some x) o2 := by
  unfold turn
  simp only [h, R.of_some, R.bind_ok, hc, R.nox_ok, if_true, he]
theorem turn_n {own : List Nat} {t : Tg} {cs : Es} {e : E} {d : D} {env' : Env} {o1 : OS} (h : asgT t d (wipeE env own) = some env') (hc : evC F G cs env' o = .ok false o1) : turn F G own t cs e env d o = .ok none o1 := by
  unfold turn
  simp only [h, R.of_some, R.bind_ok, hc, R.nox_ok, if_false, Bool.false_eq_true]
/-- turns that all give an item -/
theorem lcGo_map {step : D → OS → R (Option D)} {f : D → D} : ∀ {ds acc : List D} {o : OS}, (∀ d ∈ ds, step d o = .ok (some (f d)) o) → acc.length + ds.length ≤ lid → lcGo step ds acc o = .ok (acc ++ ds.map f) o
  | [], acc, o, _, _ => by simp [lcGo]
  | d :: ds, acc, o, h, hl => by
    rw [List.length_cons] at hl
    unfold lcGo
    rw [h d List.mem_cons_self]
    simp only [R.bind_ok]
    rw [if_pos (by omega), lcGo_map (fun x hx => h x (List.mem_cons_of_mem _ hx)) (by rw [List.length_append]; simp; omega)]
    simp
/-- turns that give an item or none -/
theorem lcGo_fm {step : D → OS → R (Option D)} {f : D → Option D} : ∀ {ds acc : List D} {o : OS}, (∀ d ∈ ds, step d o = .ok (f d) o) → acc.length + ds.length ≤ lid → lcGo step ds acc o = .ok (acc ++ ds.filterMap f) o
  | [], acc, o, _, _ => by simp [lcGo]
  | d :: ds, acc, o, h, hl => by
    rw [List.length_cons] at hl
    unfold lcGo
    rw [h d List.mem_cons_self]
    simp only [R.bind_ok]
    cases hf : f d with
    | none =>
      simp only [List.filterMap_cons, hf]
      exact lcGo_fm (fun x hx => h x (List.mem_cons_of_mem _ hx)) (by omega)
    | some y =>
      simp only [List.filterMap_cons, hf]
      rw [if_pos (by omega), lcGo_fm (fun x hx => h x (List.mem_cons_of_mem _ hx)) (by rw [List.length_append]; simp; omega)]
      simp
theorem scGo_fm {step : D → OS → R (Option D)} {f : D → Option D} : ∀ {ds acc : List D} {o : OS}, (∀ d ∈ ds, step d o = .ok (f d) o) → (∀ d ∈ ds, ∀ y, f d = some y → keyOk y = true) → acc.length + ds.length ≤ 62 → scGo step ds acc o = .ok (acc ++ ds.filterMap f) o
  | [], acc, o, _, _, _ => by simp [scGo]
  | d :: ds, acc, o, h, hk, hl => by
    rw [List.length_cons] at hl
    unfold scGo
    rw [h d List.mem_cons_self]
    simp only [R.bind_ok]
    cases hf : f d with
    | none =>
      simp only [List.filterMap_cons, hf]
      exact scGo_fm (fun x hx => h x (List.mem_cons_of_mem _ hx)) (fun x hx => hk x (List.mem_cons_of_mem _ hx)) (by omega)
    | some y =>
      simp only [List.filterMap_cons, hf]
      rw [if_pos (by rw [Bool.and_eq_true, decide_eq_true_eq]; exact ⟨by omega, hk d List.mem_cons_self y hf⟩), scGo_fm (fun x hx => h x (List.mem_cons_of_mem _ hx)) (fun x hx => hk x (List.mem_cons_of_mem _ hx)) (by rw [List.length_append]; simp; omega)]
      simp
/-! ### statements -/
variable {ss a b : Sts}
@[simp] theorem ev_s0 : evSs F G W .nil env o = .ok (.nx env) o := id rfl
theorem ev_s {s : St} : evSs F G W (.cons s ss) env o = (evS F G W s env o).bind fun f o1 => match f with
    | .nx env1 => evSs F G W ss env1 o1
    | f => .ok f o1 := rfl
theorem s_asg' {i : Nat} {e : E} {d : D} (h : evE F G e env o = .ok d o1) : evSs F G W (.cons (.asg (.nm i) e) ss) env o = evSs F G W ss (env.set i (some d)) o1 := by
  rw [ev_s]
  show ((evE F G e env o).bind fun d o1 => (R.of (asgT (.nm i) d env) o1).bind fun env1 o2 => .ok (Fl.nx env1) o2).bind _ = _
  rw [h]; rfl
theorem s_asgT {t : Tg} {e : E} {d : D} {env1 : Env} (h : evE F G e env o = .ok d o1) (ht : asgT t d env = some env1) : evSs F G W (.cons (.asg t e) ss) env o = evSs F G W ss env1 o1 := by
  rw [ev_s]
  show ((evE F G e env o).bind fun d o1 => (R.of (asgT t d env) o1).bind fun env1 o2 => .ok (Fl.nx env1) o2).bind _ = _
  rw [h]; simp only [R.bind_ok, ht, R.of_some]
theorem s_par' {is : List Nat} {es : Es} {ds : List D} {env1 : Env} (h : evEs F G es env o = .ok ds o1) (hp : parE is ds env = some env1) : evSs F G W (.cons (.par is es) ss) env o = evSs F G W ss env1 o1 := by
  rw [ev_s]
  show ((evEs F G es env o).bind fun ds o1 => (R.of (parE is ds env) o1).bind fun env1 o2 => .ok (Fl.nx env1) o2).bind _ = _
  rw [h]; simp only [R.bind_ok, hp, R.of_some]
theorem s_ret' {e : E} {d : D} (h : evE F G e env o = .ok d o1) : evSs F G W (.cons (.ret e) ss) env o = .ok (.rt d) o1 := by
  rw [ev_s]
  show ((evE F G e env o).bind fun d o1 => .ok (Fl.rt d) o1).bind _ = _
  rw [h]; rfl
theorem s_rai' {c : Nat} {e : E} {i : Int} (h : evE F G e env o = .ok (.int i) o1) : evSs F G W (.cons (.rai c e) ss) env o = .ex c o1 := by
  rw [ev_s]
  show ((evE F G e env o).bind fun d o1 => (R.of (isInt d) o1).bind fun _ o2 => (R.ex c o2 : R Fl)).bind _ = _
  rw [h]; rfl
theorem s_ifT {c : E} {d : D} (h : evE F G c env o = .ok d o1) (ht : truthy d = true) : evSs F G W (.cons (.iff c a b) ss) env o = (evSs F G W a env o1).bind fun f o1 => match f with
    | .nx env1 => evSs F G W ss env1 o1
    | f => .ok f o1 := by
  rw [ev_s]
  show ((evE F G c env o).bind fun x o1 => if truthy x then evSs F G W a env o1 else evSs F G W b env o1).bind _ = _
  rw [h]; simp only [R.bind_ok, ht, if_true]
theorem s_ifF {c : E} {d : D} (h : evE F G c env o = .ok d o1) (ht : truthy d = false) : evSs F G W (.cons (.iff c a b) ss) env o = (evSs F G W b env o1).bind fun f o1 => match f with
    | .nx env1 => evSs F G W ss env1 o1
    | f => .ok f o1 := by
  rw [ev_s]
  show ((evE F G c env o).bind fun x o1 => if truthy x then evSs F G W a env o1 else evSs F G W b env o1).bind _ = _
  rw [h]; simp only [R.bind_ok, ht, if_false, Bool.false_eq_true]
theorem s_ifR {c : E} {d v : D} {o2 : OS} (h : evE F G c env o = .ok d o1) (ht : truthy d = true) (ha : evSs F G W a env o1 = .ok (.rt v) o2) : evSs F G W (.cons (.iff c a b) ss) env o = .ok (.rt v) o2 := by rw [s_ifT h ht, ha]; rfl
theorem s_ifX {c : E} {d : D} {x : Nat} {o2 : OS} (h : evE F G c env o = .ok d o1) (ht : truthy d = true) (ha : evSs F G W a env o1 = .ex x o2) : evSs F G W (.cons (.iff c a b) ss) env o = .ex x o2 := by rw [s_ifT h ht, ha]; rfl
theorem s_ifN {c : E} {d : D} (h : evE F G c env o = .ok d o1) (ht : truthy d = false) : evSs F G W (.cons (.iff c a .nil) ss) env o = evSs F G W ss env o1 := by rw [s_ifF h ht]; rfl
theorem s_for' {t : Tg} {it : It} {bd : Sts} {ds : List D} {env1 : Env} {o2 : OS} (h : evI F G it env o = .ok ds o1) (hf : frGo (fun d env o => (R.of (asgT t d env) o).bind fun env1 o1 => evSs F G W bd env1 o1) ds env o1 = .ok (.nx env1) o2) : evSs F G W (.cons (.forr t it bd) ss) env o = evSs F G W ss env1 o2 := by
  rw [ev_s]
  show ((evI F G it env o).bind fun ds o1 => frGo (fun d env o => (R.of (asgT t d env) o).bind fun env1 o1 => evSs F G W bd env1 o1) ds env o1).bind _ = _
  rw [h]; simp only [R.bind_ok]; rw [hf]; rfl
theorem s_forX {t : Tg} {it : It} {bd : Sts} {ds : List D} {r : R Fl} (h : evI F G it env o = .ok ds o1) (hf : frGo (fun d env o => (R.of (asgT t d env) o).bind fun env1 o1 => evSs F G W bd env1 o1) ds env o1 = r) : evSs F G W (.cons (.forr t it bd) ss) env o = r.bind fun f o1 => match f with
    | .nx env1 => evSs F G W ss env1 o1
    | f => .ok f o1 := by
  rw [ev_s]
  show ((evI F G it env o).bind fun ds o1 => frGo (fun d env o => (R.of (asgT t d env) o).bind fun env1 o1 => evSs F G W bd env1 o1) ds env o1).bind _ = _
  rw [h]; simp only [R.bind_ok]; rw [hf]
theorem s_whl {c : E} {bd : Sts} {r : R Fl} (hf : whGo (fun env o => (evE F G c env o).bind fun x o1 => .ok (truthy x) o1) (fun env o => evSs F G W bd env o) W env o = r) : evSs F G W (.cons (.whil c bd) ss) env o = r.bind fun f o1 => match f with
    | .nx env1 => evSs F G W ss env1 o1
    | f => .ok f o1 := by
  rw [ev_s, ← hf]; rfl
theorem for_body {t : Tg} {d : D} {env1 : Env} {bd : Sts} (h : asgT t d env = some env1) : ((R.of (asgT t d env) o).bind fun env1 o1 => evSs F G W bd env1 o1) = evSs F G W bd env1 o := by rw [h]; rfl
theorem s_whlN {c : E} {bd : Sts} {env1 : Env} (hf : whGo (fun env o => (evE F G c env o).bind fun x o1 => .ok (truthy x) o1) (fun env o => evSs F G W bd env o) W env o = .ok (.nx env1) o1) : evSs F G W (.cons (.whil c bd) ss) env o = evSs F G W ss env1 o1 := by
  rw [s_whl hf]; rfl
/-- a loop over items, state by state -/
theorem frGo_inv {body : D → Env → OS → R Fl} (P : List D → Env → OS → Prop) (step : ∀ d ds env o, P (d :: ds) env o → ∃ env1 o1, body d env o = .ok (.nx env1) o1 ∧ P ds env1 o1) : ∀ (ds : List D) (env : Env) (o : OS), P ds env o → ∃ env' o', frGo body ds env o = .ok (.nx env') o' ∧ P [] env' o'
  | [], env, o, h => ⟨env, o, rfl, h⟩
  | d :: ds, env, o, h => by
    obtain ⟨env1, o1, e, h1⟩ := step d ds env o h
    obtain ⟨env2, o2, e2, h2⟩ := frGo_inv P step ds env1 o1 h1
    exact ⟨env2, o2, by unfold frGo; rw [e]; exact e2, h2⟩
theorem frGo_cons {body : D → Env → OS → R Fl} {d : D} {ds : List D} {env env1 : Env} {o o1 : OS} (h : body d env o = .ok (.nx env1) o1) : frGo body (d :: ds) env o = frGo body ds env1 o1 := by
  conv => { lhs; unfold frGo }
  rw [h]; rfl
theorem frGo_ex {body : D → Env → OS → R Fl} {d : D} {ds : List D} {env : Env} {o o1 : OS} {c : Nat} (h : body d env o = .ex c o1) : frGo body (d :: ds) env o = .ex c o1 := by
  conv => { lhs; unfold frGo }
  rw [h]; rfl
theorem frGo_rt {body : D → Env → OS → R Fl} {d v : D} {ds : List D} {env : Env} {o o1 : OS} (h : body d env o = .ok (.rt v) o1) : frGo body (d :: ds) env o = .ok (.rt v) o1 := by
  conv => { lhs; unfold frGo }
  rw [h]; rfl
theorem wh_step {test : Env → OS → R Bool} {body : Env → OS → R Fl} {n : Nat} {env env1 : Env} {o o1 o2 : OS} (h : test env o = .ok true o1) (hb : body env o1 = .ok (.nx env1) o2 ∨ body env o1 = .ok (.ct env1) o2) : whGo test body (n + 1) env o = whGo test body n env1 o2 := by
  conv => { lhs; unfold whGo }
  rw [h]
  simp only [R.bind_ok, if_true]
  rcases hb with hb | hb <;> (rw [hb]; rfl)
theorem wh_stop {test : Env → OS → R Bool} {body : Env → OS → R Fl} {n : Nat} {env : Env} {o o1 : OS} (h : test env o = .ok false o1) : whGo test body (n + 1) env o = .ok (.nx env) o1 := by
  unfold whGo
  rw [h]; rfl
/-! ### operators -/
@[simp] theorem b_addI {i j : Int} : binD .add (.int i) (.int j) = some (.int (i + j)) := id rfl
@[simp] theorem b_subI {i j : Int} : binD .sub (.int i) (.int j) = some (.int (i - j)) := id rfl
theorem b_addS {x y : List Nat} (h : x.length + y.length ≤ lid) : binD .add (.str x) (.str y) = some (.str (x ++ y)) := if_pos h
theorem b_addL {x y : List D} (h : x.length + y.length ≤ lid) : binD .add (.lst x) (.lst y) = some (.lst (x ++ y)) := if_pos h
@[simp] theorem r_of_some {α : Type} {a : α} : R.of (some a) o = .ok a o := id rfl
@[simp] theorem r_nox {α : Type} {a : α} : (R.ok a o : R α).nox = .ok a o := id rfl
@[simp] theorem bnd_int {i : Int} (h : -(2 ^ 62) < i ∧ i < 2 ^ 62) : bnd (.int i) = some i := if_pos h
@[simp] theorem t_bl {b : Bool} : truthy (.bl b) = b := id rfl
end
end O
end

section
set_option Elab.async false
set_option linter.all false
set_option maxRecDepth 100000
set_option maxHeartbeats 4000000
/-! OMa: k62's terms answered: seals. -/
namespace O.K62
open PySem O
def G62 : Nat → D
  | 0 => .str [48, 49, 50, 51, 52, 53, 54, 55, 56, 57]
  | 1 => .dct [(.str [78], .non), (.str [84], .bl true), (.str [70], .bl false)]
  | _ => .non
def xt62 : Nat → List D → OS → R D := fun _ _ _ => .bad
abbrev C (W k : Nat) : Nat → List D → OS → R D := callF fs xt62 G62 W k
variable {W k : Nat} {o : OS}
/-- a def's call, opened -/
theorem call_rt {f : Nat} {fn : Fn} {ds : List D} {v : D} {o1 : OS} (h : fs[f]? = some fn) (hl : ds.length = fn.np) (e : evSs (C W k) G62 W fn.body (ds.map some ++ List.replicate (fn.ns - fn.np) none) o = .ok (.rt v) o1) : C W (k + 1) f ds o = .ok v o1 := by
  show callF fs xt62 G62 W (k + 1) f ds o = _
  unfold callF
  rw [h]
  simp only [hl, if_true]
  rw [e]; rfl
theorem call_ex {f : Nat} {fn : Fn} {ds : List D} {c : Nat} {o1 : OS} (h : fs[f]? = some fn) (hl : ds.length = fn.np) (e : evSs (C W k) G62 W fn.body (ds.map some ++ List.replicate (fn.ns - fn.np) none) o = .ex c o1) : C W (k + 1) f ds o = .ex c o1 := by
  show callF fs xt62 G62 W (k + 1) f ds o = _
  unfold callF
  rw [h]
  simp only [hl, if_true]
  rw [e]; rfl
@[simp] theorem len_str {s : List Nat} : biD .len [.str s] = some (.int s.length) := id rfl
@[simp] theorem len_lst {s : List D} : biD .len [.lst s] = some (.int s.length) := id rfl
@[simp] theorem len_tup {s : List D} : biD .len [.tup s] = some (.int s.length) := id rfl
@[simp] theorem ord_str {c : Nat} : biD .ord [.str [c]] = some (.int c) := id rfl
theorem str_int {i : Int} (h : i.natAbs < 2 ^ 64) : biD .str [.int i] = some (.str (numT i)) := by
  show (if i.natAbs.log2 < 1920 then _ else _) = _
  refine if_pos ?_
  by_cases z : i.natAbs = 0
  · rw [z]; decide
  · exact Nat.lt_of_lt_of_le ((Nat.log2_lt z).mpr h) (by decide)
theorem mulI {i j : Int} (h : -(2 ^ 64) < i ∧ i < 2 ^ 64) : binD .mul (.int i) (.int j) = some (.int (i * j)) := by
  show (if (decide (-(2 ^ 64) < i) && decide (i < 2 ^ 64)) || (decide (-(2 ^ 64) < j) && decide (j < 2 ^ 64)) then _ else _) = _
  refine if_pos ?_
  simp only [Bool.or_eq_true, Bool.and_eq_true, decide_eq_true_eq]
  exact .inl h
theorem modI {i j : Int} (h : 0 < j) : binD .mod (.int i) (.int j) = some (.int (i % j)) := if_pos h

def hgo : List Nat → Nat → Nat
  | [], h => h
  | c :: cs, h => hgo cs ((131 * h + c) % 99991)
def hashC (s : List Nat) : Nat := hgo s s.length
theorem hashC_lt (s : List Nat) (h : s.length < 99991) : hashC s < 99991 := by
  unfold hashC
  have : ∀ (l : List Nat) (a : Nat), a < 99991 → hgo l a < 99991 := by
    intro l
    induction l with
    | nil => intro a h; exact h
    | cons c l ih => intro a _; exact ih _ (Nat.mod_lt _ (by decide))
  exact this s _ h
def chk (s : List Nat) : List Nat := [48 + hashC s / 10000 % 10, 48 + hashC s / 1000 % 10, 48 + hashC s / 100 % 10, 48 + hashC s / 10 % 10, 48 + hashC s % 10]
theorem chk_len (s : List Nat) : (chk s).length = 5 := rfl
theorem items_str {s : List Nat} : itemsD (.str s) = some (s.map fun c => .str [c]) := rfl
theorem c5_loop {body : D → Env → OS → R Fl} {s : List Nat} (hb : ∀ (h c : Nat) (x : Option D), body (.str [c]) [some (.str s), some (.int h), x] o = .ok (.nx [some (.str s), some (.int (((131 * h + c) % 99991 : Nat) : Int)), some (.str [c])]) o) : ∀ (cs : List Nat) (h : Nat) (x : Option D), ∃ x', frGo body (cs.map fun c => .str [c]) [some (.str s), some (.int h), x] o = .ok (.nx [some (.str s), some (.int ((hgo cs h : Nat) : Int)), x']) o
  | [], h, x => ⟨x, rfl⟩
  | c :: cs, h, x => by
    obtain ⟨x', e⟩ := c5_loop hb cs ((131 * h + c) % 99991) (some (.str [c]))
    exact ⟨x', by rw [List.map_cons, frGo_cons (hb h c x)]; exact e⟩
theorem hash_step (h c : Nat) : (131 * (h : Int) + (c : Int)) % 99991 = (((131 * h + c) % 99991 : Nat) : Int) := by omega
theorem cut_drop1 {α : Type} {a : α} {s : List α} : cut (a :: s) (some 1) none = s := by
  simp [cut, clip]
theorem c5 {s : List Nat} (hs : s.length < 99991) : C W (k + 1) 5 [.str s] o = .ok (.str (chk s)) o := by
  refine call_rt (fn := f5) rfl rfl ?_
  show evSs (C W k) G62 W f5.body [some (.str s), none, none] o = _
  unfold f5
  refine (s_asg' (d := .int s.length) (o1 := o) (by simp)).trans ?_
  obtain ⟨x', e⟩ := c5_loop (o := o) (s := s) (body := fun d env o => (R.of (asgT (.nm 2) d env) o).bind fun env1 o1 => evSs (C W k) G62 W (.cons (.asg (.nm 1) (.bin .mod (.bin .add (.bin .mul (.con (.int 131)) (.var 1)) (.bi .ord (.cons (.var 2) .nil))) (.con (.int 99991)))) .nil) env1 o1) (fun h c x => by
    refine (for_body (env1 := [some (.str s), some (.int h), some (.str [c])]) rfl).trans ?_
    refine (s_asg' (d := .int (((131 * h + c) % 99991 : Nat) : Int)) (o1 := o) (by simp only [ev_bin, ev_con, ev_v1, ev_v2, ev_bi, ev_es, ev_es0, b_ok, ord_str, r_of_some, mulI (show -(2 ^ 64) < (131 : Int) ∧ (131 : Int) < 2 ^ 64 by decide), b_addI, modI (show (0 : Int) < 99991 by decide), hash_step])).trans ?_
    rfl) s s.length none
  refine (s_for' (ds := s.map fun c => .str [c]) (o1 := o) (by simp [items_str]) e).trans ?_
  have hh := hashC_lt s hs
  refine s_ret' (d := .str (chk s)) (o1 := o) ?_
  have e1 : (100000 : Int) + ((hgo s s.length : Nat) : Int) = ((100000 + hashC s : Nat) : Int) := by unfold hashC; omega
  simp only [ev_slo, ev_bi, ev_es, ev_es0, ev_bin, ev_con, ev_v1, b_ok, b_addI, r_of_some, e1]
  rw [str_int (by omega), numT_nat, dig_six (by omega)]
  rw [bnd_int (by decide)]
  simp only [b_ok, r_of_some, cutD, cut_drop1]
  rfl
end O.K62
end

section
set_option Elab.async false
set_option linter.all false
set_option maxRecDepth 100000
set_option maxHeartbeats 4000000
/-! OMb: sealed texts, records, words' texts. -/
namespace O.K62
open PySem O
variable {W k : Nat} {o : OS}
def sealT (s : List Nat) : List Nat := dig s.length ++ 58 :: (s ++ chk s)
def recT (ts : List (List Nat)) : List Nat := (ts.map sealT).flatten
theorem dig_len6 {n : Nat} (h : n < 100000) : (dig n).length ≤ 5 := dig_len 4 n (by omega)
theorem str_len {n : Nat} (h : n < 100000) : biD .str [.int (n : Int)] = some (.str (dig n)) := by
  rw [str_int (by omega), numT_nat]
theorem sealT_len (s : List Nat) (h : s.length < 90000) : (sealT s).length ≤ s.length + 11 ∧ s.length + 7 ≤ (sealT s).length := by
  unfold sealT
  have h1 := dig_len6 (n := s.length) (by omega)
  have h2 : 0 < (dig s.length).length := List.length_pos_iff.mpr (dig_ne _)
  simp only [List.length_append, List.length_cons, chk_len]
  omega
theorem c6 {s : List Nat} (hs : s.length < 90000) : C W (k + 2) 6 [.str s] o = .ok (.str (sealT s)) o := by
  refine call_rt (fn := f6) rfl rfl ?_
  show evSs (C W (k + 1)) G62 W f6.body [some (.str s)] o = _
  unfold f6
  refine s_ret' (d := .str (sealT s)) (o1 := o) ?_
  have h1 := dig_len6 (n := s.length) (by omega)
  have hl : lid = 16777216 := rfl
  simp only [ev_bin, ev_bi, ev_es, ev_es0, ev_v0, ev_con, b_ok, len_str, r_of_some, ev_call]
  rw [str_len (by omega)]
  simp only [b_ok, r_of_some]
  rw [b_addS (by simp; omega)]
  simp only [b_ok, r_of_some]
  rw [b_addS (by simp; omega)]
  simp only [b_ok, r_of_some]
  rw [c5 (by omega)]
  simp only [b_ok, r_of_some]
  rw [b_addS (by simp [chk_len]; omega)]
  simp [sealT]
theorem strsD_map (ts : List (List Nat)) : strsD (ts.map .str) = some ts := by
  induction ts with
  | nil => rfl
  | cons t ts ih => simp [strsD, ih]
theorem joinT_nil (ts : List (List Nat)) : joinT [] ts = ts.flatten := by
  induction ts with
  | nil => rfl
  | cons t ts ih =>
    cases ts with
    | nil => simp [joinT]
    | cons u us =>
      show t ++ [] ++ joinT [] (u :: us) = _
      rw [ih]; simp
theorem join_nil {ts : List (List Nat)} (h : ts.flatten.length ≤ lid) : biD .join [.str [], .lst (ts.map .str)] = some (.str ts.flatten) := by
  show (strsD (ts.map .str)).bind _ = _
  rw [strsD_map]
  simp only [Option.bind_some]
  rw [if_pos (by rw [List.length_flatten] at h; simpa using h), joinT_nil]
theorem c7 {d : D} {ts : List (List Nat)} (hd : itemsD d = some (ts.map .str)) (hs : ∀ t ∈ ts, t.length < 90000) (hl : (recT ts).length ≤ lid) (hn : ts.length ≤ lid) : C W (k + 3) 7 [d] o = .ok (.str (recT ts)) o := by
  refine call_rt (fn := f7) rfl rfl ?_
  show evSs (C W (k + 2)) G62 W f7.body [some d, none] o = _
  unfold f7
  refine s_ret' (d := .str (recT ts)) (o1 := o) ?_
  have e : evE (C W (k + 2)) G62 (.lc [1] (.nm 1) (.e (.var 0)) .nil (.call 6 (.cons (.var 1) .nil))) [some d, none] o = .ok (.lst ((ts.map sealT).map .str)) o := by
    refine ev_lc' (ds := ts.map .str) (o1 := o) (by simp [hd]) ?_
    have := lcGo_map (step := turn (C W (k + 2)) G62 [1] (.nm 1) .nil (.call 6 (.cons (.var 1) .nil)) [some d, none]) (f := fun x => match x with | .str t => .str (sealT t) | y => y) (ds := ts.map .str) (acc := []) (o := o) (fun x hx => by
      obtain ⟨t, ht, rfl⟩ := List.mem_map.mp hx
      exact turn_y (env' := [some d, some (.str t)]) (o1 := o) rfl rfl (by simp only [ev_call, ev_es, ev_es0, ev_v1, b_ok]; exact c6 (hs t ht))) (by simpa using hn)
    rw [this]
    simp [Function.comp_def]
  simp only [ev_bi, ev_es, ev_es0, ev_con, b_ok, e]
  exact congrArg (fun x => R.of x o) (join_nil hl)

/-! ### the law's own seal -/
theorem reprT_int (i : Int) : reprT (.int i) = numT i := by
  unfold reprT numT
  simp only [toPy, PyData.shown]
  show (PySem.Str.ofString (toString i)).cps.toList = _
  rw [PySem.Str.ofString_eq_toList]
theorem repr_int {i : Int} (h : i.natAbs < 2 ^ 64) (hl : (numT i).length ≤ 1000) : biD .repr [.int i] = some (.str (numT i)) := by
  show (if pure (.int i) && (toPy (.int i)).showable && decide (depth (.int i) ≤ 60) && decide ((reprT (.int i)).length + 64 ≤ lid) then some (D.str (reprT (.int i))) else none) = _
  rw [reprT_int]
  refine if_pos ?_
  have hl2 : lid = 16777216 := rfl
  have h1 : i.natAbs.log2 < 1920 := by
    by_cases z : i.natAbs = 0
    · rw [z]; decide
    · exact Nat.lt_of_lt_of_le ((Nat.log2_lt z).mpr h) (by decide)
  simp [pure, toPy, PyData.showable, depth, h1]
  omega
theorem repr_nat {n : Nat} (h : n < 100000) : biD .repr [.int (n : Int)] = some (.str (dig n)) := by
  have := dig_len6 h
  rw [repr_int (by omega) (by rw [numT_nat]; omega), numT_nat]
theorem int_int {i : Int} : biD .int [.int i] = some (.int i) := id rfl
theorem mulI2 {i j : Int} (h : -(2 ^ 64) < j ∧ j < 2 ^ 64) : binD .mul (.int i) (.int j) = some (.int (i * j)) := by
  show (if (decide (-(2 ^ 64) < i) && decide (i < 2 ^ 64)) || (decide (-(2 ^ 64) < j) && decide (j < 2 ^ 64)) then _ else _) = _
  refine if_pos ?_
  simp only [Bool.or_eq_true, Bool.and_eq_true, decide_eq_true_eq]
  exact .inr h
theorem mulS {k : Int} {x : List Nat} (h : x.length * k.toNat ≤ lid ∧ k < 2 ^ 62 ∧ -(2 ^ 62) < k) : binD .mul (.int k) (.str x) = some (.str (rep x k)) := if_pos h
theorem rep_one (c n : Nat) : rep [c] (n : Int) = List.replicate n c := by
  unfold rep
  simp only [Int.toNat_natCast]
  induction n with
  | zero => rfl
  | succ n ih => simp [List.replicate_succ, ih]
theorem hash_step2 (h c : Nat) : ((h : Int) * 131 + (c : Int)) % 99991 = (((131 * h + c) % 99991 : Nat) : Int) := by omega
theorem seal_eq {s : List Nat} (hs : s.length < 90000) : sealT s = dig s.length ++ 58 :: (s ++ (List.replicate (5 - (dig (hashC s)).length) 48 ++ dig (hashC s))) := by
  have := dig_five (h := hashC s) (Nat.lt_trans (hashC_lt s (by omega)) (by decide))
  rw [this]
  rfl
theorem c22_end {F : Nat → List D → OS → R D} {s : List Nat} {n : Nat} {x : Option D} (hs : s.length < 90000) (hn : n < 99991) : evE F G62 (.bin .add (.bin .add (.bin .add (.bin .add (.bi .repr (.cons (.bi .len (.cons (.var 0) .nil)) .nil)) (.con (.str [58]))) (.var 0)) (.bin .mul (.bin .sub (.con (.int 5)) (.bi .len (.cons (.bi .repr (.cons (.var 1) .nil)) .nil))) (.con (.str [48])))) (.bi .repr (.cons (.var 1) .nil))) [some (.str s), some (.int (n : Int)), x] o
    = .ok (.str (dig s.length ++ 58 :: (s ++ (List.replicate (5 - (dig n).length) 48 ++ dig n)))) o := by
  have hl : lid = 16777216 := rfl
  have h1 := dig_len6 (n := s.length) (by omega)
  have h2 := dig_len6 (n := n) (by omega)
  have r1 := repr_nat (n := s.length) (by omega)
  have r2 := repr_nat (n := n) (by omega)
  have h3 : (5 : Int) - ((dig n).length : Int) = ((5 - (dig n).length : Nat) : Int) := by omega
  generalize dig s.length = u at *
  generalize dig n = v at *
  have a1 := b_addS (x := u) (y := [58]) (by simp; omega)
  have a2 := b_addS (x := u ++ [58]) (y := s) (by simp; omega)
  have a3 : binD .mul (.int ((5 - v.length : Nat) : Int)) (.str [48]) = some (.str (List.replicate (5 - v.length) 48)) := by
    rw [← rep_one]
    exact mulS (by refine ⟨?_, by omega, by omega⟩; simp only [List.length_cons, List.length_nil, Int.toNat_natCast]; omega)
  have a4 := b_addS (x := u ++ [58] ++ s) (y := List.replicate (5 - v.length) 48) (by simp; omega)
  have a5 := b_addS (x := u ++ [58] ++ s ++ List.replicate (5 - v.length) 48) (y := v) (by simp; omega)
  simp only [ev_bin, ev_bi, ev_es, ev_es0, ev_v0, ev_v1, ev_con, b_ok, len_str, r_of_some, r1, r2, a1, a2, b_subI, h3, a3, a4, a5]
  simp
theorem c22_step {F : Nat → List D → OS → R D} {s : List Nat} (h c : Nat) (x : Option D) : evE F G62 (.bin .mod (.bi .int (.cons (.bin .add (.bin .mul (.var 1) (.con (.int 131))) (.bi .ord (.cons (.var 2) .nil))) .nil)) (.con (.int 99991))) [some (.str s), some (.int h), some (.str [c])] o = .ok (.int (((131 * h + c) % 99991 : Nat) : Int)) o := by
  have m := mulI2 (i := (h : Int)) (j := 131) (by decide)
  have m2 := modI (i := (h : Int) * 131 + (c : Int)) (j := 99991) (by decide)
  rw [hash_step2] at m2
  generalize (h : Int) * 131 = P at m m2
  generalize (131 * h + c) % 99991 = R' at m2 ⊢
  simp only [ev_bin, ev_con, ev_v1, ev_v2, ev_bi, ev_es, ev_es0, b_ok, ord_str, r_of_some, m, b_addI, int_int, m2]
theorem c22_loop {F : Nat → List D → OS → R D} {s : List Nat} : ∃ x', frGo (fun d env o => (R.of (asgT (.nm 2) d env) o).bind fun env1 o1 => evSs F G62 W (.cons (.asg (.nm 1) (.bin .mod (.bi .int (.cons (.bin .add (.bin .mul (.var 1) (.con (.int 131))) (.bi .ord (.cons (.var 2) .nil))) .nil)) (.con (.int 99991)))) .nil) env1 o1) (s.map fun c => .str [c]) [some (.str s), some (.int s.length), none] o = .ok (.nx [some (.str s), some (.int ((hashC s : Nat) : Int)), x']) o := by
  refine c5_loop (fun h c x => ?_) s s.length none
  exact (for_body (env1 := [some (.str s), some (.int h), some (.str [c])]) rfl).trans (s_asg' (c22_step h c x))
theorem c22 {s : List Nat} (hs : s.length < 90000) : C W (k + 1) 22 [.str s] o = .ok (.str (sealT s)) o := by
  refine call_rt (fn := f22) rfl rfl ?_
  show evSs (C W k) G62 W f22.body [some (.str s), none, none] o = _
  unfold f22
  refine (s_asg' (d := .int s.length) (o1 := o) (by simp)).trans ?_
  obtain ⟨x', e⟩ := c22_loop (W := W) (o := o) (s := s) (F := C W k)
  refine (s_for' (ds := s.map fun c => .str [c]) (o1 := o) (by simp [items_str]) e).trans ?_
  have := s_ret' (F := C W k) (W := W) (ss := .nil) (c22_end (F := C W k) (n := hashC s) (x := x') (o := o) hs (hashC_lt s (by omega)))
  rw [seal_eq hs]
  exact this
end O.K62
end

section
set_option Elab.async false
set_option linter.all false
set_option maxRecDepth 100000
set_option maxHeartbeats 4000000
/-! OMc: words and their texts. -/
namespace O.K62
open PySem O
variable {W k : Nat} {o : OS}
mutual
/-- what a word may be here -/
def wOk : D → Bool
  | .non | .bl _ => true
  | .int i => decide (i.natAbs < 1000000)
  | .str s => decide (s.length < 1000) && s.all fun c => decide (32 ≤ c) && decide (c ≤ 126)
  | .tup ds => wOkL ds
  | _ => false
def wOkL : List D → Bool
  | [] => true
  | d :: ds => wOk d && wOkL ds
end
mutual
/-- its text -/
def wt : D → List Nat
  | .non => [78]
  | .bl b => if b then [84] else [70]
  | .int i => 105 :: (numT i ++ [59])
  | .str s => 116 :: (dig s.length ++ 58 :: s)
  | .tup ds => 40 :: (wtL ds ++ [41])
  | _ => []
def wtL : List D → List Nat
  | [] => []
  | d :: ds => wt d ++ wtL ds
end
theorem wtL_flat (ds : List D) : wtL ds = (ds.map wt).flatten := by
  induction ds with
  | nil => rfl
  | cons d ds ih => simp [wtL, ih]
theorem wt_pos : ∀ d : D, wOk d = true → 0 < (wt d).length := by
  intro d h
  cases d <;> simp_all [wOk, wt]
  split <;> simp
theorem wOk_mem : ∀ {ds : List D}, wOkL ds = true → ∀ d ∈ ds, wOk d = true
  | x :: ds, h, d, hd => by
    simp only [wOkL, Bool.and_eq_true] at h
    rcases List.mem_cons.mp hd with rfl | hd
    · exact h.1
    · exact wOk_mem h.2 d hd
theorem wtL_len : ∀ {ds : List D}, wOkL ds = true → ds.length ≤ (wtL ds).length
  | [], _ => Nat.le_refl _
  | d :: ds, h => by
    simp only [wOkL, Bool.and_eq_true] at h
    have h1 := wt_pos d h.1
    have h2 := wtL_len h.2
    simp only [wtL, List.length_append, List.length_cons]
    omega
theorem wt_mem_len : ∀ {ds : List D} {d : D}, d ∈ ds → (wt d).length ≤ (wtL ds).length
  | x :: ds, d, h => by
    simp only [wtL, List.length_append]
    rcases List.mem_cons.mp h with rfl | h
    · omega
    · have := wt_mem_len h; omega
theorem depthL_mem : ∀ {ds : List D} {d : D}, d ∈ ds → depth d ≤ depthL ds
  | x :: ds, d, h => by
    unfold depthL
    rcases List.mem_cons.mp h with rfl | h
    · omega
    · have := depthL_mem h; omega
theorem numT_len {i : Int} (h : i.natAbs < 1000000) : (numT i).length ≤ 7 := by
  by_cases hi : 0 ≤ i
  · rw [numT_of_nonneg hi]
    have := dig_len 5 i.toNat (by omega)
    omega
  · obtain ⟨n, rfl⟩ : ∃ n : Nat, i = -((n + 1 : Nat) : Int) := ⟨i.natAbs - 1, by omega⟩
    rw [numT_neg]
    have := dig_len 5 (n + 1) (by omega)
    simp only [List.length_cons]
    omega
theorem items_tup {ds : List D} : itemsD (.tup ds) = some ds := id rfl
/-- the texts of a tuple's items -/
theorem lc_words {F : Nat → List D → OS → R D} {f : Nat} {ds : List D} (hF : ∀ d ∈ ds, F f [d] o = .ok (.str (wt d)) o) (hl : ds.length ≤ lid) : evE F G62 (.lc [1] (.nm 1) (.e (.var 0)) .nil (.call f (.cons (.var 1) .nil))) [some (.tup ds), none] o = .ok (.lst ((ds.map wt).map .str)) o := by
  refine ev_lc' (ds := ds) (o1 := o) (by simp only [ev_ie, ev_v0, b_ok, items_tup, r_of_some]) ?_
  have := lcGo_map (step := turn F G62 [1] (.nm 1) .nil (.call f (.cons (.var 1) .nil)) [some (.tup ds), none]) (f := fun x => .str (wt x)) (ds := ds) (acc := []) (o := o) (fun x hx => turn_y (env' := [some (.tup ds), some x]) (o1 := o) rfl rfl (by simp only [ev_call, ev_es, ev_es0, ev_v1, b_ok]; exact hF x hx)) (by simpa using hl)
  rw [this]
  simp [Function.comp_def]
theorem tup_end {F : Nat → List D → OS → R D} {f : Nat} {ds : List D} (hF : ∀ d ∈ ds, F f [d] o = .ok (.str (wt d)) o) (hw : wOkL ds = true) (hl : (wtL ds).length ≤ 80000) :
    evE F G62 (.bin .add (.bin .add (.con (.str [40])) (.bi .join (.cons (.con (.str [])) (.cons (.lc [1] (.nm 1) (.e (.var 0)) (.nil) (.call f (.cons (.var 1) .nil))) .nil)))) (.con (.str [41]))) [some (.tup ds), none] o = .ok (.str (wt (.tup ds))) o := by
  have e := lc_words hF (by have := wtL_len hw; have : lid = 16777216 := rfl; omega)
  have lidE : lid = 16777216 := rfl
  have j := join_nil (ts := ds.map wt) (by rw [← wtL_flat]; omega)
  rw [← wtL_flat] at j
  have a1 := b_addS (x := [40]) (y := wtL ds) (by simp; omega)
  have a2 := b_addS (x := [40] ++ wtL ds) (y := [41]) (by simp; omega)
  simp only [ev_bin, ev_bi, ev_es, ev_es0, ev_con, b_ok, e, j, r_of_some, a1, a2]
  simp [wt]
theorem int_end {F : Nat → List D → OS → R D} {i : Int} {b : Bi} (hb : biD b [.int i] = some (.str (numT i))) (h : i.natAbs < 1000000) : evE F G62 (.bin .add (.bin .add (.con (.str [105])) (.bi b (.cons (.var 0) .nil))) (.con (.str [59]))) [some (.int i), none] o = .ok (.str (wt (.int i))) o := by
  have lidE : lid = 16777216 := rfl
  have hl := numT_len h
  have a1 := b_addS (x := [105]) (y := numT i) (by simp; omega)
  have a2 := b_addS (x := [105] ++ numT i) (y := [59]) (by simp; omega)
  simp only [ev_bin, ev_bi, ev_es, ev_es0, ev_con, ev_v0, b_ok, hb, r_of_some, a1, a2]
  simp [wt]
theorem str_end {F : Nat → List D → OS → R D} {s : List Nat} {b : Bi} (hb : biD b [.int (s.length : Int)] = some (.str (dig s.length))) (h : s.length < 1000) : evE F G62 (.bin .add (.bin .add (.bin .add (.con (.str [116])) (.bi b (.cons (.bi .len (.cons (.var 0) .nil)) .nil))) (.con (.str [58]))) (.var 0)) [some (.str s), none] o = .ok (.str (wt (.str s))) o := by
  have lidE : lid = 16777216 := rfl
  have hl := dig_len6 (n := s.length) (by omega)
  have a1 := b_addS (x := [116]) (y := dig s.length) (by simp; omega)
  have a2 := b_addS (x := [116] ++ dig s.length) (y := [58]) (by simp; omega)
  have a3 := b_addS (x := [116] ++ dig s.length ++ [58]) (y := s) (by simp; omega)
  simp only [ev_bin, ev_bi, ev_es, ev_es0, ev_con, ev_v0, b_ok, len_str, hb, r_of_some, a1, a2, a3]
  simp [wt]
theorem is_non {F : Nat → List D → OS → R D} {d : D} {r : Env} : evE F G62 (.cmp .is (.var 0) (.con .non)) (some d :: r) o = .ok (.bl (isNonB d)) o := by
  simp only [ev_cmp, ev_v0, ev_con, b_ok]
  rfl
theorem is_t {F : Nat → List D → OS → R D} {d : D} {r : Env} {t : Nat} : evE F G62 (.isi (.var 0) t) (some d :: r) o = .ok (.bl (isiD t d)) o := by
  simp only [ev_isi, ev_v0, b_ok]
theorem c0 : ∀ (k : Nat) (d : D), depth d < k → wOk d = true → (wt d).length ≤ 80000 → ∀ o, C W k 0 [d] o = .ok (.str (wt d)) o := by
  intro k
  induction k with
  | zero => intro d h; omega
  | succ k ih =>
    intro d hd hw hl o
    refine call_rt (fn := f0) rfl rfl ?_
    show evSs (C W k) G62 W f0.body [some d, none] o = _
    unfold f0
    cases d with
    | non => exact s_ifR is_non rfl (s_ret' (by simp only [ev_con]; rfl))
    | bl b =>
      refine (s_ifN is_non rfl).trans (s_ifR is_t rfl (s_ret' ?_))
      simp only [ev_ite, ev_v0, b_ok, t_bl, ev_con]
      cases b <;> rfl
    | int i =>
      simp only [wOk, decide_eq_true_eq] at hw
      exact (s_ifN is_non rfl).trans ((s_ifN is_t rfl).trans (s_ifR is_t rfl (s_ret' (int_end (str_int (by omega)) hw))))
    | str s =>
      simp only [wOk, Bool.and_eq_true, decide_eq_true_eq] at hw
      exact (s_ifN is_non rfl).trans ((s_ifN is_t rfl).trans ((s_ifN is_t rfl).trans (s_ifR is_t rfl (s_ret' (str_end (str_len (by omega)) hw.1)))))
    | tup ds =>
      simp only [wOk] at hw
      simp only [wt, List.length_cons, List.length_append, List.length_nil] at hl
      simp only [depth] at hd
      exact (s_ifN is_non rfl).trans ((s_ifN is_t rfl).trans ((s_ifN is_t rfl).trans ((s_ifN is_t rfl).trans (s_ret' (tup_end (fun x hx => ih x (by have := depthL_mem hx; omega) (wOk_mem hw x hx) (by have := wt_mem_len hx; omega) o) hw (by omega))))))
    | _ => simp [wOk] at hw
theorem or_nb {F : Nat → List D → OS → R D} {d : D} {r : Env} : evE F G62 (.or (.cmp .is (.var 0) (.con .non)) (.isi (.var 0) 1)) (some d :: r) o = .ok (.bl (isNonB d || isiD 1 d)) o := by
  rw [ev_or, is_non, b_ok, t_bl, is_t]
  cases isNonB d <;> rfl
theorem c21 : ∀ (k : Nat) (d : D), depth d < k → wOk d = true → (wt d).length ≤ 80000 → ∀ o, C W k 21 [d] o = .ok (.str (wt d)) o := by
  intro k
  induction k with
  | zero => intro d h; omega
  | succ k ih =>
    intro d hd hw hl o
    refine call_rt (fn := f21) rfl rfl ?_
    show evSs (C W k) G62 W f21.body [some d, none] o = _
    unfold f21
    cases d with
    | non =>
      refine s_ifR or_nb rfl (s_ret' ?_)
      rw [ev_ite, is_non, b_ok]
      rfl
    | bl b =>
      refine s_ifR or_nb rfl (s_ret' ?_)
      rw [ev_ite, is_non, b_ok]
      simp only [t_bl, isNonB, Bool.false_eq_true, if_false, ev_ix, ev_con, b_ok, ev_bi, ev_es, ev_es0, ev_v0]
      cases b <;> rfl
    | int i =>
      simp only [wOk, decide_eq_true_eq] at hw
      exact (s_ifN or_nb rfl).trans (s_ifR is_t rfl (s_ret' (int_end (repr_int (by omega) (by have := numT_len hw; omega)) hw)))
    | str s =>
      simp only [wOk, Bool.and_eq_true, decide_eq_true_eq] at hw
      exact (s_ifN or_nb rfl).trans ((s_ifN is_t rfl).trans (s_ifR is_t rfl (s_ret' (str_end (repr_nat (by omega)) hw.1))))
    | tup ds =>
      simp only [wOk] at hw
      simp only [wt, List.length_cons, List.length_append, List.length_nil] at hl
      simp only [depth] at hd
      exact (s_ifN or_nb rfl).trans ((s_ifN is_t rfl).trans ((s_ifN is_t rfl).trans (s_ret' (tup_end (fun x hx => ih x (by have := depthL_mem hx; omega) (wOk_mem hw x hx) (by have := wt_mem_len hx; omega) o) hw (by omega)))))
    | _ => simp [wOk] at hw
end O.K62
end

section
set_option Elab.async false
set_option linter.all false
set_option maxRecDepth 100000
set_option maxHeartbeats 4000000
/-! OMd: digits read, texts read, seals read. -/
namespace O.K62
open PySem O
variable {W k : Nat} {o : OS}
theorem cut_nat {α : Type} (t : List α) (a b : Nat) : cut t (some (a : Int)) (some (b : Int)) = (t.drop a).take (b - a) := by
  have c : ∀ i : Nat, clip t.length (i : Int) = min t.length i := fun i => by
    unfold clip
    rw [if_pos (by omega)]
    congr 1
  show (t.drop (clip t.length (a : Int))).take (clip t.length (b : Int) - clip t.length (a : Int)) = _
  rw [c, c]
  by_cases h : a ≤ t.length
  · rw [Nat.min_eq_right h]
    by_cases h2 : b ≤ t.length
    · rw [Nat.min_eq_right h2]
    · rw [Nat.min_eq_left (by omega), List.take_of_length_le (by simp), List.take_of_length_le (by simp; omega)]
  · rw [Nat.min_eq_left (show t.length ≤ a by omega), List.drop_of_length_le (by omega), List.drop_of_length_le (by omega)]
    simp
theorem cut_from {α : Type} (t : List α) (a : Nat) : cut t (some (a : Int)) none = t.drop a := by
  show (t.drop (clip t.length (a : Int))).take (t.length - clip t.length (a : Int)) = _
  have c : clip t.length (a : Int) = min t.length a := by
    unfold clip
    rw [if_pos (by omega)]
    congr 1
  rw [c]
  by_cases h : a ≤ t.length
  · rw [Nat.min_eq_right h, List.take_of_length_le (by simp)]
  · rw [Nat.min_eq_left (by omega), List.drop_of_length_le (by omega), List.drop_of_length_le (by omega)]
    simp
theorem cut_to {α : Type} (t : List α) (b : Nat) : cut t none (some (b : Int)) = t.take b := by
  show (t.drop 0).take (clip t.length (b : Int) - 0) = _
  have c : clip t.length (b : Int) = min t.length b := by
    unfold clip
    rw [if_pos (by omega)]
    congr 1
  rw [c]
  by_cases h : b ≤ t.length
  · rw [Nat.min_eq_right h]; simp
  · rw [Nat.min_eq_left (by omega), List.take_of_length_le (by simp), List.take_of_length_le (by omega)]; simp
theorem eq_str {x y : List Nat} : cmpD .eq (.str x) (.str y) = some (x == y) := by
  show (if cmpOk (.str x) (.str y) then some (eqD (.str x) (.str y)) else none) = _
  rw [if_pos (by simp [cmpOk, pure, depth])]
  simp [eqD]
theorem ne_str {x y : List Nat} : cmpD .ne (.str x) (.str y) = some (!(x == y)) := by
  show (if cmpOk (.str x) (.str y) then some (!eqD (.str x) (.str y)) else none) = _
  rw [if_pos (by simp [cmpOk, pure, depth])]
  simp [eqD]
theorem ord_int {op : Cop} {i j : Int} (h : op = .lt ∨ op = .le ∨ op = .gt ∨ op = .ge) : cmpD op (.int i) (.int j) = some (ordI op i j) := by
  rcases h with rfl | rfl | rfl | rfl <;>
    (show (if pure (.int i) && pure (.int j) && (decide (depth (.int i) ≤ 60) && decide (depth (.int j) ≤ 60)) then some _ else none) = _; rw [if_pos (by simp [pure, depth])])
theorem lt_int {i j : Int} : cmpD .lt (.int i) (.int j) = some (decide (i < j)) := ord_int (.inl rfl)
theorem gt_int {i j : Int} : cmpD .gt (.int i) (.int j) = some (decide (j < i)) := ord_int (.inr (.inr (.inl rfl)))
theorem le_one {a b : Nat} : cmpD .le (.str [a]) (.str [b]) = some (decide (a ≤ b)) := by
  show (if pure (.str [a]) && pure (.str [b]) && (decide (depth (.str [a]) ≤ 60) && decide (depth (.str [b]) ≤ 60)) then some _ else none) = _
  rw [if_pos (by simp [pure, depth])]
  show some (!decide ([b] < [a])) = _
  congr 1
  by_cases h : a ≤ b
  · simp [h, List.cons_lt_cons_iff]
  · simp [h, List.cons_lt_cons_iff]; omega
theorem in_dig {c : Nat} : cmpD .inn (.str [c]) (.str [48, 49, 50, 51, 52, 53, 54, 55, 56, 57]) = some (isDig c) := by
  show some (decide (c ∈ [48, 49, 50, 51, 52, 53, 54, 55, 56, 57])) = _
  congr 1
  unfold isDig
  rw [← Bool.decide_and]
  congr 1
  simp only [List.mem_cons, List.not_mem_nil, or_false, eq_iff_iff]
  omega
theorem notin_dig {c : Nat} : cmpD .notin (.str [c]) (.str [48, 49, 50, 51, 52, 53, 54, 55, 56, 57]) = some (!isDig c) := by
  have := in_dig (c := c)
  have e : cmpD .notin (.str [c]) (.str [48, 49, 50, 51, 52, 53, 54, 55, 56, 57]) = (inD (.str [c]) (.str [48, 49, 50, 51, 52, 53, 54, 55, 56, 57])).map (!·) := rfl
  rw [e, show inD (.str [c]) (.str [48, 49, 50, 51, 52, 53, 54, 55, 56, 57]) = some (isDig c) from this]
  rfl
theorem ix_str {t : List Nat} {p c : Nat} (h : t[p]? = some c) : ixD (.str t) (.int (p : Int)) = some (.str [c]) := by
  show (at? t (p : Int)).map _ = _
  unfold at?
  rw [if_pos (by omega)]
  simp [h]
theorem bnd_nat {p : Nat} (h : p < 100000000) : bnd (.int (p : Int)) = some (p : Int) := bnd_int (by omega)
theorem add_nat {p q : Nat} : (p : Int) + (q : Int) = ((p + q : Nat) : Int) := by omega
/-- text[p : p + 1] -/
theorem sl_one {F : Nat → List D → OS → R D} {t : List Nat} {p : Nat} {env : Env} {a lo : E} (ha : ∀ o, evE F G62 a env o = .ok (.str t) o) (hp : ∀ o, evE F G62 lo env o = .ok (.int (p : Int)) o) (h : p < 90000000) (n : Nat) (hn : n < 1000) : evE F G62 (.sl a lo (.bin .add lo (.con (.int n)))) env o = .ok (.str ((t.drop p).take n)) o := by
  have b1 := bnd_nat (p := p) (by omega)
  have b2 := bnd_nat (p := p + n) (by omega)
  simp only [ev_sl, ev_bin, ev_con, ha, hp, b_ok, b_addI, r_of_some, add_nat, b1, b2, cutD, cut_nat]
  rw [show p + n - p = n by omega]
abbrev digG : E := .or (.cmp .eq (.sl (.var 0) (.var 1) (.bin .add (.var 1) (.con (.int 1)))) (.con (.str []))) (.cmp .notin (.ix (.var 0) (.var 1)) (.glo 0))
theorem glo0 {F : Nat → List D → OS → R D} {env : Env} : evE F G62 (.glo 0) env o = .ok (.str [48, 49, 50, 51, 52, 53, 54, 55, 56, 57]) o := id rfl
theorem dg_end {F : Nat → List D → OS → R D} {t : List Nat} {p : Nat} {x : Option D} (hp : p < 90000000) (h : t.drop p = []) : evE F G62 digG [some (.str t), some (.int (p : Int)), x] o = .ok (.bl true) o := by
  have s := sl_one (F := F) (o := o) (t := t) (p := p) (env := [some (.str t), some (.int (p : Int)), x]) (a := .var 0) (lo := .var 1) (fun o => ev_v0) (fun o => ev_v1) hp 1 (by decide)
  rw [ev_or, ev_cmp, show (E.con (.int ((1 : Nat) : Int))) = E.con (.int 1) from rfl] at *
  rw [s]
  simp only [b_ok, ev_con, eq_str, h, Option.map_some, r_of_some, t_bl]
  rfl
theorem dg_some {F : Nat → List D → OS → R D} {t r : List Nat} {p c : Nat} {x : Option D} (hp : p < 90000000) (h : t.drop p = c :: r) : evE F G62 digG [some (.str t), some (.int (p : Int)), x] o = .ok (.bl (!isDig c)) o := by
  have s := sl_one (F := F) (o := o) (t := t) (p := p) (env := [some (.str t), some (.int (p : Int)), x]) (a := .var 0) (lo := .var 1) (fun o => ev_v0) (fun o => ev_v1) hp 1 (by decide)
  have hc : t[p]? = some c := by
    have := congrArg List.head? h
    rw [List.head?_drop] at this
    exact this
  have i := ix_str hc
  rw [ev_or, ev_cmp, show (E.con (.int ((1 : Nat) : Int))) = E.con (.int 1) from rfl] at *
  rw [s]
  simp only [b_ok, ev_con, eq_str, h, Option.map_some, r_of_some, t_bl, List.take_succ_cons, List.take_zero]
  rw [if_neg (by simp)]
  simp only [ev_cmp, ev_ix, ev_v0, ev_v1, b_ok, i, r_of_some, glo0, notin_dig, Option.map_some]
end O.K62
end

section
set_option Elab.async false
set_option linter.all false
set_option maxRecDepth 100000
set_option maxHeartbeats 4000000
/-! OMe: digits_from, text_from. -/
namespace O.K62
open PySem O
variable {W k : Nat} {o : OS}
/-- no digit stands here -/
def noDig : List Nat → Bool
  | [] => true
  | c :: _ => !isDig c
theorem drop_at {t u r : List Nat} {p i : Nat} (h : t.drop p = u ++ r) (hi : i < u.length) : t[p + i]? = some u[i] := by
  have := congrArg (fun l => l[i]?) h
  simp only [List.getElem?_drop] at this
  rw [this, List.getElem?_append_left hi, List.getElem?_eq_getElem hi]
theorem drop_more {t u r : List Nat} {p : Nat} (h : t.drop p = u ++ r) : t.drop (p + u.length) = r := by
  rw [← List.drop_drop, h]
  simp
abbrev digT : E := .and (.cmp .ne (.ix (.var 0) (.var 1)) (.con (.str [48]))) (.and (.cmp .lt (.var 2) (.bi .len (.cons (.var 0) .nil))) (.cmp .inn (.ix (.var 0) (.var 2)) (.glo 0)))
theorem dT_zero {F : Nat → List D → OS → R D} {t : List Nat} {p q : Nat} (h : t[p]? = some 48) : evE F G62 digT [some (.str t), some (.int (p : Int)), some (.int (q : Int))] o = .ok (.bl false) o := by
  have i := ix_str h
  simp only [ev_and, ev_cmp, ev_ix, ev_v0, ev_v1, ev_con, b_ok, i, r_of_some, ne_str, Option.map_some, t_bl]
  rfl
theorem dT_len {F : Nat → List D → OS → R D} {t : List Nat} {p q c : Nat} (h : t[p]? = some c) (hc : c ≠ 48) : evE F G62 digT [some (.str t), some (.int (p : Int)), some (.int (q : Int))] o = (evE F G62 (.and (.cmp .lt (.var 2) (.bi .len (.cons (.var 0) .nil))) (.cmp .inn (.ix (.var 0) (.var 2)) (.glo 0))) [some (.str t), some (.int (p : Int)), some (.int (q : Int))] o) := by
  have i := ix_str h
  rw [ev_and]
  simp only [ev_cmp, ev_ix, ev_v0, ev_v1, ev_con, b_ok, i, r_of_some, ne_str, Option.map_some, t_bl]
  rw [if_pos (by simp [hc])]
theorem dT_end {F : Nat → List D → OS → R D} {t : List Nat} {p q : Nat} (h : t[q]? = none) : (evE F G62 (.and (.cmp .lt (.var 2) (.bi .len (.cons (.var 0) .nil))) (.cmp .inn (.ix (.var 0) (.var 2)) (.glo 0))) [some (.str t), some (.int (p : Int)), some (.int (q : Int))] o) = .ok (.bl false) o := by
  have hq := List.getElem?_eq_none_iff.mp h
  simp only [ev_and, ev_cmp, ev_v2, ev_bi, ev_es, ev_es0, ev_v0, b_ok, len_str, r_of_some, lt_int, Option.map_some, t_bl]
  rw [if_neg (by simp; omega)]
  have : decide ((q : Int) < (t.length : Int)) = false := decide_eq_false (by omega)
  rw [this]
theorem dT_c {F : Nat → List D → OS → R D} {t : List Nat} {p q c : Nat} (h : t[q]? = some c) : (evE F G62 (.and (.cmp .lt (.var 2) (.bi .len (.cons (.var 0) .nil))) (.cmp .inn (.ix (.var 0) (.var 2)) (.glo 0))) [some (.str t), some (.int (p : Int)), some (.int (q : Int))] o) = .ok (.bl (isDig c)) o := by
  have hq := (List.getElem?_eq_some_iff.mp h).1
  have i := ix_str h
  simp only [ev_and, ev_cmp, ev_v2, ev_bi, ev_es, ev_es0, ev_v0, b_ok, len_str, r_of_some, lt_int, Option.map_some, t_bl]
  rw [if_pos (by simp; omega)]
  simp only [ev_ix, ev_v0, ev_v2, b_ok, i, r_of_some, glo0, in_dig, Option.map_some]
abbrev digB : Sts := .cons (.aug 2 .add (.con (.int 1))) .nil
theorem dB {F : Nat → List D → OS → R D} {t : List Nat} {p q : Nat} : evSs F G62 W digB [some (.str t), some (.int (p : Int)), some (.int (q : Int))] o = .ok (.nx [some (.str t), some (.int (p : Int)), some (.int ((q + 1 : Nat) : Int))]) o := by
  exact congrArg (fun x => R.ok (Fl.nx [some (.str t), some (.int (p : Int)), some (.int x)]) o) (by omega : (q : Int) + 1 = ((q + 1 : Nat) : Int))
/-- the rest of the digits is passed -/
theorem dg_loop {F : Nat → List D → OS → R D} {t u r : List Nat} {p c : Nat} (h : t.drop p = u ++ r) (hu : ∀ c ∈ u, isDig c = true) (hr : noDig r = true) (h0 : t[p]? = some c) (hc : c ≠ 48) : ∀ (m n j : Nat), j + m = u.length → m < n → whGo (fun env o => (evE F G62 digT env o).bind fun x o1 => .ok (truthy x) o1) (fun env o => evSs F G62 W digB env o) n [some (.str t), some (.int (p : Int)), some (.int ((p + j : Nat) : Int))] o = .ok (.nx [some (.str t), some (.int (p : Int)), some (.int ((p + u.length : Nat) : Int))]) o
  | 0, n + 1, j, e, hn => by
    obtain rfl : j = u.length := by omega
    refine wh_stop ?_
    rw [dT_len h0 hc]
    cases r with
    | nil =>
      rw [dT_end (by rw [List.append_nil] at h; have := congrArg List.length h; simp only [List.length_drop] at this; exact List.getElem?_eq_none (by omega))]
      rfl
    | cons d r =>
      have : t[p + u.length]? = some d := by
        have := drop_more h
        have := congrArg List.head? this
        rw [List.head?_drop] at this
        exact this
      rw [dT_c this]
      simp only [noDig] at hr
      simp only [b_ok, t_bl]
      simpa using hr
  | m + 1, n + 1, j, e, hn => by
    have hj : j < u.length := by omega
    refine (wh_step (env := [some (.str t), some (.int (p : Int)), some (.int ((p + j : Nat) : Int))]) (o1 := o) (o2 := o) (env1 := [some (.str t), some (.int (p : Int)), some (.int ((p + (j + 1) : Nat) : Int))]) ?_ (.inl dB)).trans (dg_loop h hu hr h0 hc m n (j + 1) (by omega) (by omega))
    rw [dT_len h0 hc, dT_c (drop_at h hj), b_ok, t_bl, hu _ (List.getElem_mem _)]
theorem c1 (hW : 10000000 ≤ W) {t u r : List Nat} {p c : Nat} (h : t.drop p = u ++ r) (hp : t.length < 9000000) (hu : ∀ c ∈ u, isDig c = true) (hr : noDig r = true) (h0 : u.head? = some c) (hc : c ≠ 48 ∨ u.length = 1) : C W (k + 1) 1 [.str t, .int (p : Int)] o = .ok (.int ((p + u.length : Nat) : Int)) o := by
  refine call_rt (fn := f1) rfl rfl ?_
  show evSs (C W k) G62 W f1.body [some (.str t), some (.int (p : Int)), none] o = _
  unfold f1
  have lu : 0 < u.length := by cases u <;> simp_all
  have e0 : t.drop p = c :: (u.tail ++ r) := by
    rw [h]
    cases u with
    | nil => cases h0
    | cons a u => simp at h0; subst h0; rfl
  have hpl : p < t.length := by
    have := congrArg List.length e0
    simp at this; omega
  have h0' : t[p]? = some c := by
    have := congrArg List.head? e0
    rw [List.head?_drop] at this
    exact this
  have hd : isDig c = true := hu c (List.mem_of_mem_head? (by simpa using h0))
  refine (s_ifN (dg_some (by omega) e0) (by rw [t_bl, hd]; rfl)).trans ?_
  refine (s_asg' (d := .int ((p + 1 : Nat) : Int)) (o1 := o) (by simp only [ev_bin, ev_v1, ev_con, b_ok, b_addI, r_of_some]; rfl)).trans ?_
  have lp : whGo (fun env o => (evE (C W k) G62 digT env o).bind fun x o1 => .ok (truthy x) o1) (fun env o => evSs (C W k) G62 W digB env o) W [some (.str t), some (.int (p : Int)), some (.int ((p + 1 : Nat) : Int))] o = .ok (.nx [some (.str t), some (.int (p : Int)), some (.int ((p + u.length : Nat) : Int))]) o := by
    have lt : u.length < 10000000 := by
      have := congrArg List.length h
      simp only [List.length_drop, List.length_append] at this
      omega
    by_cases z : c = 48
    · have l1 := hc.resolve_left (fun n => n z)
      subst z
      obtain ⟨n, rfl⟩ : ∃ n, W = n + 1 := ⟨W - 1, by omega⟩
      rw [l1]
      exact wh_stop (by rw [dT_zero h0']; rfl)
    · exact dg_loop h hu hr h0' z (u.length - 1) W 1 (by omega) (by omega)
  exact (s_whlN lp).trans (s_ret' ev_v2)
theorem c1_ex {t : List Nat} {p : Nat} (hp : p < 90000000) (h : t.drop p = []) : C W (k + 1) 1 [.str t, .int (p : Int)] o = .ex 1 o := by
  refine call_ex (fn := f1) rfl rfl ?_
  show evSs (C W k) G62 W f1.body [some (.str t), some (.int (p : Int)), none] o = _
  unfold f1
  exact s_ifX (dg_end hp h) rfl (s_rai' ev_v1)
end O.K62
end

section
set_option Elab.async false
set_option linter.all false
set_option maxRecDepth 100000
set_option maxHeartbeats 4000000
/-! OMf: text_from, unsealed_from. -/
namespace O.K62
open PySem O
variable {W k : Nat} {o : OS}
theorem s_asgX {F : Nat → List D → OS → R D} {G : Nat → D} {env : Env} {o1 : OS} {ss : Sts} {t : Tg} {e : E} {c : Nat} (h : evE F G e env o = .ex c o1) : evSs F G W (.cons (.asg t e) ss) env o = .ex c o1 := by
  rw [ev_s]
  show ((evE F G e env o).bind fun d o1 => (R.of (asgT t d env) o1).bind fun env1 o2 => .ok (Fl.nx env1) o2).bind _ = _
  rw [h]; rfl
def prn (c : Nat) : Bool := decide (32 ≤ c) && decide (c ≤ 126)
theorem call2 {F : Nat → List D → OS → R D} {f : Nat} {a b : D} {env : Env} {ea eb : E} (h1 : evE F G62 ea env o = .ok a o) (h2 : evE F G62 eb env o = .ok b o) : evE F G62 (.call f (.cons ea (.cons eb .nil))) env o = F f [a, b] o := by
  simp only [ev_call, ev_es, ev_es0, h1, h2, b_ok]
theorem int_dig {n : Nat} (h : n < 100000) : biD .int [.str (dig n)] = some (.int (n : Int)) := by
  show (intT (dig n)).map _ = _
  rw [intT_dig (by have := dig_len6 h; omega)]
  rfl
theorem chn_one {F : Nat → List D → OS → R D} {t : List Nat} {i c : Nat} {env : Env} (h0 : ∀ o, evE F G62 (.var 0) env o = .ok (.str t) o) (h3 : ∀ o, evE F G62 (.var 3) env o = .ok (.int (i : Int)) o) (h : t[i]? = some c) : evE F G62 (.not (.chn .le .le (.con (.str [32])) (.ix (.var 0) (.var 3)) (.con (.str [126])))) env o = .ok (.bl (!prn c)) o := by
  have x := ix_str h
  simp only [ev_not, ev_chn, ev_con, ev_ix, h0, h3, b_ok, x, r_of_some, le_one]
  by_cases hc : 32 ≤ c
  · simp only [hc, decide_true, if_true, b_ok, ev_con, le_one, Option.map_some, r_of_some, t_bl, prn, Bool.true_and]
  · simp only [hc, decide_false, if_false, Bool.false_eq_true, b_ok, t_bl, prn, Bool.false_and]
abbrev prB : Sts := .cons (.iff (.not (.chn .le .le (.con (.str [32])) (.ix (.var 0) (.var 3)) (.con (.str [126])))) (.cons (.rai 1 (.var 3)) .nil) .nil) .nil
theorem range_nil {a : Int} : range a 0 = [] := rfl
theorem range_succ' {a : Int} {n : Nat} : range a (n + 1) = .int a :: range (a + 1) n := by
  unfold range
  rw [List.range_succ_eq_map, List.map_cons, List.map_map]
  congr 1
  · simp
  · refine List.map_congr_left fun x _ => ?_
    simp only [Function.comp_apply, Nat.succ_eq_add_one]
    congr 1
    omega
theorem pr_loop {F : Nat → List D → OS → R D} {t : List Nat} {a b e f : Option D} : ∀ (n i : Nat) (x : Option D), (∀ j, j < n → ∃ c, t[i + j]? = some c ∧ prn c = true) → ∃ x', frGo (fun d env o => (R.of (asgT (.nm 3) d env) o).bind fun env1 o1 => evSs F G62 W prB env1 o1) (range (i : Int) n) [some (.str t), a, b, x, e, f] o = .ok (.nx [some (.str t), a, b, x', e, f]) o
  | 0, i, x, _ => ⟨x, rfl⟩
  | n + 1, i, x, h => by
    obtain ⟨c, h1, h2⟩ := h 0 (Nat.succ_pos _)
    obtain ⟨x', e'⟩ := pr_loop n (i + 1) (some (.int (i : Int))) fun j hj => by
      have := h (j + 1) (by omega)
      rwa [show i + (j + 1) = i + 1 + j by omega] at this
    refine ⟨x', ?_⟩
    rw [range_succ', show (i : Int) + 1 = ((i + 1 : Nat) : Int) by omega]
    refine (frGo_cons ((for_body (env1 := [some (.str t), a, b, some (.int (i : Int)), e, f]) rfl).trans ?_)).trans e'
    exact (s_ifN (chn_one (fun o => ev_v0) (fun o => ev_v3) h1) (by rw [t_bl, h2]; rfl)).trans rfl
theorem min_int {i j : Int} : biD .min2 [.int i, .int j] = some (.int (min i j)) := id rfl
/-- up to the text itself -/
theorem c3_head (hW : 10000000 ≤ W) {t x : List Nat} {p m : Nat} (h : t.drop p = dig m ++ 58 :: x) (hp : t.length < 9000000) (hm : m < 100000) (hx : ∀ c ∈ x.take m, prn c = true) : ∃ x', evSs (C W (k + 1)) G62 W f3.body [some (.str t), some (.int (p : Int)), none, none, none, none] o
      = evSs (C W (k + 1)) G62 W (.cons (.iff (.cmp .gt (.bin .add (.var 4) (.var 5)) (.bi .len (.cons (.var 0) .nil))) (.cons (.rai 1 (.bi .len (.cons (.var 0) .nil))) .nil) (.nil)) (.cons (.ret (.tup (.cons (.sl (.var 0) (.var 4) (.bin .add (.var 4) (.var 5))) (.cons (.bin .add (.var 4) (.var 5)) .nil)))) .nil)) [some (.str t), some (.int (p : Int)), some (.int ((p + (dig m).length : Nat) : Int)), x', some (.int ((p + (dig m).length + 1 : Nat) : Int)), some (.int (m : Int))] o := by
  unfold f3
  have lt : p + (dig m).length + 1 + x.length = t.length := by
    have := congrArg List.length h
    simp only [List.length_drop, List.length_append, List.length_cons] at this
    omega
  have l6 := dig_len6 hm
  generalize hq : p + (dig m).length = q at lt ⊢
  have dq : t.drop q = 58 :: x := by rw [← hq]; exact drop_more h
  have dq1 : t.drop (q + 1) = x := by rw [← List.drop_drop, dq]; rfl
  have e1 : C W (k + 1) 1 [.str t, .int (p : Int)] o = .ok (.int (q : Int)) o := by
    rw [← hq]
    rcases Nat.eq_zero_or_pos m with z | z
    · subst z
      rw [dig_zero] at h ⊢
      exact c1 hW h hp (by simp [isDig]) rfl rfl (.inr rfl)
    · obtain ⟨c, r, e, g1, g2⟩ := dig_head m z
      exact c1 hW h hp (fun c hc => List.all_eq_true.mp (dig_isDig m) c hc) rfl (c := c) (by rw [e]; rfl) (.inl (by omega))
  have hint := int_dig hm
  have cutd : (t.drop p).take (q - p) = dig m := by
    rw [h, show q - p = (dig m).length by omega]; simp
  have b1 := bnd_nat (p := p) (by omega)
  have b2 := bnd_nat (p := q) (by omega)
  refine Exists.elim (pr_loop (W := W) (F := C W (k + 1)) (o := o) (t := t) (a := some (.int (p : Int))) (b := some (.int (q : Int))) (e := some (.int ((q + 1 : Nat) : Int))) (f := some (.int (m : Int))) (min m x.length) (q + 1) none fun j hj => ?_) fun x' lp => ⟨x', ?_⟩
  · have hj2 : j < x.length := by omega
    refine ⟨x[j], ?_, hx _ ?_⟩
    · have := congrArg (fun l => l[j]?) dq1
      simp only [List.getElem?_drop] at this
      rw [this, List.getElem?_eq_getElem hj2]
    · have : (x.take m)[j]? = some x[j] := by rw [List.getElem?_take_of_lt (by omega), List.getElem?_eq_getElem hj2]
      exact List.mem_of_getElem? this
  refine (s_asg' (d := .int (q : Int)) (o1 := o) ((call2 ev_v0 ev_v1).trans e1)).trans ?_
  refine (s_ifN (d := .bl false) (o1 := o) ?_ rfl).trans ?_
  · have s := sl_one (F := C W (k + 1)) (o := o) (t := t) (p := q) (env := [some (.str t), some (.int (p : Int)), some (.int (q : Int)), none, none, none]) (a := .var 0) (lo := .var 2) (fun o => ev_v0) (fun o => ev_v2) (by omega) 1 (by decide)
    have s : evE (C W (k + 1)) G62 (.sl (.var 0) (.var 2) (.bin .add (.var 2) (.con (.int 1)))) ([some (.str t), some (.int (p : Int)), some (.int (q : Int)), none, none, none]) o = _ := s
    rw [ev_cmp]
    refine (congrArg (fun r : R D => r.bind _) s).trans ?_
    simp only [b_ok, ev_con, dq, ne_str, Option.map_some, r_of_some, List.take_succ_cons, List.take_zero]
    rfl
  refine (s_par' (ds := [.int ((q + 1 : Nat) : Int), .int (m : Int)]) (o1 := o) (env1 := [some (.str t), some (.int (p : Int)), some (.int (q : Int)), none, some (.int ((q + 1 : Nat) : Int)), some (.int (m : Int))]) ?_ rfl).trans ?_
  · show evEs (C W (k + 1)) G62 _ [some (.str t), some (.int (p : Int)), some (.int (q : Int)), none, none, none] o = _
    simp only [ev_es, ev_es0, ev_bin, ev_v2, ev_con, b_ok, b_addI, r_of_some, ev_bi, ev_sl, ev_v0, ev_v1, b1, b2, cutD, cut_nat, cutd, hint]
    rfl
  refine (s_for' (ds := range ((q + 1 : Nat) : Int) (min m x.length)) (o1 := o) ?_ lp).trans rfl
  show evI (C W (k + 1)) G62 _ [some (.str t), some (.int (p : Int)), some (.int (q : Int)), none, some (.int ((q + 1 : Nat) : Int)), some (.int (m : Int))] o = _
  have mn : min (((q + 1 : Nat) : Int) + (m : Int)) (t.length : Int) = ((q + 1 + min m x.length : Nat) : Int) := by omega
  have sub : (((q + 1 + min m x.length : Nat) : Int) - ((q + 1 : Nat) : Int)).toNat = min m x.length := by omega
  have r1 : (rngOk ((q + 1 : Nat) : Int) && rngOk ((q + 1 + min m x.length : Nat) : Int)) = true := by
    simp only [rngOk, Bool.and_eq_true, decide_eq_true_eq]
    omega
  simp only [ev_ir2, ev_v4, ev_bi, ev_es, ev_es0, ev_bin, ev_v5, ev_v0, b_ok, b_addI, r_of_some, len_str, min_int, isInt, mn, sub, r1, if_true]
end O.K62
end

section
set_option Elab.async false
set_option linter.all false
set_option maxRecDepth 100000
set_option maxHeartbeats 4000000
/-! OMg: text_from's ends, unsealed_from. -/
namespace O.K62
open PySem O
variable {W k : Nat} {o : OS}
theorem c3_ok (hW : 10000000 ≤ W) {t s r : List Nat} {p : Nat} (h : t.drop p = dig s.length ++ 58 :: (s ++ r)) (hp : t.length < 9000000) (hm : s.length < 100000) (hx : ∀ c ∈ s, prn c = true) : C W (k + 2) 3 [.str t, .int (p : Int)] o = .ok (.tup [.str s, .int ((p + (dig s.length).length + 1 + s.length : Nat) : Int)]) o := by
  refine call_rt (fn := f3) rfl rfl ?_
  obtain ⟨x', e⟩ := c3_head (k := k) (o := o) hW h hp hm (by simpa using hx)
  refine Eq.trans e ?_
  have lt : p + (dig s.length).length + 1 + (s ++ r).length = t.length := by
    have := congrArg List.length h
    simp only [List.length_drop, List.length_append, List.length_cons] at this ⊢
    omega
  rw [List.length_append] at lt
  have l6 := dig_len6 hm
  generalize hq : p + (dig s.length).length = q at lt ⊢
  have dq1 : t.drop (q + 1) = s ++ r := by rw [← List.drop_drop, ← hq, drop_more h]; rfl
  have b1 := bnd_nat (p := q + 1) (by omega)
  have b2 := bnd_nat (p := q + 1 + s.length) (by omega)
  refine (s_ifN (d := .bl false) (o1 := o) ?_ rfl).trans (s_ret' ?_)
  · simp only [ev_cmp, ev_bin, ev_v4, ev_v5, ev_bi, ev_es, ev_es0, ev_v0, b_ok, b_addI, r_of_some, len_str, gt_int, Option.map_some, add_nat]
    rw [decide_eq_false (by omega)]
  · simp only [ev_tup, ev_es, ev_es0, ev_sl, ev_v0, ev_v4, ev_v5, ev_bin, b_ok, b_addI, r_of_some, add_nat, b1, b2, cutD, cut_nat, dq1]
    rw [show q + 1 + s.length - (q + 1) = s.length by omega]
    simp
theorem c3_short (hW : 10000000 ≤ W) {t x : List Nat} {p m : Nat} (h : t.drop p = dig m ++ 58 :: x) (hp : t.length < 9000000) (hm : m < 100000) (hx : ∀ c ∈ x, prn c = true) (hl : x.length < m) : C W (k + 2) 3 [.str t, .int (p : Int)] o = .ex 1 o := by
  refine call_ex (fn := f3) rfl rfl ?_
  obtain ⟨x', e⟩ := c3_head (k := k) (o := o) hW h hp hm (fun c hc => hx c (List.mem_of_mem_take hc))
  refine Eq.trans e ?_
  have lt : p + (dig m).length + 1 + x.length = t.length := by
    have := congrArg List.length h
    simp only [List.length_drop, List.length_append, List.length_cons] at this
    omega
  refine s_ifX (d := .bl true) (o1 := o) ?_ rfl (s_rai' (i := t.length) ?_)
  · simp only [ev_cmp, ev_bin, ev_v4, ev_v5, ev_bi, ev_es, ev_es0, ev_v0, b_ok, b_addI, r_of_some, len_str, gt_int, Option.map_some, add_nat]
    rw [decide_eq_true (by omega)]
  · simp only [ev_bi, ev_es, ev_es0, ev_v0, b_ok, len_str, r_of_some]
theorem c3_none {t : List Nat} {p : Nat} (hp : p < 90000000) (h : t.drop p = []) : C W (k + 2) 3 [.str t, .int (p : Int)] o = .ex 1 o := by
  refine call_ex (fn := f3) rfl rfl ?_
  show evSs (C W (k + 1)) G62 W f3.body [some (.str t), some (.int (p : Int)), none, none, none, none] o = _
  unfold f3
  exact s_asgX ((call2 ev_v0 ev_v1).trans (c1_ex hp h))
theorem c3_digs (hW : 10000000 ≤ W) {t u : List Nat} {p c : Nat} (h : t.drop p = u) (hp : t.length < 9000000) (hu : ∀ c ∈ u, isDig c = true) (h0 : u.head? = some c) (hc : c ≠ 48) : C W (k + 2) 3 [.str t, .int (p : Int)] o = .ex 1 o := by
  refine call_ex (fn := f3) rfl rfl ?_
  show evSs (C W (k + 1)) G62 W f3.body [some (.str t), some (.int (p : Int)), none, none, none, none] o = _
  unfold f3
  have hh : t.drop p = u ++ [] := by simp [h]
  have e1 := c1 (W := W) (k := k) (o := o) hW hh hp hu rfl h0 (.inl hc)
  have dq := drop_more hh
  have lt : p + u.length ≤ t.length := by
    have := congrArg List.length h
    have : 0 < u.length := by cases u <;> simp_all
    simp only [List.length_drop] at *
    omega
  generalize p + u.length = q at e1 dq lt
  refine (s_asg' (d := .int (q : Int)) (o1 := o) ((call2 ev_v0 ev_v1).trans e1)).trans ?_
  refine s_ifX (d := .bl true) (o1 := o) ?_ rfl (s_rai' (i := q) ev_v2)
  have s := sl_one (F := C W (k + 1)) (o := o) (t := t) (p := q) (env := [some (.str t), some (.int (p : Int)), some (.int (q : Int)), none, none, none]) (a := .var 0) (lo := .var 2) (fun o => ev_v0) (fun o => ev_v2) (by omega) 1 (by decide)
  have s : evE (C W (k + 1)) G62 (.sl (.var 0) (.var 2) (.bin .add (.var 2) (.con (.int 1)))) ([some (.str t), some (.int (p : Int)), some (.int (q : Int)), none, none, none]) o = _ := s
  rw [ev_cmp]
  refine (congrArg (fun r : R D => r.bind _) s).trans ?_
  simp only [b_ok, ev_con, dq, ne_str, Option.map_some, r_of_some, List.take_nil]
  rfl
/-- a proper beginning of a sealed text -/
structure Torn (x : List Nat) : Prop where
  ex : ∃ s j, s ≠ [] ∧ s.length < 90000 ∧ (∀ c ∈ s, prn c = true) ∧ j < (sealT s).length ∧ x = (sealT s).take j
theorem tryX {F : Nat → List D → OS → R D} {G : Nat → D} {env : Env} {o1 : OS} {ss h : Sts} {t : Tg} {e : E} {c : Nat} (he : evE F G e env o = .ex c o1) : evSs F G W (.cons (.tryR t e c h) ss) env o = (evSs F G W h env o1).bind fun f o1 => match f with
    | .nx env1 => evSs F G W ss env1 o1
    | f => .ok f o1 := by
  rw [ev_s]
  have : evS F G W (.tryR t e c h) env o = evSs F G W h env o1 := by
    show (match evE F G e env o with
      | .ok d o1 => (R.of (asgT t d env) o1).bind fun env1 o2 => .ok (Fl.nx env1) o2
      | .ex c' o1 => if c' = c then evSs F G W h env o1 else .bad
      | .bad => .bad) = _
    rw [he]; simp
  rw [this]
  try rfl
theorem tryO {F : Nat → List D → OS → R D} {G : Nat → D} {env env1 : Env} {o1 : OS} {ss h : Sts} {t : Tg} {e : E} {c : Nat} {d : D} (he : evE F G e env o = .ok d o1) (ha : asgT t d env = some env1) : evSs F G W (.cons (.tryR t e c h) ss) env o = evSs F G W ss env1 o1 := by
  rw [ev_s]
  have : evS F G W (.tryR t e c h) env o = .ok (.nx env1) o1 := by
    show (match evE F G e env o with
      | .ok d o1 => (R.of (asgT t d env) o1).bind fun env1 o2 => .ok (Fl.nx env1) o2
      | .ex c' o1 => if c' = c then evSs F G W h env o1 else .bad
      | .bad => .bad) = _
    rw [he]
    simp only [ha, R.of_some, R.bind_ok]
  rw [this]; rfl
abbrev unR : E := .ite (.cmp .eq (.sl (.var 0) (.var 3) (.bin .add (.var 3) (.con (.int 5)))) (.call 5 (.cons (.var 2) .nil))) (.tup (.cons (.var 2) (.cons (.bin .add (.var 3) (.con (.int 5))) .nil))) (.con .non)
theorem un_end {t s r : List Nat} {q : Nat} {b : D} (h : t.drop q = r) (hq : q < 9000000) (hs : s.length < 99991) : evE (C W (k + 2)) G62 unR [some (.str t), some b, some (.str s), some (.int (q : Int))] o = .ok (if r.take 5 = chk s then .tup [.str s, .int ((q + 5 : Nat) : Int)] else .non) o := by
  have sl := sl_one (F := C W (k + 2)) (o := o) (t := t) (p := q) (env := [some (.str t), some b, some (.str s), some (.int (q : Int))]) (a := .var 0) (lo := .var 3) (fun o => ev_v0) (fun o => ev_v3) (by omega) 5 (by decide)
  have sl : evE (C W (k + 2)) G62 (.sl (.var 0) (.var 3) (.bin .add (.var 3) (.con (.int 5)))) [some (.str t), some b, some (.str s), some (.int (q : Int))] o = _ := sl
  have c := c5 (W := W) (k := k + 1) (o := o) hs
  rw [ev_ite, ev_cmp, sl, b_ok]
  simp only [ev_call, ev_es, ev_es0, ev_v2, b_ok, c, eq_str, Option.map_some, r_of_some, t_bl, h]
  by_cases z : r.take 5 = chk s
  · rw [if_pos z, if_pos (by simp [z])]
    simp only [ev_tup, ev_es, ev_es0, ev_v2, ev_bin, ev_v3, ev_con, b_ok, b_addI, r_of_some]
    rfl
  · rw [if_neg z, if_neg (by simp [z]), ev_con]
theorem c8_ok (hW : 10000000 ≤ W) {t s r : List Nat} {p : Nat} (h : t.drop p = sealT s ++ r) (hp : t.length < 8000000) (hm : s.length < 90000) (hx : ∀ c ∈ s, prn c = true) : C W (k + 3) 8 [.str t, .int (p : Int)] o = .ok (.tup [.str s, .int ((p + (sealT s).length : Nat) : Int)]) o := by
  refine call_rt (fn := f8) rfl rfl ?_
  show evSs (C W (k + 2)) G62 W f8.body [some (.str t), some (.int (p : Int)), none, none] o = _
  unfold f8
  have h' : t.drop p = dig s.length ++ 58 :: (s ++ (chk s ++ r)) := by rw [h]; simp [sealT]
  have e := c3_ok (k := k) (o := o) hW h' (by omega) (by omega) hx
  have dq : t.drop (p + (dig s.length).length + 1 + s.length) = chk s ++ r := by
    rw [← List.drop_drop, ← List.drop_drop, drop_more h']
    simp
  have hl : p + (dig s.length).length + 1 + s.length + 5 = p + (sealT s).length := by simp [sealT, chk_len]; omega
  have lt : p + (sealT s).length ≤ t.length := by
    have := congrArg List.length h
    have : 0 < (sealT s).length := by simp [sealT]; omega
    simp only [List.length_drop, List.length_append] at *
    omega
  generalize p + (dig s.length).length + 1 + s.length = q at e dq hl
  refine (tryO (env1 := [some (.str t), some (.int (p : Int)), some (.str s), some (.int (q : Int))]) ((call2 ev_v0 ev_v1).trans e) rfl).trans (s_ret' ?_)
  have u := un_end (W := W) (k := k) (o := o) (b := .int (p : Int)) (s := s) dq (by omega) (by omega)
  rw [if_pos (by rw [show 5 = (chk s).length from rfl]; simp), hl] at u
  exact u
theorem c8_torn (hW : 10000000 ≤ W) {t x : List Nat} {p : Nat} (h : t.drop p = x) (hx : Torn x) (hp : t.length < 8000000) (hpl : p ≤ t.length) : C W (k + 3) 8 [.str t, .int (p : Int)] o = .ok .non o := by
  refine call_rt (fn := f8) rfl rfl ?_
  show evSs (C W (k + 2)) G62 W f8.body [some (.str t), some (.int (p : Int)), none, none] o = _
  unfold f8
  obtain ⟨s, j, hs, hl, hpr, hj, e⟩ := hx.ex
  have pos : 0 < s.length := List.length_pos_iff.mpr hs
  obtain ⟨c, r, ed, g1, g2⟩ := dig_head s.length pos
  -- raised
  have raised : C W (k + 2) 3 [.str t, .int (p : Int)] o = .ex 1 o → evSs (C W (k + 2)) G62 W (.cons (.tryR (.tup (.cons (.nm 2) (.cons (.nm 3) .nil))) (.call 3 (.cons (.var 0) (.cons (.var 1) .nil))) 1 (.cons (.ret (.con .non)) .nil)) (.cons (.ret unR) .nil)) [some (.str t), some (.int (p : Int)), none, none] o = .ok (.rt .non) o := fun z =>
    (tryX ((call2 ev_v0 ev_v1).trans z)).trans (by rw [s_ret' ev_con]; rfl)
  by_cases j1 : j ≤ (dig s.length).length
  · have ex : x = (dig s.length).take j := by rw [e, sealT, List.take_append_of_le_length j1]
    rcases Nat.eq_zero_or_pos j with z | z
    · exact raised (c3_none (by omega) (by rw [h, ex, z]; rfl))
    · refine raised (c3_digs hW (h.trans ex) (by omega) (fun c hc => List.all_eq_true.mp (dig_isDig s.length) c (List.mem_of_mem_take hc)) (c := c) ?_ (by omega))
      rw [ed]
      obtain ⟨j', rfl⟩ : ∃ j', j = j' + 1 := ⟨j - 1, by omega⟩
      rfl
  · obtain ⟨i, rfl⟩ : ∃ i, j = (dig s.length).length + (i + 1) := ⟨j - (dig s.length).length - 1, by omega⟩
    have ex : x = dig s.length ++ 58 :: (s ++ chk s).take i := by
      rw [e, sealT, List.take_append, List.take_of_length_le (by omega), show (dig s.length).length + (i + 1) - (dig s.length).length = i + 1 by omega]
      rfl
    by_cases j2 : i < s.length
    · rw [List.take_append_of_le_length (by omega)] at ex
      exact raised (c3_short hW (h.trans ex) (by omega) (by omega) (fun c hc => hpr c (List.mem_of_mem_take hc)) (by rw [List.length_take]; omega))
    · rw [List.take_append, List.take_of_length_le (by omega)] at ex
      have hd := h.trans ex
      have e3 := c3_ok (k := k) (o := o) hW hd (by omega) (by omega) hpr
      have dq : t.drop (p + (dig s.length).length + 1 + s.length) = (chk s).take (i - s.length) := by
        rw [← List.drop_drop, ← List.drop_drop, drop_more hd]
        simp
      have hi : i - s.length < 5 := by simp [sealT, chk_len] at hj; omega
      have lt : p + (dig s.length).length + 1 + s.length ≤ t.length := by
        have := congrArg List.length hd
        simp only [List.length_drop, List.length_append, List.length_cons] at this
        omega
      generalize p + (dig s.length).length + 1 + s.length = q at e3 dq lt
      refine (tryO (env1 := [some (.str t), some (.int (p : Int)), some (.str s), some (.int (q : Int))]) ((call2 ev_v0 ev_v1).trans e3) rfl).trans (s_ret' ?_)
      have u := un_end (W := W) (k := k) (o := o) (b := .int (p : Int)) (s := s) dq (by omega) (by omega)
      rw [if_neg (fun z => by have := congrArg List.length z; simp [chk_len] at this; omega)] at u
      exact u
end O.K62
end

section
set_option Elab.async false
set_option linter.all false
set_option maxRecDepth 100000
set_option maxHeartbeats 4000000
/-! OMh: read_records, kept_text, mended, put_down. -/
namespace O.K62
open PySem O
variable {W k : Nat} {o : OS}
theorem s_app' {F : Nat → List D → OS → R D} {G : Nat → D} {env : Env} {o1 : OS} {ss : Sts} {i : Nat} {e : E} {d : D} {ds : List D} (hg : getE env i = some (.lst ds)) (h : evE F G e env o = .ok d o1) (hl : ds.length < lid) : evSs F G W (.cons (.app i e) ss) env o = evSs F G W ss (env.set i (some (.lst (ds ++ [d])))) o1 := by
  rw [ev_s]
  have : evS F G W (.app i e) env o = .ok (.nx (env.set i (some (.lst (ds ++ [d]))))) o1 := by
    show (match getE env i with
      | some (.lst ds) => (evE F G e env o).bind fun d o1 => if ds.length < lid then .ok (Fl.nx (env.set i (some (.lst (ds ++ [d]))))) o1 else .bad
      | _ => .bad) = _
    rw [hg]
    simp only [h, R.bind_ok, hl, if_true]
  rw [this]; rfl
/-- the texts of a shelf's records -/
structure RecOk (ts : List (List Nat)) (x : List Nat) : Prop where
  len : ∀ t ∈ ts, t.length < 80000
  prn : ∀ t ∈ ts, ∀ c ∈ t, prn c = true
  torn : Torn x
  all : (recT ts ++ x).length < 8000000
theorem recT_cons (s : List Nat) (ts : List (List Nat)) : recT (s :: ts) = sealT s ++ recT ts := by simp [recT]
theorem recT_append (a b : List (List Nat)) : recT (a ++ b) = recT a ++ recT b := by simp [recT]
theorem recT_len (ts : List (List Nat)) : ts.length ≤ (recT ts).length := by
  induction ts with
  | nil => simp
  | cons s ts ih =>
    rw [recT_cons, List.length_append, List.length_cons]
    have : 0 < (sealT s).length := by simp [sealT]; omega
    omega
/-- what unsealed_from tells at p -/
def hereD (p : Nat) : List (List Nat) → D
  | [] => .non
  | s :: _ => .tup [.str s, .int ((p + (sealT s).length : Nat) : Int)]
theorem c8_at (hW : 10000000 ≤ W) {t x : List Nat} {ts : List (List Nat)} {p : Nat} (h : t.drop p = recT ts ++ x) (ht : t.length < 8000000) (hp : p ≤ t.length) (hl : ∀ s ∈ ts, s.length < 80000) (hpr : ∀ s ∈ ts, ∀ c ∈ s, prn c = true) (hx : Torn x) : C W (k + 3) 8 [.str t, .int (p : Int)] o = .ok (hereD p ts) o := by
  cases ts with
  | nil => exact c8_torn hW (by simpa [recT] using h) hx ht hp
  | cons s ts => exact c8_ok hW (by rw [h, recT_cons, List.append_assoc]) ht (by have := hl s List.mem_cons_self; omega) (hpr s List.mem_cons_self)
theorem isnot_non {F : Nat → List D → OS → R D} {a d : D} {r : Env} : evE F G62 (.cmp .isnot (.var 1) (.con .non)) (some a :: some d :: r) o = .ok (.bl (!isNonB d)) o := by
  simp only [ev_cmp, ev_v1, ev_con, b_ok]
  rfl
theorem rr_loop (hW : 10000000 ≤ W) {t x : List Nat} (ht : t.length < 8000000) (hx : Torn x) : ∀ (ts : List (List Nat)) (p n : Nat) (acc : List D), t.drop p = recT ts ++ x → p ≤ t.length → (∀ s ∈ ts, s.length < 80000) → (∀ s ∈ ts, ∀ c ∈ s, prn c = true) → acc.length + ts.length < lid → ts.length < n →
    whGo (fun env o => (evE (C W (k + 3)) G62 (.cmp .isnot (.var 1) (.con .non)) env o).bind fun x o1 => .ok (truthy x) o1) (fun env o => evSs (C W (k + 3)) G62 W (.cons (.app 2 (.ix (.var 1) (.con (.int 0)))) (.cons (.asg (.nm 3) (.ix (.var 1) (.con (.int 1)))) (.cons (.asg (.nm 1) (.call 8 (.cons (.var 0) (.cons (.var 3) .nil)))) .nil))) env o) n [some (.str t), some (hereD p ts), some (.lst acc), some (.int (p : Int))] o
      = .ok (.nx [some (.str t), some .non, some (.lst (acc ++ ts.map .str)), some (.int ((p + (recT ts).length : Nat) : Int))]) o
  | [], p, n + 1, acc, h, hp, hl, hpr, ha, hn => by
    refine (wh_stop (o1 := o) ?_).trans ?_
    · show (evE (C W (k + 3)) G62 (.cmp .isnot (.var 1) (.con .non)) [some (.str t), some .non, some (.lst acc), some (.int (p : Int))] o).bind _ = _
      rw [isnot_non]; rfl
    · simp [hereD, recT]
  | s :: ts, p, n + 1, acc, h, hp, hl, hpr, ha, hn => by
    have hd : t.drop (p + (sealT s).length) = recT ts ++ x := by
      rw [recT_cons, List.append_assoc] at h
      exact drop_more h
    have hp2 : p + (sealT s).length ≤ t.length := by
      have := congrArg List.length h
      rw [recT_cons] at this
      have : 0 < (sealT s).length := by simp [sealT]; omega
      simp only [List.length_drop, List.length_append] at *
      omega
    rw [List.length_cons] at ha hn
    refine (wh_step (o1 := o) (o2 := o) (env1 := [some (.str t), some (hereD (p + (sealT s).length) ts), some (.lst (acc ++ [.str s])), some (.int ((p + (sealT s).length : Nat) : Int))]) ?_ (.inl ?_)).trans ((rr_loop hW ht hx ts (p + (sealT s).length) n (acc ++ [.str s]) hd hp2 (fun u hu => hl u (List.mem_cons_of_mem _ hu)) (fun u hu => hpr u (List.mem_cons_of_mem _ hu)) (by simp; omega) (by omega)).trans ?_)
    · show (evE (C W (k + 3)) G62 (.cmp .isnot (.var 1) (.con .non)) [some (.str t), some (.tup [.str s, .int ((p + (sealT s).length : Nat) : Int)]), some (.lst acc), some (.int (p : Int))] o).bind _ = _
      rw [isnot_non]; rfl
    · show evSs (C W (k + 3)) G62 W _ [some (.str t), some (.tup [.str s, .int ((p + (sealT s).length : Nat) : Int)]), some (.lst acc), some (.int (p : Int))] o = _
      refine (s_app' (d := .str s) (ds := acc) (o1 := o) rfl (by simp only [ev_ix, ev_v1, ev_con, b_ok]; rfl) (by omega)).trans ?_
      refine (s_asg' (d := .int ((p + (sealT s).length : Nat) : Int)) (o1 := o) ?_).trans ?_
      · show evE (C W (k + 3)) G62 _ [some (.str t), some (.tup [.str s, .int ((p + (sealT s).length : Nat) : Int)]), some (.lst (acc ++ [.str s])), some (.int (p : Int))] o = _
        simp only [ev_ix, ev_v1, ev_con, b_ok]; rfl
      refine (s_asg' (d := hereD (p + (sealT s).length) ts) (o1 := o) ?_).trans rfl
      exact (call2 (env := [some (.str t), some (.tup [.str s, .int ((p + (sealT s).length : Nat) : Int)]), some (.lst (acc ++ [.str s])), some (.int ((p + (sealT s).length : Nat) : Int))]) ev_v0 ev_v3).trans (c8_at hW hd ht hp2 (fun u hu => hl u (List.mem_cons_of_mem _ hu)) (fun u hu => hpr u (List.mem_cons_of_mem _ hu)) hx)
    · rw [recT_cons, List.length_append, List.append_assoc, Nat.add_assoc]
      rfl
theorem tuple_lst {ds : List D} : biD .tuple [.lst ds] = some (.tup ds) := id rfl
theorem c9 (hW : 10000000 ≤ W) {ts : List (List Nat)} {x : List Nat} (h : RecOk ts x) : C W (k + 4) 9 [.str (recT ts ++ x)] o = .ok (.tup [.tup (ts.map .str), .str x]) o := by
  refine call_rt (fn := f9) rfl rfl ?_
  show evSs (C W (k + 3)) G62 W f9.body [some (.str (recT ts ++ x)), none, none, none] o = _
  unfold f9
  have ha := h.all
  have hl := recT_len ts
  have lidE : lid = 16777216 := rfl
  have hl2 : ts.length < 8000000 := by rw [List.length_append] at ha; omega
  refine (s_par' (ds := [.lst [], .int 0]) (o1 := o) (env1 := [some (.str (recT ts ++ x)), none, some (.lst []), some (.int ((0 : Nat) : Int))]) (by simp only [ev_es, ev_es0, ev_lst, ev_con, b_ok]) rfl).trans ?_
  have e0 : (recT ts ++ x).drop 0 = recT ts ++ x := rfl
  refine (s_asg' (d := hereD 0 ts) (o1 := o) ((call2 ev_v0 ev_v3).trans (c8_at hW e0 ha (Nat.zero_le _) h.len h.prn h.torn))).trans ?_
  have lp := rr_loop (k := k) (o := o) hW ha h.torn ts 0 W [] e0 (Nat.zero_le _) h.len h.prn (by simp; omega) (by omega)
  refine (s_whlN lp).trans (s_ret' ?_)
  rw [Nat.zero_add, List.nil_append]
  have b := bnd_nat (p := (recT ts).length) (by rw [List.length_append] at ha; omega)
  have dr : (recT ts ++ x).drop (recT ts).length = x := by simp
  simp only [ev_tup, ev_es, ev_es0, ev_bi, ev_v2, ev_slo, ev_v0, ev_v3, b_ok, tuple_lst, r_of_some, b, cutD, cut_from, dr]
theorem recT_one (s : List Nat) : recT [s] = sealT s := by simp [recT]
/-- a kept state's word -/
abbrev keptD (e n t s m : D) : D := .tup [e, n, t, s, m]
theorem c10 {e n t s m : D} (hw : wOk (keptD e n t s m) = true) (hd : depth (keptD e n t s m) < k + 3) (hl : (wt (keptD e n t s m)).length < 80000) : C W (k + 4) 10 [e, n, t, s, m] o = .ok (.str (sealT (wt (keptD e n t s m)))) o := by
  refine call_rt (fn := f10) rfl rfl ?_
  show evSs (C W (k + 3)) G62 W f10.body [some e, some n, some t, some s, some m] o = _
  unfold f10
  have w := c0 (W := W) (k + 3) _ hd hw (by omega) o
  have sl := sealT_len (wt (keptD e n t s m)) (by omega)
  have lidE : lid = 16777216 := rfl
  have r := c7 (W := W) (k := k) (o := o) (d := .lst [.str (wt (keptD e n t s m))]) (ts := [wt (keptD e n t s m)]) rfl (by simp; omega) (by rw [recT_one]; omega) (by simp; omega)
  rw [recT_one] at r
  refine s_ret' ?_
  simp only [ev_call, ev_es, ev_es0, ev_lst, ev_tup, ev_v0, ev_v1, ev_v2, ev_v3, ev_v4, b_ok, w, r]
theorem c11 (hW : 10000000 ≤ W) {ts : List (List Nat)} {x : List Nat} (h : RecOk ts x) : C W (k + 5) 11 [.str (recT ts ++ x)] o = .ok (.str (recT ts)) o := by
  refine call_rt (fn := f11) rfl rfl ?_
  show evSs (C W (k + 4)) G62 W f11.body [some (.str (recT ts ++ x))] o = _
  unfold f11
  have ha := h.all
  have hl := recT_len ts
  have lidE : lid = 16777216 := rfl
  rw [List.length_append] at ha
  have e9 := c9 (k := k) (o := o) hW h
  have r := c7 (W := W) (k := k + 1) (o := o) (d := .tup (ts.map .str)) (ts := ts) rfl (fun t ht => by have := h.len t ht; omega) (by omega) (by omega)
  refine s_ret' ?_
  simp only [ev_call, ev_es, ev_es0, ev_v0, b_ok, ev_ix, ev_con, e9]
  exact r
theorem c12 (hW : 10000000 ≤ W) {ts : List (List Nat)} {x : List Nat} (h : RecOk ts x) {e n t s m : D} (hw : wOk (keptD e n t s m) = true) (hd : depth (keptD e n t s m) < k + 3) (hl : (wt (keptD e n t s m)).length < 80000) : C W (k + 6) 12 [.str (recT ts ++ x), e, n, t, s, m] o = .ok (.str (recT ts ++ sealT (wt (keptD e n t s m)))) o := by
  refine call_rt (fn := f12) rfl rfl ?_
  show evSs (C W (k + 5)) G62 W f12.body [some (.str (recT ts ++ x)), some e, some n, some t, some s, some m] o = _
  unfold f12
  have ha := h.all
  have lidE : lid = 16777216 := rfl
  rw [List.length_append] at ha
  have e11 := c11 (k := k) (o := o) hW h
  have e10 := c10 (W := W) (k := k + 1) (o := o) hw (by omega) hl
  have sl := sealT_len (wt (keptD e n t s m)) (by omega)
  have a := b_addS (x := recT ts) (y := sealT (wt (keptD e n t s m))) (by omega)
  refine s_ret' ?_
  simp only [ev_bin, ev_call, ev_es, ev_es0, ev_v0, ev_v1, ev_v2, ev_v3, ev_v4, ev_v5, b_ok, e11, e10, a, r_of_some]
end O.K62
end

section
set_option Elab.async false
set_option linter.all false
set_option maxRecDepth 100000
set_option maxHeartbeats 4000000
/-! OMi: integer_from. -/
namespace O.K62
open PySem O
variable {W k : Nat} {o : OS}
theorem int_bl {b : Bool} : biD .int [.bl b] = some (.int (if b then 1 else 0)) := id rfl
theorem int_num {i : Int} (h : i.natAbs < 1000000) : biD .int [.str (numT i)] = some (.int i) := by
  show (intT (numT i)).map _ = _
  rw [intT_num (by omega)]
  rfl
/-- text[q : q + 1] beside a sign -/
theorem at_sign {F : Nat → List D → OS → R D} {t : List Nat} {q c : Nat} {env : Env} {a lo : E} {x : List Nat} (ha : ∀ o, evE F G62 a env o = .ok (.str t) o) (hp : ∀ o, evE F G62 lo env o = .ok (.int (q : Int)) o) (h : q < 90000000) (hx : t.drop q = x) : evE F G62 (.cmp .eq (.sl a lo (.bin .add lo (.con (.int 1)))) (.con (.str [c]))) env o = .ok (.bl (x.take 1 == [c])) o := by
  have s := sl_one (F := F) (o := o) ha hp h 1 (by decide)
  have s : evE F G62 (.sl a lo (.bin .add lo (.con (.int 1)))) env o = _ := s
  rw [ev_cmp, s, b_ok]
  simp only [ev_con, b_ok, eq_str, Option.map_some, r_of_some, hx]
theorem at_signN {F : Nat → List D → OS → R D} {t : List Nat} {q c : Nat} {env : Env} {a lo : E} {x : List Nat} (ha : ∀ o, evE F G62 a env o = .ok (.str t) o) (hp : ∀ o, evE F G62 lo env o = .ok (.int (q : Int)) o) (h : q < 90000000) (hx : t.drop q = x) : evE F G62 (.cmp .ne (.sl a lo (.bin .add lo (.con (.int 1)))) (.con (.str [c]))) env o = .ok (.bl (!(x.take 1 == [c]))) o := by
  have s := sl_one (F := F) (o := o) ha hp h 1 (by decide)
  have s : evE F G62 (.sl a lo (.bin .add lo (.con (.int 1)))) env o = _ := s
  rw [ev_cmp, s, b_ok]
  simp only [ev_con, b_ok, ne_str, Option.map_some, r_of_some, hx]
/-- from the first digit on -/
theorem c2_tail (hW : 10000000 ≤ W) {t r : List Nat} {p q n : Nat} {i : Int} (h : t.drop p = numT i ++ 59 :: r) (hq : t.drop q = dig n ++ 59 :: r) (hn : n < 1000000) (hi : i.natAbs < 1000000) (hl : p + (numT i).length = q + (dig n).length) (ht : t.length < 9000000) (hor : q = p ∨ 0 < n) (hpq : p ≤ q) :
    evSs (C W (k + 1)) G62 W (.cons (.iff (.and (.cmp .gt (.var 2) (.var 1)) (.cmp .eq (.sl (.var 0) (.var 2) (.bin .add (.var 2) (.con (.int 1)))) (.con (.str [48])))) (.cons (.rai 1 (.var 2)) .nil) (.nil)) (.cons (.asg (.nm 3) (.call 1 (.cons (.var 0) (.cons (.var 2) .nil)))) (.cons (.iff (.cmp .ne (.sl (.var 0) (.var 3) (.bin .add (.var 3) (.con (.int 1)))) (.con (.str [59]))) (.cons (.rai 1 (.var 3)) .nil) (.nil)) (.cons (.ret (.tup (.cons (.bi .int (.cons (.sl (.var 0) (.var 1) (.var 3)) .nil)) (.cons (.bin .add (.var 3) (.con (.int 1))) .nil)))) .nil)))) [some (.str t), some (.int (p : Int)), some (.int (q : Int)), none] o
      = .ok (.rt (.tup [.int i, .int ((p + (numT i).length + 1 : Nat) : Int)])) o := by
  have lt : q + (dig n).length + 1 + r.length = t.length := by
    have := congrArg List.length hq
    have : 0 < (dig n).length := List.length_pos_iff.mpr (dig_ne n)
    simp only [List.length_drop, List.length_append, List.length_cons] at *
    omega
  have e1 : C W (k + 1) 1 [.str t, .int (q : Int)] o = .ok (.int ((q + (dig n).length : Nat) : Int)) o := by
    rcases Nat.eq_zero_or_pos n with z | z
    · subst z
      rw [dig_zero] at hq ⊢
      exact c1 hW hq ht (by simp [isDig]) rfl rfl (.inr rfl)
    · obtain ⟨c, r', e, g1, g2⟩ := dig_head n z
      exact c1 hW hq ht (fun c hc => List.all_eq_true.mp (dig_isDig n) c hc) rfl (c := c) (by rw [e]; rfl) (.inl (by omega))
  have dq := drop_more hq
  rw [← hl] at e1 dq
  have hll : p + (numT i).length < 9000000 := by omega
  have cutd : (t.drop p).take (p + (numT i).length - p) = numT i := by
    rw [h, show p + (numT i).length - p = (numT i).length by omega]; simp
  generalize p + (numT i).length = z at e1 dq hll cutd ⊢
  refine (s_ifN (d := .bl false) (o1 := o) ?_ rfl).trans ?_
  · have s := at_sign (F := C W (k + 1)) (o := o) (t := t) (q := q) (c := 48) (env := [some (.str t), some (.int (p : Int)), some (.int (q : Int)), none]) (a := .var 0) (lo := .var 2) (fun o => ev_v0) (fun o => ev_v2) (by omega) hq
    rw [ev_and]
    simp only [ev_cmp, ev_v1, ev_v2, b_ok, gt_int, Option.map_some, r_of_some, t_bl]
    rcases hor with e | e
    · rw [if_neg (by simp; omega), decide_eq_false (by omega)]
    · obtain ⟨c, r', e', g1, g2⟩ := dig_head n e
      have hs : evE (C W (k + 1)) G62 (.cmp .eq (.sl (.var 0) (.var 2) (.bin .add (.var 2) (.con (.int 1)))) (.con (.str [48]))) [some (.str t), some (.int (p : Int)), some (.int (q : Int)), none] o = .ok (.bl false) o := by
        rw [s, e']
        simp; omega
      rw [ev_cmp] at hs
      by_cases hlt : p < q
      · rw [if_pos (by simp; omega)]
        exact hs
      · rw [if_neg (by simp; omega), decide_eq_false (by omega)]
  refine (s_asg' (d := .int (z : Int)) (o1 := o) ((call2 ev_v0 ev_v2).trans e1)).trans ?_
  refine (s_ifN (d := .bl false) (o1 := o) ?_ rfl).trans (s_ret' ?_)
  · have s := at_signN (F := C W (k + 1)) (o := o) (t := t) (q := z) (c := 59) (env := [some (.str t), some (.int (p : Int)), some (.int (q : Int)), some (.int (z : Int))]) (a := .var 0) (lo := .var 3) (fun o => ev_v0) (fun o => ev_v3) (by omega) dq
    exact s.trans (by simp)
  · show evE (C W (k + 1)) G62 _ [some (.str t), some (.int (p : Int)), some (.int (q : Int)), some (.int (z : Int))] o = _
    have b1 := bnd_nat (p := p) (by omega)
    have b2 := bnd_nat (p := z) (by omega)
    have hi' := int_num hi
    simp only [ev_tup, ev_es, ev_es0, ev_bi, ev_sl, ev_v0, ev_v1, ev_v3, ev_bin, ev_con, b_ok, r_of_some, b1, b2, cutD, cut_nat, cutd, hi', b_addI]
    rfl
theorem c2 (hW : 10000000 ≤ W) {t r : List Nat} {p : Nat} {i : Int} (h : t.drop p = numT i ++ 59 :: r) (hi : i.natAbs < 1000000) (ht : t.length < 9000000) : C W (k + 2) 2 [.str t, .int (p : Int)] o = .ok (.tup [.int i, .int ((p + (numT i).length + 1 : Nat) : Int)]) o := by
  refine call_rt (fn := f2) rfl rfl ?_
  show evSs (C W (k + 1)) G62 W f2.body [some (.str t), some (.int (p : Int)), none, none] o = _
  unfold f2
  have hpl : p ≤ t.length := by
    have := congrArg List.length h
    simp only [List.length_drop, List.length_append, List.length_cons] at this
    omega
  have s := at_sign (F := C W (k + 1)) (o := o) (t := t) (q := p) (c := 45) (env := [some (.str t), some (.int (p : Int)), none, none]) (a := .var 0) (lo := .var 1) (fun o => ev_v0) (fun o => ev_v1) (by omega) h
  by_cases hn : 0 ≤ i
  · have e := numT_of_nonneg hn
    have s2 : evE (C W (k + 1)) G62 (.cmp .eq (.sl (.var 0) (.var 1) (.bin .add (.var 1) (.con (.int 1)))) (.con (.str [45]))) [some (.str t), some (.int (p : Int)), none, none] o = .ok (.bl false) o := by
      rw [s, e]
      have hd := dig_all i.toNat
      cases hh : dig i.toNat with
      | nil => exact absurd hh (dig_ne _)
      | cons c r' =>
        have := hd c (by rw [hh]; exact List.mem_cons_self)
        simp; omega
    refine (s_asg' (d := .int (p : Int)) (o1 := o) ?_).trans ?_
    · simp only [ev_bin, ev_v1, b_ok, ev_bi, ev_es, ev_es0, s2, int_bl, r_of_some, b_addI]
      simp
    · exact c2_tail hW h (by rw [h, e]) (by omega) hi (by rw [e]) ht (.inl rfl) (Nat.le_refl _)
  · obtain ⟨n, rfl⟩ : ∃ n : Nat, i = -((n + 1 : Nat) : Int) := ⟨i.natAbs - 1, by omega⟩
    have e := numT_neg n
    have s2 : evE (C W (k + 1)) G62 (.cmp .eq (.sl (.var 0) (.var 1) (.bin .add (.var 1) (.con (.int 1)))) (.con (.str [45]))) [some (.str t), some (.int (p : Int)), none, none] o = .ok (.bl true) o := by
      rw [s, e]
      simp
    refine (s_asg' (d := .int ((p + 1 : Nat) : Int)) (o1 := o) ?_).trans ?_
    · simp only [ev_bin, ev_v1, b_ok, ev_bi, ev_es, ev_es0, s2, int_bl, r_of_some, b_addI]
      simp
    · refine c2_tail hW (q := p + 1) (n := n + 1) h ?_ (by omega) hi ?_ ht (.inr (by omega)) (by omega)
      · rw [← List.drop_drop, h, e]; rfl
      · rw [e, List.length_cons]; omega
end O.K62
end

section
set_option Elab.async false
set_option linter.all false
set_option maxRecDepth 100000
set_option maxHeartbeats 4000000
/-! OMj: read_word. -/
namespace O.K62
open PySem O
variable {W k : Nat} {o : OS}
theorem s_appN' {F : Nat → List D → OS → R D} {G : Nat → D} {env : Env} {ss : Sts} {i : Nat} {ds : List D} (hg : getE env i = some (.lst ds)) (hl : ds.length < lid) : evSs F G W (.cons (.appN i) ss) env o = evSs F G W ss (env.set i (some (.lst (ds ++ [.lst []])))) o := by
  rw [ev_s]
  have : evS F G W (.appN i) env o = .ok (.nx (env.set i (some (.lst (ds ++ [.lst []]))))) o := by
    show (match getE env i with
      | some (.lst ds) => if ds.length < lid then R.ok (Fl.nx (env.set i (some (D.lst (ds ++ [D.lst []]))))) o else .bad
      | _ => .bad) = _
    rw [hg]
    simp only [hl, if_true]
  rw [this]; rfl
theorem s_appL' {F : Nat → List D → OS → R D} {G : Nat → D} {env : Env} {o1 : OS} {ss : Sts} {i : Nat} {e : E} {d : D} {S xs : List D} (hg : getE env i = some (.lst (S ++ [.lst xs]))) (h : evE F G e env o = .ok d o1) (hl : xs.length < lid) : evSs F G W (.cons (.appL i e) ss) env o = evSs F G W ss (env.set i (some (.lst (S ++ [.lst (xs ++ [d])])))) o1 := by
  rw [ev_s]
  have : evS F G W (.appL i e) env o = .ok (.nx (env.set i (some (.lst (S ++ [.lst (xs ++ [d])]))))) o1 := by
    show (match getE env i with
      | some (.lst ds) => match ds.getLast? with
        | some (.lst xs) => (evE F G e env o).bind fun d o1 => if xs.length < lid then .ok (Fl.nx (env.set i (some (D.lst (ds.dropLast ++ [D.lst (xs ++ [d])]))))) o1 else .bad
        | _ => .bad
      | _ => .bad) = _
    rw [hg]
    simp only [List.getLast?_concat, List.dropLast_concat, h, R.bind_ok, hl, if_true]
  rw [this]; rfl
theorem s_popT' {F : Nat → List D → OS → R D} {G : Nat → D} {env : Env} {o1 : OS} {ss : Sts} {i a b : Nat} {e : E} {y : D} {S xs : List D} (hg : getE env i = some (.lst (S ++ [.lst xs]))) (h : evE F G e (env.set i (some (.lst S))) o = .ok y o1) : evSs F G W (.cons (.popT i a b e) ss) env o = evSs F G W ss (((env.set i (some (.lst S))).set a (some (.tup xs))).set b (some y)) o1 := by
  rw [ev_s]
  have : evS F G W (.popT i a b e) env o = .ok (.nx (((env.set i (some (.lst S))).set a (some (.tup xs))).set b (some y))) o1 := by
    show (match getE env i with
      | some (.lst ds) => match ds.getLast? with
        | some (.lst xs) => (evE F G e (env.set i (some (D.lst ds.dropLast))) o).bind fun y o1 => .ok (Fl.nx (((env.set i (some (D.lst ds.dropLast))).set a (some (D.tup xs))).set b (some y))) o1
        | _ => .bad
      | _ => .bad) = _
    rw [hg]
    simp only [List.getLast?_concat, List.dropLast_concat, h, R.bind_ok]
  rw [this]; rfl
abbrev rwT : E := .and (.cmp .lt (.var 1) (.bi .len (.cons (.var 0) .nil))) (.not (.and (.cmp .eq (.bi .len (.cons (.var 2) .nil)) (.con (.int 1))) (.ix (.var 2) (.con (.int 0)))))
abbrev rwB : Sts := .cons (.asg (.nm 3) (.ix (.var 0) (.var 1))) (.cons (.iff (.cmp .eq (.var 3) (.con (.str [40]))) (.cons (.appN 2) (.cons (.aug 1 .add (.con (.int 1))) (.cons (.cnt) .nil))) (.nil)) (.cons (.iff (.and (.cmp .eq (.var 3) (.con (.str [41]))) (.cmp .gt (.bi .len (.cons (.var 2) .nil)) (.con (.int 1)))) (.cons (.popT 2 4 1 (.bin .add (.var 1) (.con (.int 1)))) .nil) (.cons (.iff (.inG false (.var 3) 1) (.cons (.par [4, 1] (.cons (.ixG 1 (.var 3)) (.cons (.bin .add (.var 1) (.con (.int 1))) .nil))) .nil) (.cons (.iff (.cmp .eq (.var 3) (.con (.str [105]))) (.cons (.asg (.tup (.cons (.nm 4) (.cons (.nm 1) .nil))) (.call 2 (.cons (.var 0) (.cons (.bin .add (.var 1) (.con (.int 1))) .nil)))) .nil) (.cons (.iff (.cmp .eq (.var 3) (.con (.str [116]))) (.cons (.asg (.tup (.cons (.nm 4) (.cons (.nm 1) .nil))) (.call 3 (.cons (.var 0) (.cons (.bin .add (.var 1) (.con (.int 1))) .nil)))) .nil) (.cons (.rai 1 (.var 1)) .nil)) .nil)) .nil)) .nil)) (.cons (.appL 2 (.var 4)) .nil)))
/-- where it stands -/
abbrev St4 (t : List Nat) (p : Nat) (S xs : List D) (a b : Option D) : Env := [some (.str t), some (.int (p : Int)), some (.lst (S ++ [.lst xs])), a, b]
theorem eq_int {i j : Int} : cmpD .eq (.int i) (.int j) = some (i == j) := by
  show (if cmpOk (.int i) (.int j) then some (eqD (.int i) (.int j)) else none) = _
  rw [if_pos (by simp [cmpOk, pure, depth])]
  simp [eqD]
theorem t_str {s : List Nat} : truthy (.str s) = !s.isEmpty := id rfl
theorem t_lst {s : List D} : truthy (.lst s) = !s.isEmpty := id rfl
theorem ix_lst0 {d : D} {r : List D} : ixD (.lst (d :: r)) (.int 0) = some d := by
  show at? (d :: r) 0 = _
  simp [at?]
/-- is there more to be read? -/
theorem rw_test {F : Nat → List D → OS → R D} {t : List Nat} {p : Nat} {S xs : List D} {a b : Option D} : evE F G62 rwT (St4 t p S xs a b) o = .ok (.bl (decide (p < t.length) && !(S.isEmpty && !xs.isEmpty))) o := by
  simp only [ev_and, ev_cmp, ev_v1, ev_bi, ev_es, ev_es0, ev_v0, b_ok, len_str, r_of_some, lt_int, Option.map_some, t_bl, ev_not, ev_v2, len_lst, ev_con, eq_int, ev_ix]
  by_cases h : p < t.length
  · rw [if_pos (by simp; omega)]
    cases S with
    | nil =>
      simp only [List.nil_append, List.length_singleton]
      rw [if_pos (by simp)]
      simp only [ix_lst0, r_of_some, b_ok, t_lst]
      simp [h]
    | cons s S =>
      rw [if_neg (by simp; omega)]
      simp only [b_ok, t_bl]
      simp [h]
      omega
  · rw [if_neg (by simp; omega)]
    simp [h]
theorem sign_eq {F : Nat → List D → OS → R D} {c e : Nat} {x y z : Option D} {r : Env} : evE F G62 (.cmp .eq (.var 3) (.con (.str [e]))) (x :: y :: z :: some (.str [c]) :: r) o = .ok (.bl (c == e)) o := by
  simp only [ev_cmp, ev_v3, ev_con, b_ok, eq_str, Option.map_some, r_of_some]
  congr 2
  by_cases h : c = e <;> simp [h]
/-- the sign is read -/
theorem rw_sign {F : Nat → List D → OS → R D} {t : List Nat} {p c : Nat} {S xs : List D} {a b : Option D} (h : t[p]? = some c) {ss : Sts} : evSs F G62 W (.cons (.asg (.nm 3) (.ix (.var 0) (.var 1))) ss) (St4 t p S xs a b) o = evSs F G62 W ss (St4 t p S xs (some (.str [c])) b) o := by
  have i := ix_str h
  exact s_asg' (by simp only [ev_ix, ev_v0, ev_v1, b_ok, i, r_of_some])
theorem seq_nx {F : Nat → List D → OS → R D} {G : Nat → D} {env env1 : Env} {o1 : OS} {ss : Sts} {s : St} (h : evS F G W s env o = .ok (.nx env1) o1) : evSs F G W (.cons s ss) env o = evSs F G W ss env1 o1 := by
  rw [ev_s, h]; rfl
/-- ( -/
theorem rw_open {F : Nat → List D → OS → R D} {t : List Nat} {p : Nat} {S xs : List D} {a b : Option D} (h : t[p]? = some 40) (hl : S.length < 1000) : evSs F G62 W rwB (St4 t p S xs a b) o = .ok (.ct (St4 t (p + 1) (S ++ [.lst xs]) [] (some (.str [40])) b)) o := by
  refine (rw_sign h).trans ((s_ifT sign_eq rfl).trans ?_)
  have lidE : lid = 16777216 := rfl
  have : evSs F G62 W (.cons (.appN 2) (.cons (.aug 1 .add (.con (.int 1))) (.cons (.cnt) .nil))) (St4 t p S xs (some (.str [40])) b) o = .ok (.ct (St4 t (p + 1) (S ++ [.lst xs]) [] (some (.str [40])) b)) o := by
    refine (s_appN' (ds := S ++ [.lst xs]) rfl (by simp; omega)).trans ?_
    rfl
  rw [this]; rfl
/-- a word read, put behind the others -/
theorem rw_put {F : Nat → List D → OS → R D} {t : List Nat} {p c : Nat} {S xs : List D} {a b : Option D} {S' xs' : List D} {q : Nat} {d : D} (h : t[p]? = some c) (hc : c ≠ 40) (hl : xs'.length < 1000)
    (h2 : evSs F G62 W (.cons (.iff (.and (.cmp .eq (.var 3) (.con (.str [41]))) (.cmp .gt (.bi .len (.cons (.var 2) .nil)) (.con (.int 1)))) (.cons (.popT 2 4 1 (.bin .add (.var 1) (.con (.int 1)))) .nil) (.cons (.iff (.inG false (.var 3) 1) (.cons (.par [4, 1] (.cons (.ixG 1 (.var 3)) (.cons (.bin .add (.var 1) (.con (.int 1))) .nil))) .nil) (.cons (.iff (.cmp .eq (.var 3) (.con (.str [105]))) (.cons (.asg (.tup (.cons (.nm 4) (.cons (.nm 1) .nil))) (.call 2 (.cons (.var 0) (.cons (.bin .add (.var 1) (.con (.int 1))) .nil)))) .nil) (.cons (.iff (.cmp .eq (.var 3) (.con (.str [116]))) (.cons (.asg (.tup (.cons (.nm 4) (.cons (.nm 1) .nil))) (.call 3 (.cons (.var 0) (.cons (.bin .add (.var 1) (.con (.int 1))) .nil)))) .nil) (.cons (.rai 1 (.var 1)) .nil)) .nil)) .nil)) .nil)) (.cons (.appL 2 (.var 4)) .nil)) (St4 t p S xs (some (.str [c])) b) o = evSs F G62 W (.cons (.appL 2 (.var 4)) .nil) (St4 t q S' xs' (some (.str [c])) (some d)) o) :
    evSs F G62 W rwB (St4 t p S xs a b) o = .ok (.nx (St4 t q S' (xs' ++ [d]) (some (.str [c])) (some d))) o := by
  have lidE : lid = 16777216 := rfl
  refine (rw_sign h).trans ((s_ifN sign_eq (by simpa using hc)).trans (h2.trans ?_))
  exact (s_appL' (S := S') (xs := xs') rfl ev_v4 (by omega)).trans rfl
theorem and_F {F : Nat → List D → OS → R D} {c : Nat} {x y z : Option D} {r : Env} {e : E} (h : c ≠ 41) : evE F G62 (.and (.cmp .eq (.var 3) (.con (.str [41]))) e) (x :: y :: z :: some (.str [c]) :: r) o = .ok (.bl false) o := by
  rw [ev_and, sign_eq, b_ok, t_bl, if_neg (by simpa using h)]
  congr 2
  simpa using h
theorem inG_c {F : Nat → List D → OS → R D} {c : Nat} {x y z : Option D} {r : Env} : evE F G62 (.inG false (.var 3) 1) (x :: y :: z :: some (.str [c]) :: r) o = .ok (.bl (c == 78 || (c == 84 || c == 70))) o := by
  simp only [ev_inG, ev_v3, b_ok]
  show R.of ((keyG (.dct [(.str [78], .non), (.str [84], .bl true), (.str [70], .bl false)]) (.str [c])).map _) o = _
  simp only [keyG, List.find?_cons, eqD, Option.map_some]
  by_cases h1 : c = 78
  · subst h1; rfl
  · by_cases h2 : c = 84
    · subst h2; rfl
    · by_cases h3 : c = 70
      · subst h3; rfl
      · have e : ∀ x : Nat, c ≠ x → (([x] : List Nat) == [c]) = false := fun x hx => by simp; exact fun z => hx z.symm
        simp [e _ h1, e _ h2, e _ h3, h1, h2, h3]
end O.K62
end

section
set_option Elab.async false
set_option linter.all false
set_option maxRecDepth 100000
set_option maxHeartbeats 4000000
/-! OMk: read_word reads what word_text writes. -/
namespace O.K62
open PySem O
variable {W k : Nat} {o : OS}
theorem s_ifFn {F : Nat → List D → OS → R D} {G : Nat → D} {env env1 : Env} {o1 o2 : OS} {ss a b : Sts} {c : E} {d : D} (h : evE F G c env o = .ok d o1) (ht : truthy d = false) (hb : evSs F G W b env o1 = .ok (.nx env1) o2) : evSs F G W (.cons (.iff c a b) ss) env o = evSs F G W ss env1 o2 := by rw [s_ifF h ht, hb]; rfl
theorem s_ifTn {F : Nat → List D → OS → R D} {G : Nat → D} {env env1 : Env} {o1 o2 : OS} {ss a b : Sts} {c : E} {d : D} (h : evE F G c env o = .ok d o1) (ht : truthy d = true) (hb : evSs F G W a env o1 = .ok (.nx env1) o2) : evSs F G W (.cons (.iff c a b) ss) env o = evSs F G W ss env1 o2 := by rw [s_ifT h ht, hb]; rfl
theorem add_one {F : Nat → List D → OS → R D} {p : Nat} {x : Option D} {r : Env} : evE F G62 (.bin .add (.var 1) (.con (.int 1))) (x :: some (.int (p : Int)) :: r) o = .ok (.int ((p + 1 : Nat) : Int)) o := by
  simp only [ev_bin, ev_v1, ev_con, b_ok, b_addI, r_of_some]
  rfl
/-- N, T, F -/
theorem rw_con {F : Nat → List D → OS → R D} {t : List Nat} {p c : Nat} {S xs : List D} {a b : Option D} {v : D} (h : t[p]? = some c) (hv : keyG (G62 1) (.str [c]) = some (some v)) (hc : c = 78 ∨ c = 84 ∨ c = 70) (hl : xs.length < 1000) :
    evSs F G62 W rwB (St4 t p S xs a b) o = .ok (.nx (St4 t (p + 1) S (xs ++ [v]) (some (.str [c])) (some v))) o := by
  refine rw_put h (by omega) hl ?_
  refine s_ifFn (and_F (by omega)) rfl (o2 := o) ?_
  refine (s_ifTn (inG_c) (by rcases hc with rfl | rfl | rfl <;> rfl) (env1 := St4 t (p + 1) S xs (some (.str [c])) (some v)) (o2 := o) ?_).trans rfl
  refine (s_par' (ds := [v, .int ((p + 1 : Nat) : Int)]) (o1 := o) ?_ rfl).trans rfl
  simp only [ev_es, ev_es0, ev_ixG, ev_v3, b_ok, hv, Option.bind_some, r_of_some, add_one]
/-- i.. -/
theorem rw_int (hW : 10000000 ≤ W) {t r : List Nat} {p : Nat} {S xs : List D} {a b : Option D} {i : Int} (h : t.drop p = 105 :: (numT i ++ 59 :: r)) (hi : i.natAbs < 1000000) (ht : t.length < 9000000) (hl : xs.length < 1000) :
    evSs (C W (k + 2)) G62 W rwB (St4 t p S xs a b) o = .ok (.nx (St4 t (p + 1 + (numT i).length + 1) S (xs ++ [.int i]) (some (.str [105])) (some (.int i)))) o := by
  have h0 : t[p]? = some 105 := by
    have := congrArg List.head? h
    rw [List.head?_drop] at this
    exact this
  have h1 : t.drop (p + 1) = numT i ++ 59 :: r := by rw [← List.drop_drop, h]; rfl
  have e := c2 (k := k) (o := o) hW h1 hi ht
  refine rw_put h0 (by decide) hl ?_
  refine s_ifFn (and_F (by decide)) rfl (o2 := o) ?_
  refine (s_ifFn (inG_c) rfl (env1 := St4 t (p + 1 + (numT i).length + 1) S xs (some (.str [105])) (some (.int i))) (o2 := o) ?_).trans rfl
  refine (s_ifTn sign_eq rfl (o2 := o) ?_).trans rfl
  exact (s_asgT ((call2 ev_v0 add_one).trans e) rfl).trans rfl
/-- t.. -/
theorem rw_str (hW : 10000000 ≤ W) {t s r : List Nat} {p : Nat} {S xs : List D} {a b : Option D} (h : t.drop p = 116 :: (dig s.length ++ 58 :: (s ++ r))) (hs : s.length < 1000) (hp : ∀ c ∈ s, prn c = true) (ht : t.length < 9000000) (hl : xs.length < 1000) :
    evSs (C W (k + 2)) G62 W rwB (St4 t p S xs a b) o = .ok (.nx (St4 t (p + 1 + (dig s.length).length + 1 + s.length) S (xs ++ [.str s]) (some (.str [116])) (some (.str s)))) o := by
  have h0 : t[p]? = some 116 := by
    have := congrArg List.head? h
    rw [List.head?_drop] at this
    exact this
  have h1 : t.drop (p + 1) = dig s.length ++ 58 :: (s ++ r) := by rw [← List.drop_drop, h]; rfl
  have e := c3_ok (k := k) (o := o) hW h1 ht (by omega) hp
  refine rw_put h0 (by decide) hl ?_
  refine s_ifFn (and_F (by decide)) rfl (o2 := o) ?_
  refine (s_ifFn (inG_c) rfl (env1 := St4 t (p + 1 + (dig s.length).length + 1 + s.length) S xs (some (.str [116])) (some (.str s))) (o2 := o) ?_).trans rfl
  refine (s_ifFn sign_eq rfl (o2 := o) ?_).trans rfl
  refine (s_ifTn sign_eq rfl (o2 := o) ?_).trans rfl
  exact (s_asgT ((call2 ev_v0 add_one).trans e) rfl).trans rfl
/-- ) -/
theorem rw_close {F : Nat → List D → OS → R D} {t : List Nat} {p : Nat} {S xs ys : List D} {a b : Option D} (h : t[p]? = some 41) (hl : xs.length < 1000) :
    evSs F G62 W rwB (St4 t p (S ++ [.lst xs]) ys a b) o = .ok (.nx (St4 t (p + 1) S (xs ++ [.tup ys]) (some (.str [41])) (some (.tup ys)))) o := by
  refine rw_put h (by decide) hl ?_
  refine (s_ifTn (d := .bl true) (o1 := o) ?_ rfl (env1 := St4 t (p + 1) S xs (some (.str [41])) (some (.tup ys))) (o2 := o) ?_).trans rfl
  · rw [ev_and, sign_eq, b_ok, t_bl, if_pos (show ((41 : Nat) == 41) = true from rfl)]
    simp only [ev_cmp, ev_bi, ev_es, ev_es0, ev_v2, ev_con, b_ok, len_lst, r_of_some, gt_int, Option.map_some]
    rw [decide_eq_true (by simp; omega)]
  · refine (s_popT' (S := S ++ [.lst xs]) (xs := ys) rfl (y := .int ((p + 1 : Nat) : Int)) (o1 := o) ?_).trans rfl
    exact add_one
mutual
/-- how many turns it takes -/
def cntD : D → Nat
  | .tup ds => cntL ds + 2
  | _ => 1
def cntL : List D → Nat
  | [] => 0
  | d :: ds => cntD d + cntL ds
end
abbrev rwGo (W k : Nat) (n : Nat) (env : Env) (o : OS) : R Fl := whGo (fun env o => (evE (C W (k + 2)) G62 rwT env o).bind fun x o1 => .ok (truthy x) o1) (fun env o => evSs (C W (k + 2)) G62 W rwB env o) n env o
theorem test_yes {t : List Nat} {p : Nat} {S xs : List D} {a b : Option D} (hp : p < t.length) (h : S ≠ [] ∨ xs = []) : ((evE (C W (k + 2)) G62 rwT (St4 t p S xs a b) o).bind fun x o1 => .ok (truthy x) o1) = .ok true o := by
  rw [rw_test, b_ok, t_bl]
  congr 1
  rcases h with h | h
  · cases S <;> simp_all
  · subst h; simp [hp]
/-- the words within one another are at most so long, so deep -/
structure RwOk (t : List Nat) (S xs : List D) : Prop where
  S : S.length < 900
  xs : xs.length < 900
  t : t.length < 9000000
mutual
theorem rw_word (hW : 10000000 ≤ W) {t : List Nat} (ht : t.length < 9000000) : ∀ (d : D) (p : Nat) (S xs : List D) (a b : Option D) (r : List Nat) (n : Nat), wOk d = true → t.drop p = wt d ++ r → (S ≠ [] ∨ xs = []) → S.length + (wt d).length < 900 → xs.length < 900 →
    ∃ a' b', rwGo W k (n + cntD d) (St4 t p S xs a b) o = rwGo W k n (St4 t (p + (wt d).length) S (xs ++ [d]) a' b') o
  | .non, p, S, xs, a, b, r, n, hw, h, hs, h1, h2 => by
    have h0 : t[p]? = some 78 := by
      have := congrArg List.head? h
      rw [List.head?_drop] at this
      exact this
    exact ⟨_, _, wh_step (test_yes (List.getElem?_eq_some_iff.mp h0).1 hs) (.inl (rw_con h0 rfl (.inl rfl) (by omega)))⟩
  | .bl b', p, S, xs, a, b, r, n, hw, h, hs, h1, h2 => by
    cases b' with
    | true =>
      have h0 : t[p]? = some 84 := by
        have := congrArg List.head? h
        rw [List.head?_drop] at this
        exact this
      exact ⟨_, _, wh_step (test_yes (List.getElem?_eq_some_iff.mp h0).1 hs) (.inl (rw_con h0 rfl (.inr (.inl rfl)) (by omega)))⟩
    | false =>
      have h0 : t[p]? = some 70 := by
        have := congrArg List.head? h
        rw [List.head?_drop] at this
        exact this
      exact ⟨_, _, wh_step (test_yes (List.getElem?_eq_some_iff.mp h0).1 hs) (.inl (rw_con h0 rfl (.inr (.inr rfl)) (by omega)))⟩
  | .int i, p, S, xs, a, b, r, n, hw, h, hs, h1, h2 => by
    simp only [wOk, decide_eq_true_eq] at hw
    have h' : t.drop p = 105 :: (numT i ++ 59 :: r) := by rw [h]; simp [wt]
    have hp : p < t.length := by
      have := congrArg List.length h'
      simp only [List.length_drop, List.length_cons] at this
      omega
    refine ⟨some (.str [105]), some (.int i), (wh_step (test_yes hp hs) (.inl (rw_int hW h' hw ht (by omega)))).trans ?_⟩
    rw [show p + 1 + (numT i).length + 1 = p + (wt (.int i)).length by simp [wt]; omega]
  | .str s, p, S, xs, a, b, r, n, hw, h, hs, h1, h2 => by
    simp only [wOk, Bool.and_eq_true, decide_eq_true_eq, List.all_eq_true] at hw
    have h' : t.drop p = 116 :: (dig s.length ++ 58 :: (s ++ r)) := by rw [h]; simp [wt]
    have hp : p < t.length := by
      have := congrArg List.length h'
      simp only [List.length_drop, List.length_cons] at this
      omega
    refine ⟨some (.str [116]), some (.str s), (wh_step (test_yes hp hs) (.inl (rw_str hW h' hw.1 (fun c hc => by simp [prn, (hw.2 c hc).1, (hw.2 c hc).2]) ht (by omega)))).trans ?_⟩
    rw [show p + 1 + (dig s.length).length + 1 + s.length = p + (wt (.str s)).length by simp [wt]; omega]
  | .tup ds, p, S, xs, a, b, r, n, hw, h, hs, h1, h2 => by
    simp only [wOk] at hw
    simp only [wt, List.length_cons, List.length_append, List.length_nil] at h1
    have h' : t.drop p = 40 :: (wtL ds ++ (41 :: r)) := by rw [h]; simp [wt]
    have h0 : t[p]? = some 40 := by
      have := congrArg List.head? h'
      rw [List.head?_drop] at this
      exact this
    have hd1 : t.drop (p + 1) = wtL ds ++ (41 :: r) := by rw [← List.drop_drop, h']; rfl
    have hd2 := drop_more hd1
    have h3 : t[p + 1 + (wtL ds).length]? = some 41 := by
      have := congrArg List.head? hd2
      rw [List.head?_drop] at this
      exact this
    obtain ⟨a', b', e⟩ := rw_words hW ht ds (p + 1) (S ++ [.lst xs]) [] (some (.str [40])) b (41 :: r) (n + 1) hw hd1 (by simp) (by simp; omega) (by have := wtL_len hw; simp; omega)
    refine ⟨some (.str [41]), some (.tup ds), ?_⟩
    rw [show n + cntD (.tup ds) = (n + 1 + cntL ds) + 1 by simp [cntD]; omega]
    refine (wh_step (test_yes (List.getElem?_eq_some_iff.mp h0).1 hs) (.inr (rw_open h0 (by omega)))).trans (e.trans ?_)
    rw [List.nil_append]
    refine (wh_step (test_yes (List.getElem?_eq_some_iff.mp h3).1 (.inl (by simp))) (.inl (rw_close h3 (by omega)))).trans ?_
    rw [show p + 1 + (wtL ds).length + 1 = p + (wt (.tup ds)).length by simp [wt]; omega]
  | .dct _, _, _, _, _, _, _, _, hw, _, _, _, _ => by simp [wOk] at hw
  | .lst _, _, _, _, _, _, _, _, hw, _, _, _, _ => by simp [wOk] at hw
  | .set _, _, _, _, _, _, _, _, hw, _, _, _, _ => by simp [wOk] at hw
  | .fn _ _, _, _, _, _, _, _, _, hw, _, _, _, _ => by simp [wOk] at hw
  | .src, _, _, _, _, _, _, _, hw, _, _, _, _ => by simp [wOk] at hw
theorem rw_words (hW : 10000000 ≤ W) {t : List Nat} (ht : t.length < 9000000) : ∀ (ds : List D) (p : Nat) (S xs : List D) (a b : Option D) (r : List Nat) (n : Nat), wOkL ds = true → t.drop p = wtL ds ++ r → S ≠ [] → S.length + (wtL ds).length < 900 → xs.length + ds.length < 900 →
    ∃ a' b', rwGo W k (n + cntL ds) (St4 t p S xs a b) o = rwGo W k n (St4 t (p + (wtL ds).length) S (xs ++ ds) a' b') o
  | [], p, S, xs, a, b, r, n, hw, h, hs, h1, h2 => ⟨a, b, by simp [cntL, wtL]⟩
  | d :: ds, p, S, xs, a, b, r, n, hw, h, hs, h1, h2 => by
    simp only [wOkL, Bool.and_eq_true] at hw
    simp only [wtL, List.length_append, List.length_cons] at h1 h2
    have h' : t.drop p = wt d ++ (wtL ds ++ r) := by rw [h]; simp [wtL]
    obtain ⟨a1, b1, e1⟩ := rw_word hW ht d p S xs a b (wtL ds ++ r) (n + cntL ds) hw.1 h' (.inl hs) (by omega) (by omega)
    obtain ⟨a2, b2, e2⟩ := rw_words hW ht ds (p + (wt d).length) S (xs ++ [d]) a1 b1 r n hw.2 (drop_more h') hs (by omega) (by simp; omega)
    refine ⟨a2, b2, ?_⟩
    rw [show n + cntL (d :: ds) = n + cntL ds + cntD d by simp [cntL]; omega, e1, e2]
    rw [show p + (wtL (d :: ds)).length = p + (wt d).length + (wtL ds).length by simp [wtL]; omega]
    simp
end
end O.K62
end

section
set_option Elab.async false
set_option linter.all false
set_option maxRecDepth 100000
set_option maxHeartbeats 4000000
/-! OMl: read_word as a call, is_kept, kept_on. -/
namespace O.K62
open PySem O
variable {W k : Nat} {o : OS}
mutual
theorem cntD_le : ∀ d : D, wOk d = true → cntD d ≤ (wt d).length
  | .non, _ => by simp [cntD, wt]
  | .bl b, _ => by cases b <;> simp [cntD, wt]
  | .int i, _ => by simp [cntD, wt]
  | .str s, _ => by simp [cntD, wt]
  | .tup ds, h => by
    simp only [wOk] at h
    have := cntL_le ds h
    simp [cntD, wt]; omega
  | .dct _, h => by simp [wOk] at h
  | .lst _, h => by simp [wOk] at h
  | .set _, h => by simp [wOk] at h
  | .fn _ _, h => by simp [wOk] at h
  | .src, h => by simp [wOk] at h
theorem cntL_le : ∀ ds : List D, wOkL ds = true → cntL ds ≤ (wtL ds).length
  | [], _ => by simp [cntL, wtL]
  | d :: ds, h => by
    simp only [wOkL, Bool.and_eq_true] at h
    have h1 := cntD_le d h.1
    have h2 := cntL_le ds h.2
    simp only [cntL, wtL, List.length_append]; omega
end
theorem c4 (hW : 10000000 ≤ W) {d : D} (hw : wOk d = true) (hl : (wt d).length < 800) : C W (k + 3) 4 [.str (wt d)] o = .ok d o := by
  refine call_rt (fn := f4) rfl rfl ?_
  show evSs (C W (k + 2)) G62 W f4.body [some (.str (wt d)), none, none, none, none] o = _
  unfold f4
  have c := cntD_le d hw
  obtain ⟨a', b', e⟩ := rw_word (k := k) (o := o) hW (t := wt d) (by omega) d 0 [] [] none none [] (W - cntD d) hw (by simp) (.inr rfl) (by simp; omega) (by simp)
  rw [Nat.sub_add_cancel (by omega), Nat.zero_add, List.nil_append] at e
  have stop : rwGo W k (W - cntD d) (St4 (wt d) (wt d).length [] [d] a' b') o = .ok (.nx (St4 (wt d) (wt d).length [] [d] a' b')) o := by
    obtain ⟨n, hn⟩ : ∃ n, W - cntD d = n + 1 := ⟨W - cntD d - 1, by omega⟩
    rw [hn]
    refine wh_stop ?_
    rw [rw_test, b_ok, t_bl]
    simp
  refine (s_par' (ds := [.int ((0 : Nat) : Int), .lst [.lst []]]) (o1 := o) (env1 := St4 (wt d) 0 [] [] none none) (by simp only [ev_es, ev_es0, ev_nn, ev_con, b_ok]; rfl) rfl).trans ?_
  refine (s_whlN (e.trans stop)).trans ?_
  refine (s_ifN (d := .bl false) (o1 := o) ?_ rfl).trans (s_ret' ?_)
  · simp only [ev_or, ev_cmp, ev_bi, ev_es, ev_es0, ev_v2, ev_v1, ev_v0, ev_con, b_ok, len_lst, len_str, r_of_some, gt_int, lt_int, Option.map_some, t_bl, ev_not, ev_ix, List.nil_append, ix_lst0, t_lst]
    simp
  · simp only [ev_ix, ev_v2, ev_con, b_ok, List.nil_append, ix_lst0, r_of_some]
theorem ge_int {i j : Int} : cmpD .ge (.int i) (.int j) = some (decide (j ≤ i)) := ord_int (.inr (.inr (.inr rfl)))
theorem isi_int {t : Nat} {i : Int} : isiD t (.int i) = (t == 0) := id rfl
theorem c13 {i l : Int} : C W (k + 1) 13 [.int i, .int l] o = .ok (.bl (decide (l ≤ i))) o := by
  refine call_rt (fn := f13) rfl rfl ?_
  show evSs (C W k) G62 W f13.body [some (.int i), some (.int l)] o = _
  unfold f13
  refine s_ret' ?_
  simp only [ev_and, ev_isi, ev_v0, b_ok, isi_int, t_bl, ev_not, ev_cmp, ev_v1, ge_int, Option.map_some, r_of_some]
  rfl
/-- what is kept on a shelf -/
structure Kept (w : D) : Prop where
  form : ∃ (e n j : Int) (a : List Nat) (s m : D), w = keptD (.int e) (.int n) (.tup [.str a, .int j]) s m ∧ 0 ≤ e ∧ 1 ≤ n ∧ 0 ≤ j ∧ (m = .non ∨ ∃ z : Int, m = .int z ∧ 0 ≤ z)
  ok : wOk w = true
  dp : depth w ≤ 8
  len : (wt w).length < 800
theorem isi_tup {t : Nat} {l : List D} : isiD t (.tup l) = (t == 3) := id rfl
theorem isi_str {t : Nat} {l : List Nat} : isiD t (.str l) = (t == 2) := id rfl
theorem ix0 {a : D} {r : List D} : ixD (.tup (a :: r)) (.int 0) = some a := by show at? _ 0 = _; simp [at?]
theorem ix1 {a b : D} {r : List D} : ixD (.tup (a :: b :: r)) (.int 1) = some b := by show at? _ 1 = _; simp [at?]
theorem ix2 {a b c : D} {r : List D} : ixD (.tup (a :: b :: c :: r)) (.int 2) = some c := by show at? _ 2 = _; simp [at?]
theorem ix4 {a b c d e : D} {r : List D} : ixD (.tup (a :: b :: c :: d :: e :: r)) (.int 4) = some e := by show at? _ 4 = _; simp [at?]
theorem ne_int {i j : Int} : cmpD .ne (.int i) (.int j) = some (!(i == j)) := by
  show (if cmpOk (.int i) (.int j) then some (!eqD (.int i) (.int j)) else none) = _
  rw [if_pos (by simp [cmpOk, pure, depth])]
  simp [eqD]
theorem c14 {w : D} (h : Kept w) : C W (k + 2) 14 [w] o = .ok (.bl true) o := by
  obtain ⟨e, n, j, a, s, m, rfl, h1, h2, h3, h4⟩ := h.form
  refine call_rt (fn := f14) rfl rfl ?_
  show evSs (C W (k + 1)) G62 W f14.body [some (keptD (.int e) (.int n) (.tup [.str a, .int j]) s m), none, none] o = _
  unfold f14
  refine (s_ifN (d := .bl false) (o1 := o) ?_ rfl).trans ?_
  · simp only [ev_or, ev_not, ev_isi, ev_v0, b_ok, isi_tup, t_bl, ev_cmp, ev_bi, ev_es, ev_es0, len_tup, r_of_some, ev_con, ne_int, Option.map_some, ev_call, ev_ix, ix0, ix1, c13]
    simp [h1, h2]
  refine (s_par' (ds := [.tup [.str a, .int j], m]) (o1 := o) (env1 := [some (keptD (.int e) (.int n) (.tup [.str a, .int j]) s m), some (.tup [.str a, .int j]), some m]) ?_ rfl).trans ?_
  · simp only [ev_es, ev_es0, ev_ix, ev_v0, ev_con, b_ok, ix2, ix4, r_of_some]
  refine (s_ifN (d := .bl false) (o1 := o) ?_ rfl).trans (s_ret' ?_)
  · simp only [ev_or, ev_not, ev_isi, ev_v1, b_ok, isi_tup, t_bl, ev_cmp, ev_bi, ev_es, ev_es0, len_tup, r_of_some, ev_con, ne_int, Option.map_some, ev_call, ev_ix, ix0, ix1, c13, isi_str]
    simp [h3]
  · rcases h4 with rfl | ⟨z, rfl, hz⟩
    · simp only [ev_or, ev_cmp, ev_v2, ev_con, b_ok]
      rfl
    · simp only [ev_or, ev_cmp, ev_v2, ev_con, b_ok, ev_call, ev_es, ev_es0, c13]
      have : cmpD .is (.int z) .non = some false := rfl
      simp only [this, Option.map_some, r_of_some, b_ok, t_bl]
      simp [hz]
theorem en_tup {l : List D} : tupD (.tup l) = some l := id rfl
abbrev koB : Sts := .cons (.tryR (.nm 4) (.call 4 (.cons (.var 3) .nil)) 1 (.cons (.asg (.nm 4) (.con .non)) .nil)) (.cons (.iff (.not (.call 14 (.cons (.var 4) .nil))) (.cons (.rai 2 (.var 2)) .nil) (.nil)) (.cons (.app 1 (.var 4)) .nil))
theorem ko_loop (hW : 10000000 ≤ W) {t : D} : ∀ (ws : List D) (i : Nat) (acc : List D) (a b c : Option D), (∀ w ∈ ws, Kept w) → acc.length + ws.length < 100000 → ∃ a' b' c', frGo (fun d env o => (R.of (asgT (.tup (.cons (.nm 2) (.cons (.nm 3) .nil))) d env) o).bind fun env1 o1 => evSs (C W (k + 4)) G62 W koB env1 o1) (((ws.map wt).map .str).zipIdx i |>.map fun p => .tup [.int p.2, p.1]) [some t, some (.lst acc), a, b, c] o = .ok (.nx [some t, some (.lst (acc ++ ws)), a', b', c']) o
  | [], i, acc, a, b, c, h, hl => ⟨a, b, c, by simp [frGo]⟩
  | w :: ws, i, acc, a, b, c, h, hl => by
    rw [List.length_cons] at hl
    have kw := h w List.mem_cons_self
    obtain ⟨a', b', c', e⟩ := ko_loop hW (t := t) ws (i + 1) (acc ++ [w]) (some (.int (i : Int))) (some (.str (wt w))) (some w) (fun x hx => h x (List.mem_cons_of_mem _ hx)) (by simp; omega)
    refine ⟨a', b', c', ?_⟩
    have lidE : lid = 16777216 := rfl
    simp only [List.map_cons, List.zipIdx_cons]
    refine (frGo_cons ((for_body (env1 := [some t, some (.lst acc), some (.int (i : Int)), some (.str (wt w)), c]) rfl).trans ?_)).trans (e.trans (by simp))
    have r := c4 (W := W) (k := k + 1) (o := o) hW kw.ok kw.len
    have q := c14 (W := W) (k := k + 2) (o := o) kw
    refine (tryO (env1 := [some t, some (.lst acc), some (.int (i : Int)), some (.str (wt w)), some w]) (d := w) (o1 := o) ?_ rfl).trans ?_
    · simp only [ev_call, ev_es, ev_es0, ev_v3, b_ok]; exact r
    refine (s_ifN (d := .bl false) (o1 := o) ?_ rfl).trans ?_
    · simp only [ev_not, ev_call, ev_es, ev_es0, ev_v4, b_ok, q, t_bl]; rfl
    exact (s_app' (ds := acc) (d := w) rfl ev_v4 (by omega)).trans rfl
/-- a shelf: the kept words' records, a torn end -/
structure Shelf (ws : List D) (x : List Nat) : Prop where
  kept : ∀ w ∈ ws, Kept w
  rec_ : RecOk (ws.map wt) x
  few : ws.length < 50000
theorem c15 (hW : 10000000 ≤ W) {ws : List D} {x : List Nat} (h : Shelf ws x) : C W (k + 5) 15 [.str (recT (ws.map wt) ++ x)] o = .ok (.lst ws) o := by
  refine call_rt (fn := f15) rfl rfl ?_
  show evSs (C W (k + 4)) G62 W f15.body [some (.str (recT (ws.map wt) ++ x)), none, none, none, none] o = _
  unfold f15
  refine (s_asg' (d := .lst []) (o1 := o) (by simp only [ev_lst, ev_es0, b_ok])).trans ?_
  have e9 := c9 (k := k) (o := o) hW h.rec_
  have := h.few
  obtain ⟨a', b', c', e⟩ := ko_loop (k := k) (o := o) hW (t := .str (recT (ws.map wt) ++ x)) ws 0 [] none none none h.kept (by simp; omega)
  refine (s_for' (ds := (((ws.map wt).map .str).zipIdx 0 |>.map fun p => .tup [.int p.2, p.1])) (o1 := o) ?_ e).trans (s_ret' (by rw [List.nil_append]; exact ev_v1))
  show evI (C W (k + 4)) G62 _ [some (.str (recT (ws.map wt) ++ x)), some (.lst []), none, none, none] o = _
  simp only [ev_ien, ev_ix, ev_call, ev_es, ev_es0, ev_v0, b_ok, e9, ev_con, ix0, r_of_some, en_tup]
end O.K62
end

section
set_option Elab.async false
set_option linter.all false
set_option maxRecDepth 100000
/-! OR: how long a repr may be. -/
namespace O
open PySem
def pil (ts : List PySem.Str) : Nat := (ts.map fun t => t.length + 2).sum
theorem textFrom_le : ∀ (ts : List PySem.Str) (k : Nat) (acc : PySem.Str), (textFrom k acc ts).length ≤ acc.length + pil ts
  | [], k, acc => by show acc.length ≤ acc.length + 0; omega
  | t :: r, k, acc => by
    have ih := textFrom_le r (k + 1) (acc ++ (if k > 0 then ", " else "" : String) ++ t)
    have e : (acc ++ (if k > 0 then ", " else "" : String) ++ t).length = acc.length + (if k > 0 then 2 else 0) + t.length := by
      rw [strLen_append, strLen_append]
      split <;> rfl
    rw [e] at ih
    have e2 : pil (t :: r) = t.length + 2 + pil r := by simp [pil]
    show (textFrom (k + 1) (acc ++ (if k > 0 then ", " else "" : String) ++ t) r).length ≤ _
    have hle : (if k > 0 then 2 else 0) ≤ 2 := by split <;> omega
    omega
theorem listText_le (ts : List PySem.Str) : (listText ts).length ≤ pil ts + 2 := by
  unfold listText
  rw [strLen_append]
  have := textFrom_le ts 0 "["
  have e1 : ((("[" : String)) : PySem.Str).length = 1 := rfl
  have e2 : ((("]" : String)) : PySem.Str).length = 1 := rfl
  omega
theorem join_le : ∀ ts : List PySem.Str, (PySem.Str.join ", " ts).length ≤ pil ts
  | [] => by show 0 ≤ _; omega
  | [x] => by show x.length ≤ _; simp [pil]
  | x :: y :: r => by
    have ih := join_le (y :: r)
    show (x ++ ", " ++ PySem.Str.join ", " (y :: r)).length ≤ _
    rw [strLen_append, strLen_append]
    have e2 : (((", " : String)) : PySem.Str).length = 2 := rfl
    have e3 : pil (x :: y :: r) = x.length + 2 + pil (y :: r) := by simp [pil]
    omega
theorem tupleText_le (ts : List PySem.Str) : (tupleText ts).length ≤ pil ts + 3 := by
  unfold tupleText
  rw [strLen_append, strLen_append]
  have := join_le ts
  have e1 : ((("(" : String)) : PySem.Str).length = 1 := rfl
  have e2 : ((if ts.length == 1 then ",)" else ")" : String) : PySem.Str).length ≤ 2 := by split <;> decide
  omega
mutual
/-- a bound -/
def rl : D → Nat
  | .non => 4
  | .bl _ => 5
  | .int i => (numT i).length
  | .str s => 10 * s.length + 2
  | .tup ds => rlL ds + 3
  | .lst ds => rlL ds + 2
  | _ => 0
def rlL : List D → Nat
  | [] => 0
  | d :: ds => rl d + 2 + rlL ds
end
mutual
/-- texts within are of proper signs -/
def sgn : D → Bool
  | .non | .bl _ | .int _ => true
  | .str s => s.all fun c => decide (c < 1000000)
  | .tup ds | .lst ds => sgnL ds
  | _ => false
def sgnL : List D → Bool
  | [] => true
  | d :: ds => sgn d && sgnL ds
end
theorem num_len (i : Int) : (PySem.Str.ofString (toString i)).length = (numT i).length := by
  rw [PySem.Str.ofString_eq_toList]
  simp [numT, PySem.Str.length]
mutual
theorem repr_le : ∀ d : D, sgn d = true → (toPy d).shown.length ≤ rl d
  | .non, _ => by simp only [toPy, PyData.shown, rl]; decide
  | .bl b, _ => by cases b <;> (simp only [toPy, PyData.shown, rl]; decide)
  | .int i, _ => by
    simp only [toPy, PyData.shown, rl]
    exact Nat.le_of_eq (num_len i)
  | .str s, h => by
    simp only [sgn, List.all_eq_true, decide_eq_true_eq] at h
    simp only [toPy, PyData.shown, rl]
    have := StrLaws.reprText_len ⟨s.toArray⟩ (fun c hc => Nat.lt_trans (h c (by simpa using hc)) (by decide))
    simpa [PySem.Str.length] using this
  | .tup ds, h => by
    simp only [toPy, PyData.shown, rl]
    have h1 := tupleText_le (PyData.shownAll (toPyL ds))
    have h2 := reprL_le ds (by simpa [sgn] using h)
    omega
  | .lst ds, h => by
    simp only [toPy, PyData.shown, rl]
    have h1 := listText_le (PyData.shownAll (toPyL ds))
    have h2 := reprL_le ds (by simpa [sgn] using h)
    omega
  | .dct _, h => by simp [sgn] at h
  | .set _, h => by simp [sgn] at h
  | .fn _ _, h => by simp [sgn] at h
  | .src, h => by simp [sgn] at h
theorem reprL_le : ∀ ds : List D, sgnL ds = true → pil (PyData.shownAll (toPyL ds)) ≤ rlL ds
  | [], _ => by simp [toPyL, PyData.shownAll, pil, rlL]
  | d :: ds, h => by
    simp only [sgnL, Bool.and_eq_true] at h
    have h1 := repr_le d h.1
    have h2 := reprL_le ds h.2
    simp only [toPyL, PyData.shownAll, pil, rlL, List.map_cons, List.sum_cons] at *
    omega
end
mutual
/-- numbers within are small -/
def sml : D → Bool
  | .int i => decide (i.natAbs < 1000000)
  | .tup ds | .lst ds => smlL ds
  | _ => true
def smlL : List D → Bool
  | [] => true
  | d :: ds => sml d && smlL ds
end
mutual
theorem showable_of : ∀ d : D, sgn d = true → sml d = true → (toPy d).showable = true ∧ pure d = true
  | .non, _, _ => ⟨rfl, rfl⟩
  | .bl b, _, _ => ⟨rfl, rfl⟩
  | .int i, _, h => by
    simp only [sml, decide_eq_true_eq] at h
    refine ⟨?_, rfl⟩
    simp only [toPy, PyData.showable, decide_eq_true_eq]
    by_cases z : i.natAbs = 0
    · rw [z]; decide
    · exact Nat.lt_of_lt_of_le ((Nat.log2_lt (k := 64) z).mpr (by omega)) (by decide)
  | .str s, _, _ => ⟨rfl, rfl⟩
  | .tup ds, h, g => by
    obtain ⟨a, b⟩ := showableL_of ds (by simpa [sgn] using h) (by simpa [sml] using g)
    exact ⟨by simpa [toPy, PyData.showable] using a, by simpa [pure] using b⟩
  | .lst ds, h, g => by
    obtain ⟨a, b⟩ := showableL_of ds (by simpa [sgn] using h) (by simpa [sml] using g)
    exact ⟨by simpa [toPy, PyData.showable] using a, by simpa [pure] using b⟩
  | .dct _, h, _ => by simp [sgn] at h
  | .set _, h, _ => by simp [sgn] at h
  | .fn _ _, h, _ => by simp [sgn] at h
  | .src, h, _ => by simp [sgn] at h
theorem showableL_of : ∀ ds : List D, sgnL ds = true → smlL ds = true → PyData.showableAll (toPyL ds) = true ∧ pureL ds = true
  | [], _, _ => ⟨rfl, rfl⟩
  | d :: ds, h, g => by
    simp only [sgnL, Bool.and_eq_true] at h
    simp only [smlL, Bool.and_eq_true] at g
    obtain ⟨a, b⟩ := showable_of d h.1 g.1
    obtain ⟨a', b'⟩ := showableL_of ds h.2 g.2
    exact ⟨by simp [toPyL, PyData.showableAll, a, a'], by simp [pureL, b, b']⟩
end
/-- repr tells something -/
theorem repr_some {d : D} (h : sgn d = true) (g : sml d = true) (dp : depth d ≤ 60) (hl : rl d < 16000000) : biD .repr [d] = some (.str (reprT d)) := by
  show (if pure d && (toPy d).showable && decide (depth d ≤ 60) && decide ((reprT d).length + 64 ≤ lid) then some (D.str (reprT d)) else none) = _
  obtain ⟨a, b⟩ := showable_of d h g
  have := repr_le d h
  have e : (reprT d).length = (toPy d).shown.length := by simp [reprT, PySem.Str.length]
  have lidE : lid = 16777216 := rfl
  exact if_pos (by simp only [a, b, Bool.true_and, Bool.and_eq_true, decide_eq_true_eq]; exact ⟨dp, by omega⟩)
end O
end

section
set_option Elab.async false
set_option linter.all false
set_option maxRecDepth 100000
set_option maxHeartbeats 4000000
/-! OMm: what a shelf tells. -/
namespace O.K62
open PySem O
variable {W k : Nat} {o : OS}
structure Kw where
  e : Int
  n : Int
  a : List Nat
  j : Int
  s : D
  m : D
def Kw.tk (w : Kw) : D := .tup [.str w.a, .int w.j]
def Kw.d (w : Kw) : D := keptD (.int w.e) (.int w.n) w.tk w.s w.m
def Kw.p2 (w : Kw) : D := .tup [.int w.e, .int w.n]
def Kw.p3 (w : Kw) : D := .tup [.int w.e, .int w.n, w.tk]
def Kw.q (w : Kw) : D := .tup [w.s, w.m]
def taskA : D := .tup [.str [97], .int 0]
def taskB : D := .tup [.str [98], .int 1]
def taskC : D := .tup [.str [98], .int 0]
def tasks : List D := [taskA, taskB, taskC]
/-- a word as the law draws it -/
structure KOk (w : Kw) : Prop where
  e : w.e = 0 ∨ w.e = 1
  n : w.n = 1 ∨ w.n = 2
  t : w.tk ∈ tasks
  j : 0 ≤ w.j
  m : w.m = .non ∨ w.m = .int 4
  ok : wOk w.d = true
  dp : depth w.d ≤ 8
  len : (wt w.d).length < 800
theorem KOk.kept {w : Kw} (h : KOk w) : Kept w.d := by
  refine ⟨⟨w.e, w.n, w.j, w.a, w.s, w.m, rfl, ?_, ?_, h.j, ?_⟩, h.ok, h.dp, h.len⟩
  · rcases h.e with e | e <;> omega
  · rcases h.n with e | e <;> omega
  · rcases h.m with e | e
    · exact .inl e
    · exact .inr ⟨4, e, by decide⟩
/-- the shelf of these words -/
structure Sh (ws : List Kw) (x : List Nat) : Prop where
  ok : ∀ w ∈ ws, KOk w
  torn : Torn x
  xl : x.length < 2000
  few : ws.length ≤ 40
def shT (ws : List Kw) (x : List Nat) : List Nat := recT (ws.map fun w => wt w.d) ++ x
theorem recT_bound {ts : List (List Nat)} {b : Nat} (hb : b < 80000) (h : ∀ t ∈ ts, t.length < b) : (recT ts).length ≤ ts.length * (b + 11) := by
  induction ts with
  | nil => simp [recT]
  | cons t ts ih =>
    rw [recT_cons, List.length_append, List.length_cons, Nat.succ_mul]
    have h1 := (sealT_len t (by have := h t List.mem_cons_self; omega)).1
    have h2 := h t List.mem_cons_self
    have := ih fun u hu => h u (List.mem_cons_of_mem _ hu)
    omega
mutual
theorem wt_prn : ∀ d : D, wOk d = true → ∀ c ∈ wt d, prn c = true
  | .non, _, c, h => by simp [wt] at h; subst h; rfl
  | .bl b, _, c, h => by cases b <;> (simp [wt] at h; subst h; rfl)
  | .int i, _, c, h => by
    simp only [wt, List.mem_cons, List.mem_append, List.not_mem_nil, or_false] at h
    rcases h with rfl | h | rfl
    · rfl
    · have : c = 45 ∨ (48 ≤ c ∧ c ≤ 57) := by
        by_cases hi : 0 ≤ i
        · rw [numT_of_nonneg hi] at h
          exact .inr (dig_all _ c h)
        · obtain ⟨n, rfl⟩ : ∃ n : Nat, i = -((n + 1 : Nat) : Int) := ⟨i.natAbs - 1, by omega⟩
          rw [numT_neg] at h
          rcases List.mem_cons.mp h with h | h
          · exact .inl h
          · exact .inr (dig_all _ c h)
      simp only [prn, Bool.and_eq_true, decide_eq_true_eq]; omega
    · rfl
  | .str s, hw, c, h => by
    simp only [wOk, Bool.and_eq_true, decide_eq_true_eq, List.all_eq_true] at hw
    simp only [wt, List.mem_cons, List.mem_append] at h
    rcases h with rfl | h | rfl | h
    · rfl
    · have := dig_all _ c h
      simp only [prn, Bool.and_eq_true, decide_eq_true_eq]; omega
    · rfl
    · have := hw.2 c h
      simp only [prn, Bool.and_eq_true, decide_eq_true_eq]; omega
  | .tup ds, hw, c, h => by
    simp only [wt, List.mem_cons, List.mem_append, List.not_mem_nil, or_false] at h
    rcases h with rfl | h | rfl
    · rfl
    · exact wtL_prn ds (by simpa [wOk] using hw) c h
    · rfl
  | .dct _, h, _, _ => by simp [wOk] at h
  | .lst _, h, _, _ => by simp [wOk] at h
  | .set _, h, _, _ => by simp [wOk] at h
  | .fn _ _, h, _, _ => by simp [wOk] at h
  | .src, h, _, _ => by simp [wOk] at h
theorem wtL_prn : ∀ ds : List D, wOkL ds = true → ∀ c ∈ wtL ds, prn c = true
  | [], _, c, h => by simp [wtL] at h
  | d :: ds, hw, c, h => by
    simp only [wOkL, Bool.and_eq_true] at hw
    simp only [wtL, List.mem_append] at h
    exact h.elim (wt_prn d hw.1 c) (wtL_prn ds hw.2 c)
end
theorem map_wt (ws : List Kw) : (ws.map Kw.d).map wt = ws.map fun w => wt w.d := by rw [List.map_map]; rfl
theorem Sh.shelf {ws : List Kw} {x : List Nat} (h : Sh ws x) : Shelf (ws.map Kw.d) x := by
  refine ⟨fun w hw => ?_, ?_, by rw [List.length_map]; have := h.few; omega⟩
  · obtain ⟨v, hv, rfl⟩ := List.mem_map.mp hw
    exact (h.ok v hv).kept
  · rw [map_wt]
    have b : ∀ t ∈ ws.map (fun w => wt w.d), t.length < 800 := fun t ht => by
      obtain ⟨v, hv, rfl⟩ := List.mem_map.mp ht
      exact (h.ok v hv).len
    refine ⟨fun t ht => Nat.lt_trans (b t ht) (by decide), fun t ht => ?_, h.torn, ?_⟩
    · obtain ⟨v, hv, rfl⟩ := List.mem_map.mp ht
      exact wt_prn _ (h.ok v hv).ok
    · have := recT_bound (b := 800) (by decide) b
      have h2 := h.few
      have h3 := h.xl
      rw [List.length_map] at this
      rw [List.length_append]
      omega
theorem kept_at (hW : 10000000 ≤ W) {ws : List Kw} {x : List Nat} (h : Sh ws x) : C W (k + 5) 15 [.str (shT ws x)] o = .ok (.lst (ws.map Kw.d)) o := by
  have := c15 (k := k) (o := o) hW h.shelf
  rw [map_wt] at this
  exact this
theorem mended_at (hW : 10000000 ≤ W) {ws : List Kw} {x : List Nat} (h : Sh ws x) : C W (k + 5) 11 [.str (shT ws x)] o = .ok (.str (recT (ws.map fun w => wt w.d))) o := by
  have := c11 (k := k) (o := o) hW h.shelf.rec_
  rw [map_wt] at this
  exact this
theorem torn_nil : Torn [] := ⟨[65], 0, by simp, by simp, by simp [prn], by decide +kernel, rfl⟩
/-! ### on_shelf -/
theorem eq_pure {x y : D} (h1 : pure x = true) (h2 : pure y = true) (h3 : depth x ≤ 60) : cmpD .eq x y = some (eqD x y) := by
  show (if cmpOk x y then some (eqD x y) else none) = _
  rw [if_pos (by simp [cmpOk, h1, h2, h3])]
def k3 (w : Kw) (e n : Int) (t : D) : Bool := eqD w.p3 (.tup [.int e, .int n, t])
def k2 (w : Kw) (e n : Int) : Bool := eqD w.p2 (.tup [.int e, .int n])
theorem p3_cut (w : Kw) : cutD w.d none (some 3) = some w.p3 := rfl
theorem p2_cut (w : Kw) : cutD w.d none (some 2) = some w.p2 := rfl
theorem q_cut (w : Kw) : cutD w.d (some 3) none = some w.q := rfl
theorem eq3 {w : Kw} {e n : Int} {t : D} (ht : pure t = true) : cmpD .eq w.p3 (.tup [.int e, .int n, t]) = some (k3 w e n t) := eq_pure (by simp [Kw.p3, Kw.tk, pure, pureL]) (by simp [pure, pureL, ht]) (by simp [Kw.p3, Kw.tk, depth, depthL])
theorem eq2 {w : Kw} {e n : Int} : cmpD .eq w.p2 (.tup [.int e, .int n]) = some (k2 w e n) := eq_pure (by simp [Kw.p2, pure, pureL]) (by simp [pure, pureL]) (by simp [Kw.p2, depth, depthL])
theorem bnd3 : bnd (.int 3) = some 3 := bnd_int (by decide)
theorem bnd2 : bnd (.int 2) = some 2 := bnd_int (by decide)
theorem items_lst {l : List D} : itemsD (.lst l) = some l := id rfl
/-- the first of these -/
def onSh (ws : List Kw) (e n : Int) (t : D) : D := match ws.find? (fun w => k3 w e n t) with | some w => w.q | none => .non
theorem c16 (hW : 10000000 ≤ W) {ws : List Kw} {x : List Nat} (h : Sh ws x) {e n : Int} {t : D} (ht : pure t = true) : C W (k + 6) 16 [.str (shT ws x), .int e, .int n, t] o = .ok (onSh ws e n t) o := by
  refine call_rt (fn := f16) rfl rfl ?_
  show evSs (C W (k + 5)) G62 W f16.body [some (.str (shT ws x)), some (.int e), some (.int n), some t, none] o = _
  unfold f16
  have kp := kept_at (k := k) (o := o) hW h
  have loop : ∀ (vs : List Kw) (y : Option D), ∃ y', frGo (fun d env o => (R.of (asgT (.nm 4) d env) o).bind fun env1 o1 => evSs (C W (k + 5)) G62 W (.cons (.iff (.cmp .eq (.shi (.var 4) (.con (.int 3))) (.tup (.cons (.var 1) (.cons (.var 2) (.cons (.var 3) .nil))))) (.cons (.ret (.slo (.var 4) (.con (.int 3)))) .nil) (.nil)) .nil) env1 o1) (vs.map Kw.d) [some (.str (shT ws x)), some (.int e), some (.int n), some t, y] o
      = .ok (match vs.find? (fun w => k3 w e n t) with | some w => .rt w.q | none => .nx [some (.str (shT ws x)), some (.int e), some (.int n), some t, y']) o := by
    intro vs
    induction vs with
    | nil => intro y; exact ⟨y, rfl⟩
    | cons w vs ih =>
      intro y
      have c : evE (C W (k + 5)) G62 (.cmp .eq (.shi (.var 4) (.con (.int 3))) (.tup (.cons (.var 1) (.cons (.var 2) (.cons (.var 3) .nil))))) [some (.str (shT ws x)), some (.int e), some (.int n), some t, some w.d] o = .ok (.bl (k3 w e n t)) o := by
        simp only [ev_cmp, ev_shi, ev_v4, ev_con, b_ok, bnd3, r_of_some, p3_cut, ev_tup, ev_es, ev_es0, ev_v1, ev_v2, ev_v3, eq3 ht, Option.map_some]
      rw [List.map_cons, List.find?_cons]
      cases hk : k3 w e n t with
      | true =>
        rw [hk] at c
        refine ⟨none, frGo_rt ((for_body (env1 := [some (.str (shT ws x)), some (.int e), some (.int n), some t, some w.d]) rfl).trans (s_ifR c rfl (s_ret' ?_)))⟩
        simp only [ev_slo, ev_v4, ev_con, b_ok, bnd3, r_of_some, q_cut]
      | false =>
        rw [hk] at c
        obtain ⟨y', e'⟩ := ih (some w.d)
        exact ⟨y', (frGo_cons ((for_body (env1 := [some (.str (shT ws x)), some (.int e), some (.int n), some t, some w.d]) rfl).trans ((s_ifN c rfl).trans rfl))).trans e'⟩
  obtain ⟨y', e'⟩ := loop ws none
  refine (s_forX (ds := ws.map Kw.d) (o1 := o) ?_ e').trans ?_
  · simp only [ev_ie, ev_call, ev_es, ev_es0, ev_v0, b_ok, kp, items_lst, r_of_some]
  · unfold onSh
    cases ws.find? (fun w => k3 w e n t) with
    | some w => rfl
    | none =>
      show evSs (C W (k + 5)) G62 W (.cons (.ret (.con .non)) .nil) [some (.str (shT ws x)), some (.int e), some (.int n), some t, y'] o = _
      exact s_ret' ev_con
end O.K62
end

section
set_option Elab.async false
set_option linter.all false
set_option maxRecDepth 100000
set_option maxHeartbeats 4000000
/-! OMn: tasks_on, is_whole, numbers_on, cleared. -/
namespace O.K62
open PySem O
variable {W k : Nat} {o : OS}
theorem lcGo_fk {α : Type} {step : D → OS → R (Option D)} {g : α → D} {f : α → Option D} : ∀ {ds : List α} {acc : List D} {o : OS}, (∀ d ∈ ds, step (g d) o = .ok (f d) o) → acc.length + ds.length ≤ lid → lcGo step (ds.map g) acc o = .ok (acc ++ ds.filterMap f) o
  | [], acc, o, _, _ => by simp [lcGo]
  | d :: ds, acc, o, h, hl => by
    rw [List.length_cons] at hl
    rw [List.map_cons]
    unfold lcGo
    rw [h d List.mem_cons_self]
    simp only [b_ok]
    cases hf : f d with
    | none =>
      simp only [List.filterMap_cons, hf]
      exact lcGo_fk (fun x hx => h x (List.mem_cons_of_mem _ hx)) (by omega)
    | some y =>
      simp only [List.filterMap_cons, hf]
      rw [if_pos (by omega), lcGo_fk (fun x hx => h x (List.mem_cons_of_mem _ hx)) (by rw [List.length_append]; simp; omega)]
      simp
theorem scGo_fk {α : Type} {step : D → OS → R (Option D)} {g : α → D} {f : α → Option D} : ∀ {ds : List α} {acc : List D} {o : OS}, (∀ d ∈ ds, step (g d) o = .ok (f d) o) → (∀ d ∈ ds, ∀ y, f d = some y → keyOk y = true) → acc.length + ds.length ≤ 62 → scGo step (ds.map g) acc o = .ok (acc ++ ds.filterMap f) o
  | [], acc, o, _, _, _ => by simp [scGo]
  | d :: ds, acc, o, h, hk, hl => by
    rw [List.length_cons] at hl
    rw [List.map_cons]
    unfold scGo
    rw [h d List.mem_cons_self]
    simp only [b_ok]
    cases hf : f d with
    | none =>
      simp only [List.filterMap_cons, hf]
      exact scGo_fk (fun x hx => h x (List.mem_cons_of_mem _ hx)) (fun x hx => hk x (List.mem_cons_of_mem _ hx)) (by omega)
    | some y =>
      simp only [List.filterMap_cons, hf]
      rw [if_pos (by rw [Bool.and_eq_true, decide_eq_true_eq]; exact ⟨by omega, hk d List.mem_cons_self y hf⟩), scGo_fk (fun x hx => h x (List.mem_cons_of_mem _ hx)) (fun x hx => hk x (List.mem_cons_of_mem _ hx)) (by rw [List.length_append]; simp; omega)]
      simp
def srt (ds : List D) : List D := (dedup ds).mergeSort leD
theorem canon_some {ds : List D} (h1 : ds.length < 64) (h2 : ∀ d ∈ ds, keyOk d = true) (h3 : alikeL ds = true) : canon ds = some (srt ds) := by
  unfold canon
  rw [if_pos (by simp only [Bool.and_eq_true, decide_eq_true_eq, List.all_eq_true]; exact ⟨⟨h1, h2⟩, h3⟩)]
  rfl
theorem pureL_of : ∀ {ds : List D}, (∀ d ∈ ds, pure d = true) → pureL ds = true
  | [], _ => rfl
  | d :: ds, h => by
    simp only [pureL, Bool.and_eq_true]
    exact ⟨h d List.mem_cons_self, pureL_of fun x hx => h x (List.mem_cons_of_mem _ hx)⟩
theorem depthL_of {n : Nat} : ∀ {ds : List D}, (∀ d ∈ ds, depth d ≤ n) → depthL ds ≤ n
  | [], _ => Nat.zero_le _
  | d :: ds, h => by
    simp only [depthL]
    exact Nat.max_le.mpr ⟨h d List.mem_cons_self, depthL_of fun x hx => h x (List.mem_cons_of_mem _ hx)⟩
theorem alikeL_of {ds : List D} (h1 : ∀ x ∈ ds, ∀ y ∈ ds, PySem.W.alike (toPy x) (toPy y) = true) (h2 : ∀ x ∈ ds, isCons x = true) (h3 : ∀ x ∈ ds, pure x = true) (h4 : ∀ x ∈ ds, depth x ≤ 60) (h5 : ds.length ≤ lid) : alikeL ds = true := by
  unfold alikeL
  simp only [Bool.and_eq_true, Bool.or_eq_true, decide_eq_true_eq, List.all_eq_true]
  exact ⟨⟨⟨⟨h1, .inl h2⟩, pureL_of h3⟩, depthL_of h4⟩, h5⟩
theorem tk_fact : ∀ t ∈ tasks, keyOk t = true ∧ isCons t = true ∧ pure t = true ∧ depth t ≤ 8 ∧ keyF t = true := by
  intro t h
  simp only [tasks, List.mem_cons, List.not_mem_nil, or_false] at h
  rcases h with rfl | rfl | rfl <;> simp [taskA, taskB, taskC, keyOk, isCons, keyF, keyFL, pure, pureL, depth, depthL]
theorem tk_alike : ∀ x ∈ tasks, ∀ y ∈ tasks, PySem.W.alike (toPy x) (toPy y) = true := by
  intro x hx y hy
  simp only [tasks, List.mem_cons, List.not_mem_nil, or_false] at hx hy
  rcases hx with rfl | rfl | rfl <;> rcases hy with rfl | rfl | rfl <;> simp [taskA, taskB, taskC, toPy, toPyL, PySem.W.alike, PySem.W.alikeAll]
theorem tk_list {ds : List D} (h : ∀ d ∈ ds, d ∈ tasks) (hl : ds.length ≤ lid) : alikeL ds = true :=
  alikeL_of (fun x hx y hy => tk_alike x (h x hx) y (h y hy)) (fun x hx => (tk_fact x (h x hx)).2.1) (fun x hx => (tk_fact x (h x hx)).2.2.1) (fun x hx => Nat.le_trans (tk_fact x (h x hx)).2.2.2.1 (by decide)) hl
/-- the tasks that have put down -/
def tks (ws : List Kw) (e n : Int) : List D := ws.filterMap fun w => if k2 w e n then some w.tk else none
theorem tks_mem {ws : List Kw} {x : List Nat} (h : Sh ws x) {e n : Int} : ∀ d ∈ tks ws e n, d ∈ tasks := by
  intro d hd
  obtain ⟨w, hw, q⟩ := List.mem_filterMap.mp hd
  split at q
  · cases q
    exact (h.ok w hw).t
  · cases q
theorem tks_len {ws : List Kw} {e n : Int} : (tks ws e n).length ≤ ws.length := List.length_filterMap_le _ _
theorem c17 (hW : 10000000 ≤ W) {ws : List Kw} {x : List Nat} (h : Sh ws x) {e n : Int} : C W (k + 6) 17 [.str (shT ws x), .int e, .int n] o = .ok (.tup (srt (tks ws e n))) o := by
  refine call_rt (fn := f17) rfl rfl ?_
  show evSs (C W (k + 5)) G62 W f17.body [some (.str (shT ws x)), some (.int e), some (.int n), none] o = _
  unfold f17
  have kp := kept_at (k := k) (o := o) hW h
  have few := h.few
  have tl := tks_len (ws := ws) (e := e) (n := n)
  have lidE : lid = 16777216 := rfl
  have e : evE (C W (k + 5)) G62 (.sc [3] (.nm 3) (.e (.call 15 (.cons (.var 0) .nil))) (.cons (.cmp .eq (.shi (.var 3) (.con (.int 2))) (.tup (.cons (.var 1) (.cons (.var 2) .nil)))) .nil) (.ix (.var 3) (.con (.int 2)))) [some (.str (shT ws x)), some (.int e), some (.int n), none] o = .ok (.lst (srt (tks ws e n))) o := by
    refine ev_sc' (ds := ws.map Kw.d) (xs := tks ws e n) (o1 := o) (o2 := o) ?_ ?_ (canon_some (by omega) (fun d hd => (tk_fact d (tks_mem h d hd)).1) (tk_list (tks_mem h) (by omega)))
    · simp only [ev_ie, ev_call, ev_es, ev_es0, ev_v0, b_ok, kp, items_lst, r_of_some]
    · have := scGo_fk (step := turn (C W (k + 5)) G62 [3] (.nm 3) (.cons (.cmp .eq (.shi (.var 3) (.con (.int 2))) (.tup (.cons (.var 1) (.cons (.var 2) .nil)))) .nil) (.ix (.var 3) (.con (.int 2))) [some (.str (shT ws x)), some (.int e), some (.int n), none]) (g := Kw.d) (f := fun w => if k2 w e n then some w.tk else none) (ds := ws) (acc := []) (o := o) (fun w hw => ?_) (fun w hw y hy => ?_) (by simp; omega)
      · exact this
      · cases hk : k2 w e n with
        | true =>
          refine turn_y (env' := [some (.str (shT ws x)), some (.int e), some (.int n), some w.d]) (o1 := o) rfl ?_ ?_
          · simp only [ev_c, ev_c0, ev_cmp, ev_shi, ev_v3, ev_v1, ev_v2, ev_con, b_ok, bnd2, r_of_some, p2_cut, ev_tup, ev_es, ev_es0, eq2, Option.map_some, hk, t_bl, if_true]
          · simp only [ev_ix, ev_v3, ev_con, b_ok]
            rfl
        | false =>
          refine turn_n (env' := [some (.str (shT ws x)), some (.int e), some (.int n), some w.d]) (o1 := o) rfl ?_
          simp only [ev_c, ev_c0, ev_cmp, ev_shi, ev_v3, ev_v1, ev_v2, ev_con, b_ok, bnd2, r_of_some, p2_cut, ev_tup, ev_es, ev_es0, eq2, Option.map_some, hk, t_bl, if_false, Bool.false_eq_true]
      · split at hy
        · cases hy
          exact (tk_fact _ (h.ok w hw).t).1
        · cases hy
  refine s_ret' ?_
  simp only [ev_bi, ev_es, ev_es0, b_ok, e, tuple_lst, r_of_some]
theorem perm_srt (ds : List D) : (srt ds).Perm (dedup ds) := List.mergeSort_perm _ _
theorem srt_mem {ds : List D} (h : ∀ d ∈ ds, keyF d = true) : ∀ x, x ∈ srt ds ↔ x ∈ ds := fun x => ((perm_srt ds).mem_iff).trans ((dedup_ok h).2 x)
theorem dedup_len (ds : List D) : (dedup ds).length ≤ ds.length := by
  have : ∀ (ds acc : List D), (ds.foldl (fun acc d => if acc.any (fun e => eqD e d) then acc else acc ++ [d]) acc).length ≤ acc.length + ds.length := by
    intro ds
    induction ds with
    | nil => intro acc; simp
    | cons d ds ih =>
      intro acc
      rw [List.foldl_cons]
      refine Nat.le_trans (ih _) ?_
      rw [List.length_cons]
      split
      · omega
      · simp; omega
  have q := this ds []
  rw [List.length_nil, Nat.zero_add] at q
  exact q
theorem srt_len (ds : List D) : (srt ds).length ≤ ds.length := by
  rw [(perm_srt ds).length_eq]
  exact dedup_len ds
theorem boolsL (l : List Bool) : bools (l.map .bl) = some l := by
  induction l with
  | nil => rfl
  | cons b l ih => simp [bools, ih]
theorem all_lst {l : List Bool} : biD .all [.lst (l.map .bl)] = some (.bl (l.all id)) := by
  show (bools (l.map .bl)).map _ = _
  rw [boolsL]; rfl
/-- are all tasks there -/
def whole (ws : List Kw) (e n : Int) : Bool := tasks.all fun t => (srt (tks ws e n)).any fun y => eqD y t
theorem c18 (hW : 10000000 ≤ W) {ws : List Kw} {x : List Nat} (h : Sh ws x) {e n : Int} : C W (k + 7) 18 [.str (shT ws x), .int e, .int n, .lst tasks] o = .ok (.bl (whole ws e n)) o := by
  refine call_rt (fn := f18) rfl rfl ?_
  show evSs (C W (k + 6)) G62 W f18.body [some (.str (shT ws x)), some (.int e), some (.int n), some (.lst tasks), none, none] o = _
  unfold f18
  have q := c17 (k := k) (o := o) hW h (e := e) (n := n)
  have fk : ∀ d ∈ tks ws e n, keyF d = true := fun d hd => (tk_fact d (tks_mem h d hd)).2.2.2.2
  refine (s_asg' (d := .tup (srt (tks ws e n))) (o1 := o) (by simp only [ev_call, ev_es, ev_es0, ev_v0, ev_v1, ev_v2, b_ok, q])).trans ?_
  refine s_ret' ?_
  show evE (C W (k + 6)) G62 _ [some (.str (shT ws x)), some (.int e), some (.int n), some (.lst tasks), some (.tup (srt (tks ws e n))), none] o = _
  have e : evE (C W (k + 6)) G62 (.lc [5] (.nm 5) (.e (.var 3)) (.nil) (.cmp .inn (.var 5) (.var 4))) [some (.str (shT ws x)), some (.int e), some (.int n), some (.lst tasks), some (.tup (srt (tks ws e n))), none] o = .ok (.lst ((tasks.map fun t => (srt (tks ws e n)).any fun y => eqD y t).map .bl)) o := by
    refine ev_lc' (ds := tasks) (o1 := o) (by simp only [ev_ie, ev_v3, b_ok, items_lst, r_of_some]) ?_
    have := lcGo_map (step := turn (C W (k + 6)) G62 [5] (.nm 5) .nil (.cmp .inn (.var 5) (.var 4)) [some (.str (shT ws x)), some (.int e), some (.int n), some (.lst tasks), some (.tup (srt (tks ws e n))), none]) (f := fun t => .bl ((srt (tks ws e n)).any fun y => eqD y t)) (ds := tasks) (acc := []) (o := o) (fun t ht => ?_) (by decide)
    · rw [this, List.nil_append, List.map_map]; rfl
    · refine turn_y (env' := [some (.str (shT ws x)), some (.int e), some (.int n), some (.lst tasks), some (.tup (srt (tks ws e n))), some t]) (o1 := o) rfl rfl ?_
      have i : cmpD .inn t (.tup (srt (tks ws e n))) = some ((srt (tks ws e n)).any fun y => eqD y t) := by
        show (if inOk t (srt (tks ws e n)) then some _ else none) = _
        obtain ⟨f1, f2, f3, f4, f5⟩ := tk_fact t ht
        refine if_pos ?_
        simp only [inOk, Bool.and_eq_true, decide_eq_true_eq]
        exact ⟨⟨f3, pureL_of fun d hd => (tk_fact d (tks_mem h d ((srt_mem fk d).mp hd))).2.2.1⟩, by omega⟩
      simp only [ev_cmp, ev_v5, ev_v4, b_ok, i, Option.map_some, r_of_some]
  simp only [ev_bi, ev_es, ev_es0, b_ok, e, all_lst, r_of_some]
  simp only [whole, List.all_map]
  rfl
theorem p2_fact (w : Kw) : keyOk w.p2 = true ∧ isCons w.p2 = true ∧ pure w.p2 = true ∧ depth w.p2 ≤ 8 ∧ keyF w.p2 = true := by
  simp [Kw.p2, keyOk, isCons, keyF, keyFL, pure, pureL, depth, depthL]
theorem p2_list {ws : List Kw} (hl : ws.length ≤ lid) : alikeL (ws.map Kw.p2) = true := by
  refine alikeL_of (fun x hx y hy => ?_) (fun x hx => ?_) (fun x hx => ?_) (fun x hx => ?_) (by simpa using hl)
  · obtain ⟨v, _, rfl⟩ := List.mem_map.mp hx
    obtain ⟨u, _, rfl⟩ := List.mem_map.mp hy
    simp [Kw.p2, toPy, toPyL, PySem.W.alike, PySem.W.alikeAll]
  · obtain ⟨v, _, rfl⟩ := List.mem_map.mp hx
    exact (p2_fact v).2.1
  · obtain ⟨v, _, rfl⟩ := List.mem_map.mp hx
    exact (p2_fact v).2.2.1
  · obtain ⟨v, _, rfl⟩ := List.mem_map.mp hx
    have := (p2_fact v).2.2.2.1
    omega
theorem p2_canon {ws : List Kw} (hl : ws.length < 64) : canon (ws.map Kw.p2) = some (srt (ws.map Kw.p2)) := by
  have lidE : lid = 16777216 := rfl
  refine canon_some (by simpa using hl) (fun d hd => ?_) (p2_list (by omega))
  obtain ⟨v, _, rfl⟩ := List.mem_map.mp hd
  exact (p2_fact v).1
theorem c19 (hW : 10000000 ≤ W) {ws : List Kw} {x : List Nat} (h : Sh ws x) : C W (k + 6) 19 [.str (shT ws x)] o = .ok (.tup (srt (ws.map Kw.p2))) o := by
  refine call_rt (fn := f19) rfl rfl ?_
  show evSs (C W (k + 5)) G62 W f19.body [some (.str (shT ws x)), none] o = _
  unfold f19
  have kp := kept_at (k := k) (o := o) hW h
  have few := h.few
  have e : evE (C W (k + 5)) G62 (.sc [1] (.nm 1) (.e (.call 15 (.cons (.var 0) .nil))) (.nil) (.shi (.var 1) (.con (.int 2)))) [some (.str (shT ws x)), none] o = .ok (.lst (srt (ws.map Kw.p2))) o := by
    refine ev_sc' (ds := ws.map Kw.d) (xs := ws.map Kw.p2) (o1 := o) (o2 := o) ?_ ?_ (p2_canon (by omega))
    · simp only [ev_ie, ev_call, ev_es, ev_es0, ev_v0, b_ok, kp, items_lst, r_of_some]
    · have := scGo_fk (step := turn (C W (k + 5)) G62 [1] (.nm 1) .nil (.shi (.var 1) (.con (.int 2))) [some (.str (shT ws x)), none]) (g := Kw.d) (f := fun w => some w.p2) (ds := ws) (acc := []) (o := o) (fun w hw => ?_) (fun w hw y hy => ?_) (by simp; omega)
      · rw [this, List.nil_append]
        congr 1
        exact congrFun (List.filterMap_eq_map (f := Kw.p2)) ws
      · refine turn_y (env' := [some (.str (shT ws x)), some w.d]) (o1 := o) rfl rfl ?_
        simp only [ev_shi, ev_v1, ev_con, b_ok, bnd2, r_of_some, p2_cut]
      · cases hy
        exact (p2_fact w).1
  refine s_ret' ?_
  simp only [ev_bi, ev_es, ev_es0, b_ok, e, tuple_lst, r_of_some]
/-- not below -/
def ge2 (w : Kw) (e n : Int) : Bool := if w.e = e then (if w.n = n then true else decide (n ≤ w.n)) else decide (e ≤ w.e)
theorem ge_p2 {w : Kw} {e n : Int} : cmpD .ge w.p2 (.tup [.int e, .int n]) = some (ge2 w e n) := by
  show ordOk .ge w.p2 (.tup [.int e, .int n]) = _
  unfold ordOk
  rw [if_pos (by simp [Kw.p2, pure, pureL, depth, depthL])]
  unfold ge2
  by_cases h1 : w.e = e
  · by_cases h2 : w.n = n
    · simp [Kw.p2, ordD, ordL, eqD, h1, h2, ordI]
    · simp [Kw.p2, ordD, ordL, eqD, h1, h2, ordI]
  · simp [Kw.p2, ordD, ordL, eqD, h1, ordI]
def clr (ws : List Kw) (e n : Int) : List Kw := ws.filter fun w => ge2 w e n
theorem c20 (hW : 10000000 ≤ W) {ws : List Kw} {x : List Nat} (h : Sh ws x) (hk : 6 ≤ k) {e n : Int} : C W (k + 6) 20 [.str (shT ws x), .int e, .int n] o = .ok (.str (shT (clr ws e n) [])) o := by
  refine call_rt (fn := f20) rfl rfl ?_
  show evSs (C W (k + 5)) G62 W f20.body [some (.str (shT ws x)), some (.int e), some (.int n), none] o = _
  unfold f20
  have kp := kept_at (k := k) (o := o) hW h
  have few := h.few
  have lidE : lid = 16777216 := rfl
  have e' : evE (C W (k + 5)) G62 (.lc [3] (.nm 3) (.e (.call 15 (.cons (.var 0) .nil))) (.cons (.cmp .ge (.shi (.var 3) (.con (.int 2))) (.tup (.cons (.var 1) (.cons (.var 2) .nil)))) .nil) (.star 10 (.var 3))) [some (.str (shT ws x)), some (.int e), some (.int n), none] o = .ok (.lst (((clr ws e n).map fun w => sealT (wt w.d)).map .str)) o := by
    refine ev_lc' (ds := ws.map Kw.d) (o1 := o) (o2 := o) ?_ ?_
    · simp only [ev_ie, ev_call, ev_es, ev_es0, ev_v0, b_ok, kp, items_lst, r_of_some]
    · have := lcGo_fk (step := turn (C W (k + 5)) G62 [3] (.nm 3) (.cons (.cmp .ge (.shi (.var 3) (.con (.int 2))) (.tup (.cons (.var 1) (.cons (.var 2) .nil)))) .nil) (.star 10 (.var 3)) [some (.str (shT ws x)), some (.int e), some (.int n), none]) (g := Kw.d) (f := fun w => if ge2 w e n then some (.str (sealT (wt w.d))) else none) (ds := ws) (acc := []) (o := o) (fun w hw => ?_) (by simp; omega)
      · rw [this, List.nil_append]
        congr 1
        unfold clr
        rw [List.map_map, ← List.filterMap_eq_map, List.filterMap_filter]
        rfl
      · cases hg : ge2 w e n with
        | true =>
          refine turn_y (env' := [some (.str (shT ws x)), some (.int e), some (.int n), some w.d]) (o1 := o) rfl ?_ ?_
          · simp only [ev_c, ev_c0, ev_cmp, ev_shi, ev_v3, ev_v1, ev_v2, ev_con, b_ok, bnd2, r_of_some, p2_cut, ev_tup, ev_es, ev_es0, ge_p2, Option.map_some, hg, t_bl, if_true]
          · have ko := h.ok w hw
            have c := c10 (W := W) (k := k + 1) (o := o) (e := .int w.e) (n := .int w.n) (t := w.tk) (s := w.s) (m := w.m) ko.ok (by have := ko.dp; unfold Kw.d at this; omega) (by have := ko.len; unfold Kw.d at this; omega)
            simp only [ev_star, ev_v3, b_ok]
            exact c
        | false =>
          refine turn_n (env' := [some (.str (shT ws x)), some (.int e), some (.int n), some w.d]) (o1 := o) rfl ?_
          simp only [ev_c, ev_c0, ev_cmp, ev_shi, ev_v3, ev_v1, ev_v2, ev_con, b_ok, bnd2, r_of_some, p2_cut, ev_tup, ev_es, ev_es0, ge_p2, Option.map_some, hg, t_bl, if_false, Bool.false_eq_true]
  have shE : ((clr ws e n).map fun w => sealT (wt w.d)).flatten = shT (clr ws e n) [] := by
    unfold shT recT
    rw [List.map_map, List.append_nil]; rfl
  have bl : (shT (clr ws e n) []).length ≤ lid := by
    unfold shT
    have cl : (clr ws e n).length ≤ ws.length := List.length_filter_le ..
    have := recT_bound (b := 800) (ts := (clr ws e n).map fun w => wt w.d) (by decide) (fun t ht => by
      obtain ⟨v, hv, rfl⟩ := List.mem_map.mp ht
      exact (h.ok v (List.mem_filter.mp hv).1).len)
    rw [List.length_map] at this
    rw [List.append_nil]
    omega
  refine s_ret' ?_
  simp only [ev_bi, ev_es, ev_es0, ev_con, b_ok, e']
  rw [← shE] at bl
  rw [join_nil bl, shE]
  rfl
end O.K62
end

section
set_option Elab.async false
set_option linter.all false
set_option maxRecDepth 100000
set_option maxHeartbeats 4000000
/-! OMo: words that are drawn. -/
namespace O.K62
open PySem O
variable {W k : Nat} {o : OS}
theorem pick_rng {m : Int} (h : 1 ≤ m) (o : OS) : 0 ≤ (pickF m o).1 ∧ (pickF m o).1 < m := by
  unfold pickF
  split
  · exact ⟨Int.le_refl 0, by show (0 : Int) < m; omega⟩
  · dsimp only
    split
    · exact ⟨Int.emod_nonneg _ (by omega), Int.emod_lt_of_pos _ (by omega)⟩
    · exact ⟨Int.emod_nonneg _ (by omega), Int.emod_lt_of_pos _ (by omega)⟩
theorem pick0 {F : Nat → List D → OS → R D} {m : E} {r : Env} {q : Int} {o1 : OS} (h : evE F G62 m (some .src :: r) o = .ok (.int q) o1) (hq : q < 1073741824) : evE F G62 (.pick 0 m) (some .src :: r) o = .ok (.int (pickF q o1).1) (pickF q o1).2 := by
  show (evE F G62 m (some .src :: r) o).bind _ = _
  rw [h, b_ok]
  show (R.ok q o1).bind _ = _
  rw [b_ok, if_pos hq]
theorem pick1 {F : Nat → List D → OS → R D} {m : E} {a : Option D} {r : Env} {q : Int} {o1 : OS} (h : evE F G62 m (a :: some .src :: r) o = .ok (.int q) o1) (hq : q < 1073741824) : evE F G62 (.pick 1 m) (a :: some .src :: r) o = .ok (.int (pickF q o1).1) (pickF q o1).2 := by
  show (evE F G62 m (a :: some .src :: r) o).bind _ = _
  rw [h, b_ok]
  show (R.ok q o1).bind _ = _
  rw [b_ok, if_pos hq]
theorem lcGo_st {step : D → OS → R (Option D)} {P : D → Prop} : ∀ {ds acc : List D} {o : OS}, (∀ d ∈ ds, ∀ o, ∃ y o', step d o = .ok (some y) o' ∧ P y) → acc.length + ds.length ≤ lid → ∃ ys o', lcGo step ds acc o = .ok (acc ++ ys) o' ∧ ys.length = ds.length ∧ ∀ y ∈ ys, P y
  | [], acc, o, _, _ => ⟨[], o, by simp [lcGo], rfl, by simp⟩
  | d :: ds, acc, o, h, hl => by
    rw [List.length_cons] at hl
    obtain ⟨y, o1, e, p⟩ := h d List.mem_cons_self o
    obtain ⟨ys, o2, e2, l2, p2⟩ := lcGo_st (acc := acc ++ [y]) (o := o1) (fun x hx => h x (List.mem_cons_of_mem _ hx)) (by rw [List.length_append]; simp; omega)
    refine ⟨y :: ys, o2, ?_, by simp [l2], fun z hz => ?_⟩
    · unfold lcGo
      rw [e]
      simp only [b_ok]
      rw [if_pos (by omega), e2]
      simp
    · rcases List.mem_cons.mp hz with rfl | hz
      · exact p
      · exact p2 z hz
def lenB : Nat → Nat
  | 0 => 7
  | n + 1 => 3 * lenB n + 2
/-- a word that may be drawn -/
structure Wd (n : Nat) (d : D) : Prop where
  ok : wOk d = true
  dp : depth d ≤ n
  len : (wt d).length ≤ lenB n
theorem lenB_7 (n : Nat) : 7 ≤ lenB n := by
  induction n with
  | zero => decide
  | succ n ih => simp only [lenB]; omega
theorem wtL_bound {b : Nat} : ∀ {ds : List D}, (∀ d ∈ ds, (wt d).length ≤ b) → (wtL ds).length ≤ ds.length * b
  | [], _ => by simp [wtL]
  | d :: ds, h => by
    have h1 := h d List.mem_cons_self
    have h2 := wtL_bound fun x hx => h x (List.mem_cons_of_mem _ hx)
    simp only [wtL, List.length_append, List.length_cons, Nat.succ_mul]
    omega
theorem wOkL_of : ∀ {ds : List D}, (∀ d ∈ ds, wOk d = true) → wOkL ds = true
  | [], _ => rfl
  | d :: ds, h => by
    simp only [wOkL, Bool.and_eq_true]
    exact ⟨h d List.mem_cons_self, wOkL_of fun x hx => h x (List.mem_cons_of_mem _ hx)⟩
theorem Wd.tup {n : Nat} {ds : List D} (h : ∀ d ∈ ds, Wd n d) (hl : ds.length ≤ 3) : Wd (n + 1) (.tup ds) := by
  refine ⟨wOkL_of fun d hd => (h d hd).ok, ?_, ?_⟩
  · have := depthL_of fun d hd => (h d hd).dp
    simp only [depth]; omega
  · have := wtL_bound fun d hd => (h d hd).len
    have := Nat.mul_le_mul_right (lenB n) hl
    simp only [wt, List.length_cons, List.length_append, List.length_nil, lenB]
    omega
theorem Wd.leaf {n : Nat} {d : D} (h1 : wOk d = true) (h2 : depth d = 0) (h3 : (wt d).length ≤ 7) : Wd n d := ⟨h1, by omega, Nat.le_trans h3 (lenB_7 n)⟩
theorem num_small {r : Int} (h1 : 0 ≤ r) (h2 : r < 100) : (wt (.int r)).length ≤ 7 := by
  simp only [wt, List.length_cons, List.length_append, List.length_nil]
  rw [numT_of_nonneg h1]
  have := dig_len 1 r.toNat (by omega)
  omega
theorem rng_len {i : Int} {a : Int} : (range a i.toNat).length = i.toNat := by simp [range]
theorem c23 : ∀ (k n : Nat) (o : OS), n < k → n ≤ 3 → ∃ d o', C W k 23 [.src, .int (n : Int)] o = .ok d o' ∧ Wd n d := by
  intro k
  induction k with
  | zero => intro n o h; omega
  | succ k ih =>
    intro n o hk hn
    suffices h : ∃ d o', evSs (C W k) G62 W f23.body [some .src, some (.int (n : Int)), none, none] o = .ok (.rt d) o' ∧ Wd n d by
      obtain ⟨d, o', e, w⟩ := h
      exact ⟨d, o', call_rt (fn := f23) rfl rfl e, w⟩
    unfold f23
    have c0 : evE (C W k) G62 (.ite (.cmp .gt (.var 1) (.con (.int 0))) (.con (.int 7)) (.con (.int 5))) [some .src, some (.int (n : Int)), none, none] o = .ok (.int (if 0 < n then 7 else 5)) o := by
      simp only [ev_ite, ev_cmp, ev_v1, ev_con, b_ok, gt_int, Option.map_some, r_of_some, t_bl]
      by_cases h : 0 < n
      · rw [if_pos (by simpa using h), if_pos h]
      · rw [if_neg (by simpa using h), if_neg h]
    have p := pick0 c0 (by split <;> decide)
    have rg := pick_rng (m := if 0 < n then 7 else 5) (by split <;> decide) o
    generalize pickF (if 0 < n then 7 else 5) o = po at p rg
    obtain ⟨r, o1⟩ := po
    simp only at p rg
    by_cases h5 : r < 5
    · have hp := pick_rng (m := 100) (by decide) o1
      have q := pick0 (F := C W k) (m := .con (.int 100)) (r := [some (.int (n : Int)), some (.int r), none]) (o := o1) ev_con (by decide)
      generalize pickF 100 o1 = pq at q hp
      obtain ⟨z, o2⟩ := pq
      simp only at q hp
      have t : ∃ d, ixD (.lst [.non, .int (-12), .str [97, 58, 49, 40], .bl true, .int z]) (.int r) = some d ∧ Wd n d := by
        have hr : r = 0 ∨ r = 1 ∨ r = 2 ∨ r = 3 ∨ r = 4 := by omega
        rcases hr with rfl | rfl | rfl | rfl | rfl
        · exact ⟨.non, rfl, .leaf rfl rfl (by decide)⟩
        · exact ⟨.int (-12), rfl, .leaf (by decide) rfl (by decide +kernel)⟩
        · exact ⟨.str [97, 58, 49, 40], rfl, .leaf (by decide) rfl (by decide +kernel)⟩
        · exact ⟨.bl true, rfl, .leaf rfl rfl (by decide)⟩
        · exact ⟨.int z, rfl, .leaf (by simp only [wOk, decide_eq_true_eq]; omega) rfl (num_small hp.1 hp.2)⟩
      obtain ⟨d, e, w⟩ := t
      refine ⟨d, o2, ?_, w⟩
      refine (s_asg' p).trans ?_
      refine s_ifR (d := .bl true) (o1 := o1) ?_ rfl (s_ret' ?_)
      · show evE (C W k) G62 _ [some .src, some (.int (n : Int)), some (.int r), none] o1 = _
        simp only [ev_cmp, ev_v2, ev_con, b_ok, lt_int, Option.map_some, r_of_some, decide_eq_true h5]
      · show evE (C W k) G62 _ [some .src, some (.int (n : Int)), some (.int r), none] o1 = _
        simp only [ev_ix, ev_lst, ev_es, ev_es0, ev_con, b_ok, ev_bin, b_subI, r_of_some, q, ev_v2]
        exact congrArg (fun x => R.of x o2) e
    · have hn0 : 0 < n := by
        rcases Nat.eq_zero_or_pos n with h | h
        · subst h; simp at rg; omega
        · exact h
      obtain ⟨m, rfl⟩ : ∃ m, n = m + 1 := ⟨n - 1, by omega⟩
      have hp := pick_rng (m := 4) (by decide) o1
      have q := pick0 (F := C W k) (m := .con (.int 4)) (r := [some (.int ((m + 1 : Nat) : Int)), some (.int r), none]) (o := o1) ev_con (by decide)
      generalize pickF 4 o1 = pq at q hp
      obtain ⟨z, o2⟩ := pq
      simp only at q hp
      have hi : evI (C W k) G62 (.r1 (.pick 0 (.con (.int 4)))) [some .src, some (.int ((m + 1 : Nat) : Int)), some (.int r), none] o1 = .ok (range 0 z.toNat) o2 := by
        simp only [ev_ir1, q, b_ok]
        show (R.ok z o2).bind _ = _
        rw [b_ok, if_pos (by simp only [rngOk, Bool.and_eq_true, decide_eq_true_eq]; omega)]
      have rl := rng_len (i := z) (a := 0)
      have lidE : lid = 16777216 := rfl
      obtain ⟨ys, o3, e3, l3, w3⟩ := lcGo_st (step := turn (C W k) G62 [3] (.nm 3) .nil (.call 23 (.cons (.var 0) (.cons (.bin .sub (.var 1) (.con (.int 1))) .nil))) [some .src, some (.int ((m + 1 : Nat) : Int)), some (.int r), none]) (P := Wd m) (ds := range 0 z.toNat) (acc := []) (o := o2) (fun d hd o => by
        obtain ⟨y, o', e, w⟩ := ih m o (by omega) (by omega)
        refine ⟨y, o', turn_y (env' := [some .src, some (.int ((m + 1 : Nat) : Int)), some (.int r), some d]) (o1 := o) rfl rfl ?_, w⟩
        have s1 : (((m + 1 : Nat) : Int) - 1) = (m : Int) := by omega
        simp only [ev_call, ev_es, ev_es0, ev_v0, ev_v1, ev_bin, ev_con, b_ok, b_subI, r_of_some, s1]
        exact e) (by rw [rl]; simp; omega)
      refine ⟨.tup ys, o3, ?_, .tup w3 (by omega)⟩
      have el := ev_lc' hi e3
      refine (s_asg' p).trans ?_
      refine (s_ifN (d := .bl false) (o1 := o1) ?_ rfl).trans (s_ret' ?_)
      · show evE (C W k) G62 _ [some .src, some (.int ((m + 1 : Nat) : Int)), some (.int r), none] o1 = _
        simp only [ev_cmp, ev_v2, ev_con, b_ok, lt_int, Option.map_some, r_of_some, decide_eq_false h5]
      · show evE (C W k) G62 _ [some .src, some (.int ((m + 1 : Nat) : Int)), some (.int r), none] o1 = _
        simp only [ev_bi, ev_es, ev_es0, b_ok, el, List.nil_append, tuple_lst, r_of_some]
end O.K62
end

section
set_option Elab.async false
set_option linter.all false
set_option maxRecDepth 100000
set_option maxHeartbeats 4000000
/-! OMp: plain facts for the law's own test. -/
namespace O.K62
open PySem O
variable {W k : Nat} {o : OS}
mutual
theorem wOk_repr : ∀ d : D, wOk d = true → sgn d = true ∧ sml d = true ∧ rl d + 2 ≤ 12 * (wt d).length
  | .non, _ => by simp [sgn, sml, rl, wt]
  | .bl b, _ => by cases b <;> simp [sgn, sml, rl, wt]
  | .int i, h => by
    simp only [wOk] at h
    refine ⟨rfl, h, ?_⟩
    simp only [rl, wt, List.length_cons, List.length_append, List.length_nil]
    omega
  | .str s, h => by
    simp only [wOk, Bool.and_eq_true, decide_eq_true_eq, List.all_eq_true] at h
    refine ⟨?_, rfl, ?_⟩
    · simp only [sgn, List.all_eq_true, decide_eq_true_eq]
      intro c hc
      have := h.2 c hc
      omega
    · simp only [rl, wt, List.length_cons, List.length_append]
      omega
  | .tup ds, h => by
    obtain ⟨a, b, c⟩ := wOkL_repr ds (by simpa [wOk] using h)
    refine ⟨a, b, ?_⟩
    simp only [rl, wt, List.length_cons, List.length_append, List.length_nil]
    omega
  | .dct _, h => by simp [wOk] at h
  | .lst _, h => by simp [wOk] at h
  | .set _, h => by simp [wOk] at h
  | .fn _ _, h => by simp [wOk] at h
  | .src, h => by simp [wOk] at h
theorem wOkL_repr : ∀ ds : List D, wOkL ds = true → sgnL ds = true ∧ smlL ds = true ∧ rlL ds ≤ 12 * (wtL ds).length
  | [], _ => by simp [sgnL, smlL, rlL, wtL]
  | d :: ds, h => by
    simp only [wOkL, Bool.and_eq_true] at h
    obtain ⟨a, b, c⟩ := wOk_repr d h.1
    obtain ⟨a', b', c'⟩ := wOkL_repr ds h.2
    refine ⟨by simp [sgnL, a, a'], by simp [smlL, b, b'], ?_⟩
    simp only [rlL, wtL, List.length_append]
    omega
end
theorem sgnL_of : ∀ {ds : List D}, (∀ d ∈ ds, sgn d = true) → sgnL ds = true
  | [], _ => rfl
  | d :: ds, h => by
    simp only [sgnL, Bool.and_eq_true]
    exact ⟨h d List.mem_cons_self, sgnL_of fun x hx => h x (List.mem_cons_of_mem _ hx)⟩
theorem smlL_of : ∀ {ds : List D}, (∀ d ∈ ds, sml d = true) → smlL ds = true
  | [], _ => rfl
  | d :: ds, h => by
    simp only [smlL, Bool.and_eq_true]
    exact ⟨h d List.mem_cons_self, smlL_of fun x hx => h x (List.mem_cons_of_mem _ hx)⟩
theorem rlL_of {b : Nat} : ∀ {ds : List D}, (∀ d ∈ ds, rl d ≤ b) → rlL ds ≤ ds.length * (b + 2)
  | [], _ => by simp [rlL]
  | d :: ds, h => by
    have h1 := h d List.mem_cons_self
    have h2 := rlL_of fun x hx => h x (List.mem_cons_of_mem _ hx)
    simp only [rlL, List.length_cons, Nat.succ_mul]
    omega
/-- data whose repr is told, and is short -/
structure Rp (b : Nat) (d : D) : Prop where
  sg : sgn d = true
  sm : sml d = true
  dp : depth d ≤ 58
  rl_ : rl d ≤ b
theorem Rp.lst {b n : Nat} {ds : List D} (h : ∀ d ∈ ds, Rp b d ∧ depth d ≤ 30) (hl : ds.length ≤ n) (hb : n * (b + 2) < 15000000) : biD .repr [.lst ds] = some (.str (reprT (.lst ds))) := by
  refine repr_some (sgnL_of fun d hd => (h d hd).1.sg) (smlL_of fun d hd => (h d hd).1.sm) ?_ ?_
  · have := depthL_of fun d hd => (h d hd).2
    simp only [depth]; omega
  · have := rlL_of fun d hd => (h d hd).1.rl_
    have := Nat.mul_le_mul_right (b + 2) hl
    simp only [rl]; omega
theorem Rp.tup {b n : Nat} {ds : List D} (h : ∀ d ∈ ds, Rp b d ∧ depth d ≤ 30) (hl : ds.length ≤ n) (hb : n * (b + 2) < 15000000) : biD .repr [.tup ds] = some (.str (reprT (.tup ds))) := by
  refine repr_some (sgnL_of fun d hd => (h d hd).1.sg) (smlL_of fun d hd => (h d hd).1.sm) ?_ ?_
  · have := depthL_of fun d hd => (h d hd).2
    simp only [depth]; omega
  · have := rlL_of fun d hd => (h d hd).1.rl_
    have := Nat.mul_le_mul_right (b + 2) hl
    simp only [rl]; omega
theorem KOk.rp {w : Kw} (h : KOk w) : Rp 9600 w.d ∧ depth w.d ≤ 30 := by
  obtain ⟨a, b, c⟩ := wOk_repr _ h.ok
  have := h.len
  have := h.dp
  exact ⟨⟨a, b, by omega, by omega⟩, by omega⟩
theorem rp2_small : ∀ {e n : Int}, (e = 0 ∨ e = 1) → (n = 1 ∨ n = 2) → Rp 20 (.tup [.int e, .int n]) ∧ depth (.tup [.int e, .int n]) ≤ 30 := by
  intro e n he hn
  rcases he with rfl | rfl <;> rcases hn with rfl | rfl <;> exact ⟨⟨by decide +kernel, by decide +kernel, by decide +kernel, by decide +kernel⟩, by decide +kernel⟩
theorem KOk.rp2 {w : Kw} (h : KOk w) : Rp 20 w.p2 ∧ depth w.p2 ≤ 30 := rp2_small h.e h.n
theorem KOk.rpq {w : Kw} (h : KOk w) : Rp 9610 w.q ∧ depth w.q ≤ 30 := by
  have ok := h.ok
  have len := h.len
  have dp := h.dp
  obtain ⟨e, n, a, j, s, m⟩ := w
  have hm := h.m
  simp only [Kw.d, keptD, wOk, wOkL, Bool.and_eq_true] at ok
  simp only [Kw.d, keptD, wt, wtL, List.length_cons, List.length_append] at len
  simp only [Kw.d, keptD, depth, depthL] at dp
  obtain ⟨x1, x2, x3⟩ := wOk_repr s ok.2.2.2.1
  simp only at hm
  rcases hm with rfl | rfl
  · exact ⟨⟨by simp [Kw.q, sgn, sgnL, x1], by simp [Kw.q, sml, smlL, x2], by simp [Kw.q, depth, depthL]; omega, by simp [Kw.q, rl, rlL]; omega⟩, by simp [Kw.q, depth, depthL]; omega⟩
  · have n4 : (numT 4).length = 1 := by decide +kernel
    exact ⟨⟨by simp [Kw.q, sgn, sgnL, x1], by simp [Kw.q, sml, smlL, x2], by simp [Kw.q, depth, depthL]; omega, by simp [Kw.q, rl, rlL, n4]; omega⟩, by simp [Kw.q, depth, depthL]; omega⟩
theorem KOk.pure {w : Kw} (h : KOk w) : pure w.d = true := (showable_of _ h.rp.1.sg h.rp.1.sm).2
theorem ne_self {d : D} (h : pure d = true) (hd : depth d ≤ 60) (e : eqD d d = true) : cmpD .ne d d = some false := by
  show (if cmpOk d d then some (!eqD d d) else none) = _
  rw [if_pos (by simp [cmpOk, h, hd]), e]
  rfl
theorem ne_strS {s : List Nat} : cmpD .ne (.str s) (.str s) = some false := ne_self rfl (by simp [depth]) (by simp [eqD])
theorem ne_bl {a b : Bool} (h : a = b) : cmpD .ne (.bl a) (.bl b) = some false := by
  subst h
  exact ne_self rfl (by simp [depth]) (by simp [eqD])
theorem ne_nil {l : List D} (h : ∀ d ∈ l, pure d = true) : cmpD .ne (.lst l) (.lst []) = some (!l.isEmpty) := by
  show (if cmpOk (.lst l) (.lst []) then some (!eqD (.lst l) (.lst [])) else none) = _
  rw [if_pos (by simp [cmpOk, O.pure, pureL_of h, pureL, depth, depthL])]
  cases l <;> simp [eqD, eqL]
theorem eq_three {n : Nat} : cmpD .eq (.int (n : Int)) (.int 3) = some (n == 3) := by
  rw [eq_pure rfl rfl (by simp [depth])]
  simp only [eqD]
  congr 1
  by_cases h : n = 3
  · subst h; rfl
  · rw [beq_eq_false_iff_ne.mpr h]
    exact beq_eq_false_iff_ne.mpr (by omega)
theorem k3_iff {w : Kw} {e n : Int} {t : D} (hw : w.tk ∈ tasks) (ht : t ∈ tasks) : k3 w e n t = true ↔ w.e = e ∧ w.n = n ∧ w.tk = t := by
  unfold k3 Kw.p3
  rw [eqD_key _ _ (by simp [keyF, keyFL, (tk_fact _ hw).2.2.2.2]) (by simp [keyF, keyFL, (tk_fact _ ht).2.2.2.2])]
  simp
theorem k2_iff {w : Kw} {e n : Int} : k2 w e n = true ↔ w.e = e ∧ w.n = n := by
  unfold k2 Kw.p2
  rw [eqD_key _ _ (by simp [keyF, keyFL]) (by simp [keyF, keyFL])]
  simp
/-- has this task put down -/
def has (ws : List Kw) (e n : Int) (t : D) : Bool := !((ws.filter fun w => k3 w e n t).map Kw.d).isEmpty
theorem has_iff {ws : List Kw} {x : List Nat} (h : Sh ws x) {e n : Int} {t : D} (ht : t ∈ tasks) : has ws e n t = true ↔ t ∈ tks ws e n := by
  unfold has tks
  simp only [Bool.not_eq_true', List.isEmpty_eq_false_iff, ne_eq, List.map_eq_nil_iff, List.filter_eq_nil_iff, List.mem_filterMap]
  constructor
  · intro q
    apply Classical.byContradiction
    intro z
    apply q
    intro w hw hk
    obtain ⟨a, b, c⟩ := (k3_iff (h.ok w hw).t ht).mp hk
    exact z ⟨w, hw, by rw [if_pos (k2_iff.mpr ⟨a, b⟩), c]⟩
  · rintro ⟨w, hw, q⟩ z
    split at q
    · rename_i k
      obtain ⟨a, b⟩ := k2_iff.mp k
      cases q
      exact z w hw ((k3_iff (h.ok w hw).t ht).mpr ⟨a, b, rfl⟩)
    · cases q
def there (ws : List Kw) (e n : Int) : List D := tasks.filter fun t => has ws e n t
theorem tasks_nodup : tasks.Nodup := by
  simp [tasks, taskA, taskB, taskC]
theorem there_mem {ws : List Kw} {e n : Int} : ∀ d ∈ there ws e n, d ∈ tasks := fun d hd => (List.mem_filter.mp hd).1
theorem there_srt {ws : List Kw} {x : List Nat} (h : Sh ws x) {e n : Int} : (there ws e n).mergeSort leD = srt (tks ws e n) := by
  have fk : ∀ d ∈ tks ws e n, keyF d = true := fun d hd => (tk_fact d (tks_mem h d hd)).2.2.2.2
  obtain ⟨d1, d2⟩ := dedup_ok fk
  have nd : (there ws e n).Nodup := List.Pairwise.filter _ tasks_nodup
  have p : (there ws e n).Perm (dedup (tks ws e n)) := (List.perm_ext_iff_of_nodup nd d1).mpr fun t => by
    rw [d2 t]
    unfold there
    rw [List.mem_filter]
    constructor
    · rintro ⟨a, b⟩
      exact (has_iff h a).mp b
    · intro a
      exact ⟨tks_mem h t a, (has_iff h (tks_mem h t a)).mpr a⟩
  exact sortK_perm p (fun d hd => (tk_fact d (there_mem d hd)).2.2.2.2) (fun x hx y hy => tk_alike x (there_mem x hx) y (there_mem y hy))
theorem there_len {ws : List Kw} {e n : Int} : (there ws e n).length ≤ 3 := List.length_filter_le (fun t => has ws e n t) tasks
theorem whole_eq {ws : List Kw} {x : List Nat} (h : Sh ws x) {e n : Int} : whole ws e n = ((there ws e n).length == 3) := by
  have fk : ∀ d ∈ tks ws e n, keyF d = true := fun d hd => (tk_fact d (tks_mem h d hd)).2.2.2.2
  have any_iff : ∀ t ∈ tasks, ((srt (tks ws e n)).any fun y => eqD y t) = has ws e n t := fun t ht => by
    rw [Bool.eq_iff_iff, has_iff h ht, ← srt_mem fk t, List.any_eq_true]
    constructor
    · rintro ⟨y, hy, q⟩
      rw [eqD_key y t (fk y ((srt_mem fk y).mp hy)) (tk_fact t ht).2.2.2.2] at q
      rw [← q]; exact hy
    · intro q
      exact ⟨t, q, (eqD_key t t (tk_fact t ht).2.2.2.2 (tk_fact t ht).2.2.2.2).mpr rfl⟩
  rw [Bool.eq_iff_iff]
  unfold whole
  rw [List.all_eq_true, beq_iff_eq]
  have : (3 : Nat) = tasks.length := rfl
  rw [this]
  unfold there
  rw [List.length_filter_eq_length_iff]
  constructor
  · intro q t ht
    rw [← any_iff t ht]; exact q t ht
  · intro q t ht
    rw [any_iff t ht]; exact q t ht
theorem onSh_lot {ws : List Kw} {e n : Int} {t : D} : (if has ws e n t then (match (ws.filter fun w => k3 w e n t) with | w :: _ => w.q | [] => .non) else D.non) = onSh ws e n t := by
  unfold has onSh
  rw [← List.head?_filter]
  cases ws.filter fun w => k3 w e n t <;> rfl
theorem onSh_rp {ws : List Kw} {x : List Nat} (h : Sh ws x) {e n : Int} {t : D} : Rp 9610 (onSh ws e n t) ∧ depth (onSh ws e n t) ≤ 30 := by
  unfold onSh
  cases q : ws.find? (fun w => k3 w e n t) with
  | none => exact ⟨⟨rfl, rfl, by simp [depth], by simp [rl]⟩, by simp [depth]⟩
  | some w => exact (h.ok w (List.mem_of_find?_eq_some q)).rpq
theorem sort_tasks {ds : List D} (h : ∀ d ∈ ds, d ∈ tasks) (hl : ds.length ≤ lid) : biD .sorted [.lst ds] = some (.lst (ds.mergeSort leD)) := by
  show (sortD ds).map _ = _
  unfold sortD
  rw [if_pos (tk_list h hl)]
  rfl
theorem set_p2 {ws : List Kw} (hl : ws.length < 64) : biD .set [.lst (ws.map Kw.p2)] = some (.lst (srt (ws.map Kw.p2))) := by
  show (if (ws.map Kw.p2).all isIntT then (canon (ws.map Kw.p2)).map D.lst else none) = _
  rw [if_pos (by simp [isIntT, Kw.p2]), p2_canon hl]
  rfl
theorem ne_tasks {ds : List D} (h : ∀ d ∈ ds, d ∈ tasks) : cmpD .ne (.tup ds) (.tup ds) = some false := by
  have hp : pureL ds = true := pureL_of fun d hd => (tk_fact d (h d hd)).2.2.1
  have hd := depthL_of fun d hd => (tk_fact d (h d hd)).2.2.2.1
  have hk : keyF (.tup ds) = true := by
    have : ∀ {ds : List D}, (∀ d ∈ ds, d ∈ tasks) → keyFL ds = true := by
      intro ds
      induction ds with
      | nil => intro _; rfl
      | cons d ds ih =>
        intro h
        simp only [keyFL, Bool.and_eq_true]
        exact ⟨(tk_fact d (h d List.mem_cons_self)).2.2.2.2, ih fun x hx => h x (List.mem_cons_of_mem _ hx)⟩
    exact this h
  exact ne_self hp (by simp only [depth]; omega) ((eqD_key _ _ hk hk).mpr rfl)
end O.K62
end

section
set_option Elab.async false
set_option linter.all false
set_option maxRecDepth 100000
set_option maxHeartbeats 4000000
/-! OMq: the law's own test of a shelf. -/
namespace O.K62
open PySem O
variable {W k : Nat} {o : OS}
theorem Sh.mend {ws : List Kw} {x : List Nat} (h : Sh ws x) : Sh ws [] := ⟨h.ok, torn_nil, by simp, h.few⟩
theorem shT_nil (ws : List Kw) : shT ws [] = recT (ws.map fun w => wt w.d) := by simp [shT]
theorem shT_len {ws : List Kw} {x : List Nat} (h : Sh ws x) : (shT ws x).length ≤ 50000 := by
  unfold shT
  have := recT_bound (b := 800) (ts := ws.map fun w => wt w.d) (by decide) (fun t ht => by
    obtain ⟨v, hv, rfl⟩ := List.mem_map.mp ht
    exact (h.ok v hv).len)
  have h2 := h.few
  have h3 := h.xl
  rw [List.length_map] at this
  rw [List.length_append]
  omega
abbrev e24 (tx v3 : List Nat) (ws : List Kw) (a4 a5 a6 a7 a8 a9 : Option D) : Env := [some .src, some (.str tx), some (.lst (ws.map Kw.d)), some (.str v3), a4, a5, a6, a7, a8, a9, none, none, none]
theorem t_head {ws : List Kw} {x : List Nat} (h : Sh ws x) (hk : 8 ≤ k) : evE (C W (k + 7)) G62 (.bi .join (.cons (.con (.str [])) (.cons (.lc [10] (.nm 10) (.e (.var 2)) (.nil) (.call 22 (.cons (.call 21 (.cons (.var 10) .nil)) .nil))) .nil))) [some .src, some (.str (shT ws x)), some (.lst (ws.map Kw.d)), none, none, none, none, none, none, none, none, none, none] o = .ok (.str (shT ws [])) o := by
  have few := h.few
  have lidE : lid = 16777216 := rfl
  have e : evE (C W (k + 7)) G62 (.lc [10] (.nm 10) (.e (.var 2)) (.nil) (.call 22 (.cons (.call 21 (.cons (.var 10) .nil)) .nil))) [some .src, some (.str (shT ws x)), some (.lst (ws.map Kw.d)), none, none, none, none, none, none, none, none, none, none] o = .ok (.lst ((ws.map fun w => sealT (wt w.d)).map .str)) o := by
    refine ev_lc' (ds := ws.map Kw.d) (o1 := o) (by simp only [ev_ie, ev_v2, b_ok, items_lst, r_of_some]) ?_
    have := lcGo_fk (step := turn (C W (k + 7)) G62 [10] (.nm 10) .nil (.call 22 (.cons (.call 21 (.cons (.var 10) .nil)) .nil)) [some .src, some (.str (shT ws x)), some (.lst (ws.map Kw.d)), none, none, none, none, none, none, none, none, none, none]) (g := Kw.d) (f := fun w => some (.str (sealT (wt w.d)))) (ds := ws) (acc := []) (o := o) (fun w hw => ?_) (by simp; omega)
    · rw [this, List.nil_append, List.map_map]
      congr 1
      exact congrFun (List.filterMap_eq_map (f := fun w : Kw => D.str (sealT (wt w.d)))) ws
    · have ko := h.ok w hw
      have a := c21 (W := W) (k + 7) w.d (by have := ko.dp; omega) ko.ok (by have := ko.len; omega) o
      have b := c22 (W := W) (k := k + 6) (o := o) (s := wt w.d) (by have := ko.len; omega)
      refine turn_y (env' := [some .src, some (.str (shT ws x)), some (.lst (ws.map Kw.d)), none, none, none, none, none, none, none, some w.d, none, none]) (o1 := o) rfl rfl ?_
      simp only [ev_call, ev_es, ev_es0, ev_v10, b_ok, a]
      exact b
  have shE : (ws.map fun w => sealT (wt w.d)).flatten = shT ws [] := by
    unfold shT recT
    rw [List.map_map, List.append_nil]; rfl
  have bl := shT_len h.mend
  rw [← shE] at bl
  simp only [ev_bi, ev_es, ev_es0, ev_con, b_ok, e]
  rw [join_nil (by omega), shE]
  rfl
theorem t_mend (hW : 10000000 ≤ W) {ws : List Kw} {x : List Nat} (h : Sh ws x) {r : Env} : evE (C W (k + 7)) G62 (.or (.cmp .ne (.call 11 (.cons (.var 1) .nil)) (.var 3)) (.cmp .ne (.call 11 (.cons (.var 3) .nil)) (.var 3))) (some .src :: some (.str (shT ws x)) :: some (.lst (ws.map Kw.d)) :: some (.str (shT ws [])) :: r) o = .ok (.bl false) o := by
  have m1 := mended_at (k := k + 2) (o := o) hW h
  have m2 := mended_at (k := k + 2) (o := o) hW h.mend
  rw [← shT_nil] at m1 m2
  simp only [ev_or, ev_cmp, ev_call, ev_es, ev_es0, ev_v1, ev_v3, b_ok, m1, m2, ne_strS, Option.map_some, r_of_some, t_bl, if_false, Bool.false_eq_true]
theorem t_two (hW : 10000000 ≤ W) {ws : List Kw} {x y : List Nat} (h : Sh ws x) (hy : Sh ws y) {a5 a6 a7 a8 a9 : Option D} : evE (C W (k + 7)) G62 (.or (.cmp .ne (.bi .repr (.cons (.call 15 (.cons (.var 4) .nil)) .nil)) (.bi .repr (.cons (.var 2) .nil))) (.cmp .ne (.bi .repr (.cons (.call 19 (.cons (.var 4) .nil)) .nil)) (.bi .repr (.cons (.bi .tuple (.cons (.bi .set (.cons (.lc [10] (.nm 10) (.e (.var 2)) (.nil) (.shi (.var 10) (.con (.int 2)))) .nil)) .nil)) .nil)))) [some .src, some (.str (shT ws x)), some (.lst (ws.map Kw.d)), some (.str (shT ws [])), some (.str (shT ws y)), a5, a6, a7, a8, a9, none, none, none] o = .ok (.bl false) o := by
  have few := h.few
  have lidE : lid = 16777216 := rfl
  have kp := kept_at (k := k + 2) (o := o) hW hy
  have nb := c19 (k := k + 1) (o := o) hW hy
  have r1 := Rp.lst (ds := ws.map Kw.d) (b := 9600) (n := 40) (fun d hd => by
    obtain ⟨v, hv, rfl⟩ := List.mem_map.mp hd
    exact (h.ok v hv).rp) (by simpa using few) (by decide)
  have fk : ∀ d ∈ ws.map Kw.p2, keyF d = true := fun d hd => by
    obtain ⟨v, hv, rfl⟩ := List.mem_map.mp hd
    exact (p2_fact v).2.2.2.2
  have sl := srt_len (ws.map Kw.p2)
  rw [List.length_map] at sl
  have r2 := Rp.tup (ds := srt (ws.map Kw.p2)) (b := 20) (n := 40) (fun d hd => by
    obtain ⟨v, hv, rfl⟩ := List.mem_map.mp ((srt_mem fk d).mp hd)
    exact (h.ok v hv).rp2) (by omega) (by decide)
  have e : evE (C W (k + 7)) G62 (.lc [10] (.nm 10) (.e (.var 2)) (.nil) (.shi (.var 10) (.con (.int 2)))) [some .src, some (.str (shT ws x)), some (.lst (ws.map Kw.d)), some (.str (shT ws [])), some (.str (shT ws y)), a5, a6, a7, a8, a9, none, none, none] o = .ok (.lst (ws.map Kw.p2)) o := by
    refine ev_lc' (ds := ws.map Kw.d) (o1 := o) (by simp only [ev_ie, ev_v2, b_ok, items_lst, r_of_some]) ?_
    have := lcGo_fk (step := turn (C W (k + 7)) G62 [10] (.nm 10) .nil (.shi (.var 10) (.con (.int 2))) [some .src, some (.str (shT ws x)), some (.lst (ws.map Kw.d)), some (.str (shT ws [])), some (.str (shT ws y)), a5, a6, a7, a8, a9, none, none, none]) (g := Kw.d) (f := fun w => some w.p2) (ds := ws) (acc := []) (o := o) (fun w hw => ?_) (by simp; omega)
    · rw [this, List.nil_append]
      congr 1
      exact congrFun (List.filterMap_eq_map (f := Kw.p2)) ws
    · refine turn_y (env' := [some .src, some (.str (shT ws x)), some (.lst (ws.map Kw.d)), some (.str (shT ws [])), some (.str (shT ws y)), a5, a6, a7, a8, a9, some w.d, none, none]) (o1 := o) rfl rfl ?_
      simp only [ev_shi, ev_v10, ev_con, b_ok, bnd2, r_of_some, p2_cut]
  simp only [ev_or, ev_cmp, ev_call, ev_bi, ev_es, ev_es0, ev_v4, ev_v2, b_ok, kp, nb, r1, r_of_some, ne_strS, Option.map_some, t_bl, if_false, Bool.false_eq_true, e, set_p2 (show ws.length < 64 by omega), tuple_lst, r2]
def lotD (ws : List Kw) (e n : Int) (t : D) : D := .lst ((ws.filter fun w => k3 w e n t).map Kw.d)
theorem lot_ne {ws : List Kw} {x : List Nat} (h : Sh ws x) {e n : Int} {t : D} : cmpD .ne (lotD ws e n t) (.lst []) = some (has ws e n t) := by
  unfold lotD
  rw [ne_nil fun d hd => ?_]
  · rfl
  · obtain ⟨v, hv, rfl⟩ := List.mem_map.mp hd
    exact (h.ok v (List.mem_filter.mp hv).1).pure
theorem fm_filter {p : D → Bool} : ∀ l : List D, (l.filterMap fun t => if p t then some t else none) = l.filter p
  | [] => rfl
  | t :: l => by
    have := fm_filter (p := p) l
    rw [List.filterMap_cons, List.filter_cons]
    cases h : p t <;> simp [this]
theorem lots_at {ws : List Kw} {x : List Nat} (h : Sh ws x) {tx v3 : List Nat} {e n : Int} {a4 a8 a9 : Option D} : evE (C W (k + 7)) G62 (.lc [11] (.nm 11) (.e (.var 5)) (.nil) (.lc [10] (.nm 10) (.e (.var 2)) (.cons (.cmp .eq (.shi (.var 10) (.con (.int 3))) (.tup (.cons (.var 6) (.cons (.var 7) (.cons (.var 11) .nil))))) .nil) (.var 10))) [some .src, some (.str tx), some (.lst (ws.map Kw.d)), some (.str v3), a4, some (.lst tasks), some (.int e), some (.int n), a8, a9, none, none, none] o = .ok (.lst (tasks.map (lotD ws e n))) o := by
  have few := h.few
  have lidE : lid = 16777216 := rfl
  refine ev_lc' (ds := tasks) (o1 := o) (by simp only [ev_ie, ev_v5, b_ok, items_lst, r_of_some]) ?_
  refine (lcGo_map (f := lotD ws e n) (ds := tasks) (acc := []) (o := o) (fun t ht => ?_) (by decide)).trans (by rw [List.nil_append])
  refine turn_y (env' := [some .src, some (.str tx), some (.lst (ws.map Kw.d)), some (.str v3), a4, some (.lst tasks), some (.int e), some (.int n), a8, a9, none, some t, none]) (o1 := o) rfl rfl ?_
  have tp := (tk_fact t ht).2.2.1
  refine ev_lc' (ds := ws.map Kw.d) (o1 := o) (by simp only [ev_ie, ev_v2, b_ok, items_lst, r_of_some]) ?_
  refine (lcGo_fk (g := Kw.d) (f := fun w => if k3 w e n t then some w.d else none) (ds := ws) (acc := []) (o := o) (fun w hw => ?_) (by simp; omega)).trans ?_
  · cases hk : k3 w e n t with
    | true =>
      refine turn_y (env' := [some .src, some (.str tx), some (.lst (ws.map Kw.d)), some (.str v3), a4, some (.lst tasks), some (.int e), some (.int n), a8, a9, some w.d, some t, none]) (o1 := o) rfl ?_ ?_
      · simp only [ev_c, ev_c0, ev_cmp, ev_shi, ev_v10, ev_v6, ev_v7, ev_v11, ev_con, b_ok, bnd3, r_of_some, p3_cut, ev_tup, ev_es, ev_es0, eq3 tp, Option.map_some, hk, t_bl, if_true]
      · exact ev_v10
    | false =>
      refine turn_n (env' := [some .src, some (.str tx), some (.lst (ws.map Kw.d)), some (.str v3), a4, some (.lst tasks), some (.int e), some (.int n), a8, a9, some w.d, some t, none]) (o1 := o) rfl ?_
      simp only [ev_c, ev_c0, ev_cmp, ev_shi, ev_v10, ev_v6, ev_v7, ev_v11, ev_con, b_ok, bnd3, r_of_some, p3_cut, ev_tup, ev_es, ev_es0, eq3 tp, Option.map_some, hk, t_bl, if_false, Bool.false_eq_true]
  · rw [List.nil_append]
    congr 1
    rw [← List.filterMap_eq_map, List.filterMap_filter]
    rfl
theorem t_shelf (hW : 10000000 ≤ W) {ws : List Kw} {x : List Nat} (h : Sh ws x) {v3 : List Nat} {e n : Int} {a4 a9 : Option D} : evE (C W (k + 7)) G62 (.cmp .ne (.bi .repr (.cons (.lc [11] (.nm 11) (.e (.var 5)) (.nil) (.call 16 (.cons (.var 1) (.cons (.var 6) (.cons (.var 7) (.cons (.var 11) .nil)))))) .nil)) (.bi .repr (.cons (.lc [12] (.nm 12) (.e (.var 8)) (.nil) (.ite (.cmp .ne (.var 12) (.lst (.nil))) (.slo (.ix (.var 12) (.con (.int 0))) (.con (.int 3))) (.con .non))) .nil))) [some .src, some (.str (shT ws x)), some (.lst (ws.map Kw.d)), some (.str v3), a4, some (.lst tasks), some (.int e), some (.int n), some (.lst (tasks.map (lotD ws e n))), a9, none, none, none] o = .ok (.bl false) o := by
  have e1 : evE (C W (k + 7)) G62 (.lc [11] (.nm 11) (.e (.var 5)) (.nil) (.call 16 (.cons (.var 1) (.cons (.var 6) (.cons (.var 7) (.cons (.var 11) .nil)))))) [some .src, some (.str (shT ws x)), some (.lst (ws.map Kw.d)), some (.str v3), a4, some (.lst tasks), some (.int e), some (.int n), some (.lst (tasks.map (lotD ws e n))), a9, none, none, none] o = .ok (.lst (tasks.map (onSh ws e n))) o := by
    refine ev_lc' (ds := tasks) (o1 := o) (by simp only [ev_ie, ev_v5, b_ok, items_lst, r_of_some]) ?_
    refine (lcGo_map (f := onSh ws e n) (ds := tasks) (acc := []) (o := o) (fun t ht => ?_) (by decide)).trans (by rw [List.nil_append])
    refine turn_y (env' := [some .src, some (.str (shT ws x)), some (.lst (ws.map Kw.d)), some (.str v3), a4, some (.lst tasks), some (.int e), some (.int n), some (.lst (tasks.map (lotD ws e n))), a9, none, some t, none]) (o1 := o) rfl rfl ?_
    have q := c16 (k := k + 1) (o := o) hW h (e := e) (n := n) (tk_fact t ht).2.2.1
    simp only [ev_call, ev_es, ev_es0, ev_v1, ev_v6, ev_v7, ev_v11, b_ok]
    exact q
  have e2 : evE (C W (k + 7)) G62 (.lc [12] (.nm 12) (.e (.var 8)) (.nil) (.ite (.cmp .ne (.var 12) (.lst (.nil))) (.slo (.ix (.var 12) (.con (.int 0))) (.con (.int 3))) (.con .non))) [some .src, some (.str (shT ws x)), some (.lst (ws.map Kw.d)), some (.str v3), a4, some (.lst tasks), some (.int e), some (.int n), some (.lst (tasks.map (lotD ws e n))), a9, none, none, none] o = .ok (.lst (tasks.map (onSh ws e n))) o := by
    refine ev_lc' (ds := tasks.map (lotD ws e n)) (o1 := o) (by simp only [ev_ie, ev_v8, b_ok, items_lst, r_of_some]) ?_
    refine (lcGo_fk (g := lotD ws e n) (f := fun t => some (onSh ws e n t)) (ds := tasks) (acc := []) (o := o) (fun t ht => ?_) (by decide)).trans ?_
    · refine turn_y (env' := [some .src, some (.str (shT ws x)), some (.lst (ws.map Kw.d)), some (.str v3), a4, some (.lst tasks), some (.int e), some (.int n), some (.lst (tasks.map (lotD ws e n))), a9, none, none, some (lotD ws e n t)]) (o1 := o) rfl rfl ?_
      simp only [ev_ite, ev_cmp, ev_v12, ev_lst, ev_es0, b_ok, lot_ne h, Option.map_some, r_of_some, t_bl]
      rw [← onSh_lot]
      cases hh : has ws e n t with
      | false => simp only [if_false, Bool.false_eq_true, ev_con]
      | true =>
        unfold has at hh
        unfold lotD
        cases hf : ws.filter fun w => k3 w e n t with
        | nil => rw [hf] at hh; cases hh
        | cons w r =>
          simp only [if_true, List.map_cons, ev_slo, ev_ix, ev_v12, ev_con, b_ok, ix_lst0, r_of_some, bnd3, q_cut]
    · rw [List.nil_append]
      congr 1
  have r := Rp.lst (ds := tasks.map (onSh ws e n)) (b := 9610) (n := 3) (fun d hd => by
    obtain ⟨t, ht, rfl⟩ := List.mem_map.mp hd
    exact onSh_rp h) (by simp [tasks]) (by decide)
  simp only [ev_cmp, ev_bi, ev_es, ev_es0, b_ok, e1, e2, r, r_of_some, ne_strS, Option.map_some]
theorem t_there {ws : List Kw} {x : List Nat} (h : Sh ws x) {tx v3 : List Nat} {e n : Int} {a4 a6 a7 a9 : Option D} : evE (C W (k + 7)) G62 (.lc [11, 12] (.tup (.cons (.nm 11) (.cons (.nm 12) .nil))) (.zip (.var 5) (.var 8)) (.cons (.cmp .ne (.var 12) (.lst (.nil))) .nil) (.var 11)) [some .src, some (.str tx), some (.lst (ws.map Kw.d)), some (.str v3), a4, some (.lst tasks), a6, a7, some (.lst (tasks.map (lotD ws e n))), a9, none, none, none] o = .ok (.lst (there ws e n)) o := by
  refine ev_lc' (ds := tasks.map fun t => .tup [t, lotD ws e n t]) (o1 := o) ?_ ?_
  · simp only [ev_izip, ev_v5, ev_v8, b_ok]
    rfl
  · refine (lcGo_fk (g := fun t => .tup [t, lotD ws e n t]) (f := fun t => if has ws e n t then some t else none) (ds := tasks) (acc := []) (o := o) (fun t ht => ?_) (by decide)).trans ?_
    · cases hh : has ws e n t with
      | true =>
        refine turn_y (env' := [some .src, some (.str tx), some (.lst (ws.map Kw.d)), some (.str v3), a4, some (.lst tasks), a6, a7, some (.lst (tasks.map (lotD ws e n))), a9, none, some t, some (lotD ws e n t)]) (o1 := o) rfl ?_ ev_v11
        simp only [ev_c, ev_c0, ev_cmp, ev_v12, ev_lst, ev_es0, b_ok, lot_ne h, hh, Option.map_some, r_of_some, t_bl, if_true]
      | false =>
        refine turn_n (env' := [some .src, some (.str tx), some (.lst (ws.map Kw.d)), some (.str v3), a4, some (.lst tasks), a6, a7, some (.lst (tasks.map (lotD ws e n))), a9, none, some t, some (lotD ws e n t)]) (o1 := o) rfl ?_
        simp only [ev_c, ev_c0, ev_cmp, ev_v12, ev_lst, ev_es0, b_ok, lot_ne h, hh, Option.map_some, r_of_some, t_bl, if_false, Bool.false_eq_true]
    · rw [List.nil_append, fm_filter, there]
theorem t_last (hW : 10000000 ≤ W) {ws : List Kw} {x : List Nat} (h : Sh ws x) {v3 : List Nat} {e n : Int} {a4 a8 : Option D} : evE (C W (k + 7)) G62 (.or (.cmp .ne (.call 17 (.cons (.var 1) (.cons (.var 6) (.cons (.var 7) .nil)))) (.bi .tuple (.cons (.bi .sorted (.cons (.var 9) .nil)) .nil))) (.cmp .ne (.call 18 (.cons (.var 1) (.cons (.var 6) (.cons (.var 7) (.cons (.var 5) .nil))))) (.cmp .eq (.bi .len (.cons (.var 9) .nil)) (.con (.int 3))))) [some .src, some (.str (shT ws x)), some (.lst (ws.map Kw.d)), some (.str v3), a4, some (.lst tasks), some (.int e), some (.int n), a8, some (.lst (there ws e n)), none, none, none] o = .ok (.bl false) o := by
  have q1 := c17 (k := k + 1) (o := o) hW h (e := e) (n := n)
  have q2 := c18 (k := k) (o := o) hW h (e := e) (n := n)
  have s := sort_tasks (ds := there ws e n) there_mem (Nat.le_trans there_len (by decide))
  rw [there_srt h] at s
  have fk : ∀ d ∈ tks ws e n, keyF d = true := fun d hd => (tk_fact d (tks_mem h d hd)).2.2.2.2
  have n1 := ne_tasks (ds := srt (tks ws e n)) fun d hd => tks_mem h d ((srt_mem fk d).mp hd)
  have n2 := ne_bl (whole_eq h (e := e) (n := n))
  simp only [ev_or, ev_cmp, ev_call, ev_bi, ev_es, ev_es0, ev_v1, ev_v6, ev_v7, ev_v5, ev_v9, ev_con, b_ok, q1, q2, s, tuple_lst, r_of_some, n1, Option.map_some, t_bl, if_false, Bool.false_eq_true, len_lst, eq_three, n2]

abbrev tb6 : Sts := .cons (.asg (.nm 7) (.bin .add (.con (.int 1)) (.pick 0 (.con (.int 2))))) (.cons (.asg (.nm 8) (.lc [11] (.nm 11) (.e (.var 5)) (.nil) (.lc [10] (.nm 10) (.e (.var 2)) (.cons (.cmp .eq (.shi (.var 10) (.con (.int 3))) (.tup (.cons (.var 6) (.cons (.var 7) (.cons (.var 11) .nil))))) .nil) (.var 10)))) (.cons (.iff (.cmp .ne (.bi .repr (.cons (.lc [11] (.nm 11) (.e (.var 5)) (.nil) (.call 16 (.cons (.var 1) (.cons (.var 6) (.cons (.var 7) (.cons (.var 11) .nil)))))) .nil)) (.bi .repr (.cons (.lc [12] (.nm 12) (.e (.var 8)) (.nil) (.ite (.cmp .ne (.var 12) (.lst (.nil))) (.slo (.ix (.var 12) (.con (.int 0))) (.con (.int 3))) (.con .non))) .nil))) (.cons (.ret (.con (.bl false))) .nil) (.nil)) (.cons (.asg (.nm 9) (.lc [11, 12] (.tup (.cons (.nm 11) (.cons (.nm 12) .nil))) (.zip (.var 5) (.var 8)) (.cons (.cmp .ne (.var 12) (.lst (.nil))) .nil) (.var 11))) (.cons (.iff (.or (.cmp .ne (.call 17 (.cons (.var 1) (.cons (.var 6) (.cons (.var 7) .nil)))) (.bi .tuple (.cons (.bi .sorted (.cons (.var 9) .nil)) .nil))) (.cmp .ne (.call 18 (.cons (.var 1) (.cons (.var 6) (.cons (.var 7) (.cons (.var 5) .nil))))) (.cmp .eq (.bi .len (.cons (.var 9) .nil)) (.con (.int 3))))) (.cons (.ret (.con (.bl false))) .nil) (.nil)) .nil))))
theorem t_round (hW : 10000000 ≤ W) {ws : List Kw} {x : List Nat} (h : Sh ws x) {v3 : List Nat} (e : Int) (a4 a6 a7 a8 a9 : Option D) (o : OS) : ∃ a7' a8' a9' o', ((R.of (asgT (.nm 6) (.int e) [some .src, some (.str (shT ws x)), some (.lst (ws.map Kw.d)), some (.str v3), a4, some (.lst tasks), a6, a7, a8, a9, none, none, none]) o).bind fun env1 o1 => evSs (C W (k + 7)) G62 W tb6 env1 o1) = .ok (.nx [some .src, some (.str (shT ws x)), some (.lst (ws.map Kw.d)), some (.str v3), a4, some (.lst tasks), some (.int e), a7', a8', a9', none, none, none]) o' := by
  have p := pick0 (F := C W (k + 7)) (m := .con (.int 2)) (r := [some (.str (shT ws x)), some (.lst (ws.map Kw.d)), some (.str v3), a4, some (.lst tasks), some (.int e), a7, a8, a9, none, none, none]) (o := o) ev_con (by decide)
  generalize pickF 2 o = po at p
  obtain ⟨r, o1⟩ := po
  simp only at p
  have s1 := lots_at (k := k) (W := W) (o := o1) h (tx := shT ws x) (v3 := v3) (e := e) (n := 1 + r) (a4 := a4) (a8 := a8) (a9 := a9)
  have s2 := t_shelf (k := k) (o := o1) hW h (v3 := v3) (e := e) (n := 1 + r) (a4 := a4) (a9 := a9)
  have s3 := t_there (k := k) (W := W) (o := o1) h (tx := shT ws x) (v3 := v3) (e := e) (n := 1 + r) (a4 := a4) (a6 := some (.int e)) (a7 := some (.int (1 + r))) (a9 := a9)
  have s4 := t_last (k := k) (o := o1) hW h (v3 := v3) (e := e) (n := 1 + r) (a4 := a4) (a8 := some (.lst (tasks.map (lotD ws e (1 + r)))))
  refine ⟨some (.int (1 + r)), some (.lst (tasks.map (lotD ws e (1 + r)))), some (.lst (there ws e (1 + r))), o1, ?_⟩
  refine (for_body (env1 := [some .src, some (.str (shT ws x)), some (.lst (ws.map Kw.d)), some (.str v3), a4, some (.lst tasks), some (.int e), a7, a8, a9, none, none, none]) rfl).trans ?_
  refine (s_asg' (d := .int (1 + r)) (o1 := o1) (by simp only [ev_bin, ev_con, b_ok, p, b_addI, r_of_some])).trans ?_
  refine (s_asg' s1).trans ?_
  refine (s_ifN s2 rfl).trans ?_
  refine (s_asg' s3).trans ?_
  exact (s_ifN s4 rfl).trans rfl
theorem tasks_at {F : Nat → List D → OS → R D} {env : Env} : evE F G62 (.lst (.cons (.tup (.cons (.con (.str [97])) (.cons (.con (.int 0)) .nil))) (.cons (.tup (.cons (.con (.str [98])) (.cons (.con (.int 1)) .nil))) (.cons (.tup (.cons (.con (.str [98])) (.cons (.con (.int 0)) .nil))) .nil)))) env o = .ok (.lst tasks) o := rfl
theorem c24 (hW : 10000000 ≤ W) {ws : List Kw} {x : List Nat} (h : Sh ws x) (hk : 8 ≤ k) : ∃ o', C W (k + 8) 24 [.src, .str (shT ws x), .lst (ws.map Kw.d)] o = .ok (.bl true) o' := by
  suffices g : ∃ o', evSs (C W (k + 7)) G62 W f24.body [some .src, some (.str (shT ws x)), some (.lst (ws.map Kw.d)), none, none, none, none, none, none, none, none, none, none] o = .ok (.rt (.bl true)) o' by
    obtain ⟨o', e⟩ := g
    exact ⟨o', call_rt (fn := f24) rfl rfl e⟩
  unfold f24
  have b1 := t_two (k := k) (o := o) hW h h (a5 := none) (a6 := none) (a7 := none) (a8 := none) (a9 := none)
  have b2 := t_two (k := k) (o := o) hW h h.mend (a5 := none) (a6 := none) (a7 := none) (a8 := none) (a9 := none)
  obtain ⟨p7, p8, p9, o1, r1⟩ := t_round (k := k) hW h (v3 := shT ws []) 0 (some (.str (shT ws []))) none none none none o
  obtain ⟨q7, q8, q9, o2, r2⟩ := t_round (k := k) hW h (v3 := shT ws []) 1 (some (.str (shT ws []))) (some (.int 0)) p7 p8 p9 o1
  refine ⟨o2, ?_⟩
  refine (s_asg' (t_head (W := W) (o := o) h hk)).trans ?_
  refine (s_ifN (t_mend (k := k) (o := o) hW h (r := [none, none, none, none, none, none, none, none, none])) rfl).trans ?_
  refine (s_for' (ds := [.str (shT ws x), .str (shT ws [])]) (o1 := o) (o2 := o) (env1 := [some .src, some (.str (shT ws x)), some (.lst (ws.map Kw.d)), some (.str (shT ws [])), some (.str (shT ws [])), none, none, none, none, none, none, none, none]) ?_ ?_).trans ?_
  · show evI (C W (k + 7)) G62 _ [some .src, some (.str (shT ws x)), some (.lst (ws.map Kw.d)), some (.str (shT ws [])), none, none, none, none, none, none, none, none, none] o = _
    simp only [ev_ie, ev_tup, ev_es, ev_es0, ev_v1, ev_v3, b_ok]
    rfl
  · refine (frGo_cons ((for_body (env1 := [some .src, some (.str (shT ws x)), some (.lst (ws.map Kw.d)), some (.str (shT ws [])), some (.str (shT ws x)), none, none, none, none, none, none, none, none]) rfl).trans ((s_ifN b1 rfl).trans rfl))).trans ?_
    exact (frGo_cons ((for_body (env1 := [some .src, some (.str (shT ws x)), some (.lst (ws.map Kw.d)), some (.str (shT ws [])), some (.str (shT ws [])), none, none, none, none, none, none, none, none]) rfl).trans ((s_ifN b2 rfl).trans rfl))).trans rfl
  refine (s_asg' tasks_at).trans ?_
  refine (s_for' (ds := [.int 0, .int 1]) (o1 := o) (o2 := o2) (env1 := [some .src, some (.str (shT ws x)), some (.lst (ws.map Kw.d)), some (.str (shT ws [])), some (.str (shT ws [])), some (.lst tasks), some (.int 1), q7, q8, q9, none, none, none]) rfl ?_).trans (s_ret' ev_con)
  exact (frGo_cons r1).trans ((frGo_cons r2).trans rfl)
end O.K62
end

section
set_option Elab.async false
set_option linter.all false
set_option maxRecDepth 100000
set_option maxHeartbeats 4000000
/-! OMs: the law's rounds. -/
namespace O.K62
open PySem O
variable {W k : Nat} {o : OS}
theorem s_ifTN {F : Nat → List D → OS → R D} {G : Nat → D} {env env1 : Env} {o1 o2 : OS} {ss a b : Sts} {c : E} {d : D} (h : evE F G c env o = .ok d o1) (ht : truthy d = true) (ha : evSs F G W a env o1 = .ok (.nx env1) o2) : evSs F G W (.cons (.iff c a b) ss) env o = evSs F G W ss env1 o2 := by rw [s_ifT h ht, ha]; rfl
theorem s_ifFN {F : Nat → List D → OS → R D} {G : Nat → D} {env env1 : Env} {o1 o2 : OS} {ss a b : Sts} {c : E} {d : D} (h : evE F G c env o = .ok d o1) (ht : truthy d = false) (ha : evSs F G W b env o1 = .ok (.nx env1) o2) : evSs F G W (.cons (.iff c a b) ss) env o = evSs F G W ss env1 o2 := by rw [s_ifF h ht, ha]; rfl
/-- the law's slots -/
abbrev eL (tx : List Nat) (ws : List Kw) (a2 a5 a6 a7 a8 a9 a10 a11 a12 : Option D) : Env := [none, some .src, a2, some (.str tx), some (.lst (ws.map Kw.d)), a5, a6, a7, a8, a9, a10, a11, a12, none]
theorem l_tail (hW : 10000000 ≤ W) {ws : List Kw} {x : List Nat} (h : Sh ws x) (hk : 8 ≤ k) {a2 a5 a6 a7 a8 a9 a10 a11 a12 : Option D} : ∃ o', evSs (C W (k + 8)) G62 W (.cons (.iff (.not (.call 24 (.cons (.var 1) (.cons (.var 3) (.cons (.var 4) .nil))))) (.cons (.ret (.con (.bl false))) .nil) (.nil)) .nil) (eL (shT ws x) ws a2 a5 a6 a7 a8 a9 a10 a11 a12) o = .ok (.nx (eL (shT ws x) ws a2 a5 a6 a7 a8 a9 a10 a11 a12)) o' := by
  obtain ⟨o', e⟩ := c24 (k := k) (o := o) hW h hk
  refine ⟨o', (s_ifN (d := .bl false) (o1 := o') ?_ rfl).trans rfl⟩
  simp only [ev_not, ev_call, ev_es, ev_es0, ev_v1, ev_v3, ev_v4, b_ok, e, t_bl]
  rfl
theorem sh_snoc {ws : List Kw} {w : Kw} : shT (ws ++ [w]) [] = recT (ws.map fun w => wt w.d) ++ sealT (wt w.d) := by
  unfold shT
  rw [List.map_append, List.map_cons, List.map_nil, recT_append, recT_one, List.append_nil]
theorem Sh.snoc {ws : List Kw} {x : List Nat} (h : Sh ws x) {w : Kw} (hw : KOk w) (hl : ws.length < 40) : Sh (ws ++ [w]) [] := by
  refine ⟨fun v hv => ?_, torn_nil, by simp, by simp; omega⟩
  rcases List.mem_append.mp hv with hv | hv
  · exact h.ok v hv
  · simp at hv; subst hv; exact hw
theorem KOk.seal_len {w : Kw} (hw : KOk w) : (sealT (wt w.d)).length ≤ 811 ∧ 7 ≤ (sealT (wt w.d)).length := by
  have := hw.len
  have := sealT_len (wt w.d) (by omega)
  omega
theorem Sh.cut {ws : List Kw} {x : List Nat} (h : Sh ws x) {w : Kw} (hw : KOk w) {j : Nat} (hj : j < (sealT (wt w.d)).length) : Sh ws ((sealT (wt w.d)).take j) := by
  have := hw.seal_len
  have := hw.len
  refine ⟨h.ok, ⟨wt w.d, j, List.ne_nil_of_length_pos (wt_pos _ hw.ok), by omega, wt_prn _ hw.ok, hj, rfl⟩, ?_, h.few⟩
  rw [List.length_take]
  omega
/-- a record put down -/
theorem r_put (hW : 10000000 ≤ W) {ws : List Kw} {x : List Nat} (h : Sh ws x) (hk : 8 ≤ k) (hl : ws.length < 40) {w : Kw} (hw : KOk w) {a2 a6 a7 a12 : Option D} : evSs (C W (k + 8)) G62 W (.cons (.par [3, 4] (.cons (.call 12 (.cons (.var 3) (.cons (.var 9) (.cons (.var 10) (.cons (.var 8) (.cons (.var 11) (.cons (.ix (.var 5) (.con (.int 4))) .nil))))))) (.cons (.bin .add (.var 4) (.lst (.cons (.var 5) .nil))) .nil))) .nil) (eL (shT ws x) ws a2 (some w.d) a6 a7 (some w.tk) (some (.int w.e)) (some (.int w.n)) (some w.s) a12) o
    = .ok (.nx (eL (shT (ws ++ [w]) []) (ws ++ [w]) a2 (some w.d) a6 a7 (some w.tk) (some (.int w.e)) (some (.int w.n)) (some w.s) a12)) o := by
  have lidE : lid = 16777216 := rfl
  have c := c12 (k := k + 2) (o := o) hW h.shelf.rec_ (e := .int w.e) (n := .int w.n) (t := w.tk) (s := w.s) (m := w.m) hw.ok (by have := hw.dp; unfold Kw.d at this; omega) (by have := hw.len; unfold Kw.d at this; omega)
  rw [map_wt] at c
  have c' : C W (k + 8) 12 [.str (shT ws x), .int w.e, .int w.n, w.tk, w.s, w.m] o = .ok (.str (shT (ws ++ [w]) [])) o := by
    rw [sh_snoc]; exact c
  have i4 : ixD w.d (.int 4) = some w.m := ix4
  have ad : binD .add (.lst (ws.map Kw.d)) (.lst [w.d]) = some (.lst ((ws ++ [w]).map Kw.d)) := by
    rw [b_addL (by simp; omega), List.map_append]; rfl
  refine (s_par' (ds := [.str (shT (ws ++ [w]) []), .lst ((ws ++ [w]).map Kw.d)]) (o1 := o) ?_ rfl).trans rfl
  simp only [ev_es, ev_es0, ev_call, ev_v3, ev_v9, ev_v10, ev_v8, ev_v11, ev_ix, ev_v5, ev_con, b_ok, i4, r_of_some, c', ev_bin, ev_v4, ev_lst, ad]
theorem mend_cut (hW : 10000000 ≤ W) {ws : List Kw} {x : List Nat} (h : Sh ws x) {w : Kw} (hw : KOk w) {j : Nat} : binD .add (.str (recT (ws.map fun w => wt w.d))) (.str ((sealT (wt w.d)).take j)) = some (.str (shT ws ((sealT (wt w.d)).take j))) := by
  have := shT_len h.mend
  rw [shT_nil] at this
  have lidE : lid = 16777216 := rfl
  have := hw.seal_len
  exact b_addS (by rw [List.length_take]; omega)
theorem shi_rec {F : Nat → List D → OS → R D} {env : Env} {s : List Nat} {j : Int} {ea eb : E} {o1 : OS} (h1 : evE F G62 ea env o = .ok (.str s) o) (h2 : evE F G62 eb env o = .ok (.int j) o1) (h0 : 0 ≤ j) (hj : j < 100000) : evE F G62 (.shi ea eb) env o = .ok (.str (s.take j.toNat)) o1 := by
  obtain ⟨n, rfl⟩ : ∃ n : Nat, j = n := ⟨j.toNat, by omega⟩
  have b := bnd_nat (p := n) (by omega)
  simp only [ev_shi, h1, h2, b_ok, b, r_of_some, cutD, cut_to, Int.toNat_natCast]
/-- a torn write of a record, or a whole one -/
theorem r_torn (hW : 10000000 ≤ W) {ws : List Kw} {x : List Nat} (h : Sh ws x) (hk : 8 ≤ k) (hl : ws.length < 40) {w : Kw} (hw : KOk w) (a2 a7 a8 a9 a10 a11 a12 : Option D) (o : OS) : ∃ ws' x' a12' o', evSs (C W (k + 8)) G62 W (.cons (.asg (.nm 12) (.pick 1 (.bin .add (.bi .len (.cons (.var 6) .nil)) (.con (.int 1))))) (.cons (.par [3, 4] (.cons (.bin .add (.call 11 (.cons (.var 3) .nil)) (.shi (.var 6) (.var 12))) (.cons (.bin .add (.var 4) (.ite (.cmp .eq (.var 12) (.bi .len (.cons (.var 6) .nil))) (.lst (.cons (.var 5) .nil)) (.lst (.nil)))) .nil))) .nil)) (eL (shT ws x) ws a2 (some w.d) (some (.str (sealT (wt w.d)))) a7 a8 a9 a10 a11 a12) o
    = .ok (.nx (eL (shT ws' x') ws' a2 (some w.d) (some (.str (sealT (wt w.d)))) a7 a8 a9 a10 a11 a12')) o' ∧ Sh ws' x' ∧ ws'.length ≤ ws.length + 1 := by
  have lidE : lid = 16777216 := rfl
  have sl := hw.seal_len
  have c0 : evE (C W (k + 8)) G62 (.bin .add (.bi .len (.cons (.var 6) .nil)) (.con (.int 1))) (eL (shT ws x) ws a2 (some w.d) (some (.str (sealT (wt w.d)))) a7 a8 a9 a10 a11 a12) o = .ok (.int ((sealT (wt w.d)).length + 1)) o := by
    simp only [ev_bin, ev_bi, ev_es, ev_es0, ev_v6, ev_con, b_ok, len_str, r_of_some, b_addI]
  have p := pick1 c0 (by omega)
  have rg := pick_rng (m := (sealT (wt w.d)).length + 1) (by omega) o
  generalize pickF ((sealT (wt w.d)).length + 1) o = po at p rg
  obtain ⟨j, o1⟩ := po
  simp only at p rg
  have md := mended_at (k := k + 3) (o := o1) hW h
  have mc := mend_cut hW h hw (j := j.toNat)
  have sh : ∀ {a12' : D}, a12' = .int j → evE (C W (k + 8)) G62 (.shi (.var 6) (.var 12)) (eL (shT ws x) ws a2 (some w.d) (some (.str (sealT (wt w.d)))) a7 a8 a9 a10 a11 (some a12')) o1 = .ok (.str ((sealT (wt w.d)).take j.toNat)) o1 := fun {a} e => by
    subst e
    exact shi_rec ev_v6 ev_v12 rg.1 (by omega)
  by_cases hj : j = (sealT (wt w.d)).length
  · refine ⟨ws ++ [w], [], some (.int j), o1, ?_, h.snoc hw hl, by simp⟩
    have tk : (sealT (wt w.d)).take j.toNat = sealT (wt w.d) := List.take_of_length_le (by omega)
    rw [tk] at mc sh
    have mc' : binD .add (.str (recT (ws.map fun w => wt w.d))) (.str (sealT (wt w.d))) = some (.str (shT (ws ++ [w]) [])) := by
      rw [mc, sh_snoc]; rfl
    have ad : binD .add (.lst (ws.map Kw.d)) (.lst [w.d]) = some (.lst ((ws ++ [w]).map Kw.d)) := by
      rw [b_addL (by simp; omega), List.map_append]; rfl
    refine (s_asg' p).trans ?_
    refine (s_par' (ds := [.str (shT (ws ++ [w]) []), .lst ((ws ++ [w]).map Kw.d)]) (o1 := o1) ?_ rfl).trans rfl
    show evEs (C W (k + 8)) G62 _ (eL (shT ws x) ws a2 (some w.d) (some (.str (sealT (wt w.d)))) a7 a8 a9 a10 a11 (some (.int j))) o1 = _
    have eq : ((j == ((sealT (wt w.d)).length : Int)) : Bool) = true := beq_iff_eq.mpr hj
    simp only [ev_es, ev_es0, ev_bin, ev_call, ev_v3, b_ok, md, sh rfl, mc', r_of_some, ev_v4, ev_ite, ev_cmp, ev_v12, ev_bi, ev_v6, len_str, eq_int, eq, Option.map_some, t_bl, if_true, ev_lst, ev_v5, ad]
  · refine ⟨ws, (sealT (wt w.d)).take j.toNat, some (.int j), o1, ?_, h.cut hw (by omega), by omega⟩
    have ad : binD .add (.lst (ws.map Kw.d)) (.lst []) = some (.lst (ws.map Kw.d)) := by
      rw [b_addL (by simp; omega), List.append_nil]
    refine (s_asg' p).trans ?_
    refine (s_par' (ds := [.str (shT ws ((sealT (wt w.d)).take j.toNat)), .lst (ws.map Kw.d)]) (o1 := o1) ?_ rfl).trans rfl
    show evEs (C W (k + 8)) G62 _ (eL (shT ws x) ws a2 (some w.d) (some (.str (sealT (wt w.d)))) a7 a8 a9 a10 a11 (some (.int j))) o1 = _
    have eq : ((j == ((sealT (wt w.d)).length : Int)) : Bool) = false := beq_eq_false_iff_ne.mpr hj
    simp only [ev_es, ev_es0, ev_bin, ev_call, ev_v3, b_ok, md, sh rfl, mc, r_of_some, ev_v4, ev_ite, ev_cmp, ev_v12, ev_bi, ev_v6, len_str, eq_int, eq, Option.map_some, t_bl, if_false, Bool.false_eq_true, ev_lst, ad]
theorem Sh.clr {ws : List Kw} {x : List Nat} (h : Sh ws x) {e n : Int} : Sh (clr ws e n) [] := by
  refine ⟨fun v hv => h.ok v (List.mem_filter.mp hv).1, torn_nil, by simp, ?_⟩
  have : (K62.clr ws e n).length ≤ ws.length := List.length_filter_le ..
  have := h.few
  omega
/-- cleared -/
theorem r_clr (hW : 10000000 ≤ W) {ws : List Kw} {x : List Nat} (h : Sh ws x) (hk : 8 ≤ k) {e n : Int} {a2 a5 a6 a7 a8 a11 a12 : Option D} : evSs (C W (k + 8)) G62 W (.cons (.par [3, 4] (.cons (.call 20 (.cons (.var 3) (.cons (.var 9) (.cons (.var 10) .nil)))) (.cons (.lc [13] (.nm 13) (.e (.var 4)) (.cons (.cmp .ge (.shi (.var 13) (.con (.int 2))) (.tup (.cons (.var 9) (.cons (.var 10) .nil)))) .nil) (.var 13)) .nil))) .nil) (eL (shT ws x) ws a2 a5 a6 a7 a8 (some (.int e)) (some (.int n)) a11 a12) o
    = .ok (.nx (eL (shT (clr ws e n) []) (clr ws e n) a2 a5 a6 a7 a8 (some (.int e)) (some (.int n)) a11 a12)) o := by
  have c := c20 (k := k + 2) (o := o) hW h (by omega) (e := e) (n := n)
  have few := h.few
  have lidE : lid = 16777216 := rfl
  have l : evE (C W (k + 8)) G62 (.lc [13] (.nm 13) (.e (.var 4)) (.cons (.cmp .ge (.shi (.var 13) (.con (.int 2))) (.tup (.cons (.var 9) (.cons (.var 10) .nil)))) .nil) (.var 13)) (eL (shT ws x) ws a2 a5 a6 a7 a8 (some (.int e)) (some (.int n)) a11 a12) o = .ok (.lst ((clr ws e n).map Kw.d)) o := by
    refine ev_lc' (ds := ws.map Kw.d) (o1 := o) (by simp only [ev_ie, ev_v4, b_ok, items_lst, r_of_some]) ?_
    refine (lcGo_fk (g := Kw.d) (f := fun w => if ge2 w e n then some w.d else none) (ds := ws) (acc := []) (o := o) (fun w hw => ?_) (by simp; omega)).trans ?_
    · cases hg : ge2 w e n with
      | true =>
        refine turn_y (env' := [none, some .src, a2, some (.str (shT ws x)), some (.lst (ws.map Kw.d)), a5, a6, a7, a8, some (.int e), some (.int n), a11, a12, some w.d]) (o1 := o) rfl ?_ ev_v13
        simp only [ev_c, ev_c0, ev_cmp, ev_shi, ev_v13, ev_v9, ev_v10, ev_con, b_ok, bnd2, r_of_some, p2_cut, ev_tup, ev_es, ev_es0, ge_p2, Option.map_some, hg, t_bl, if_true]
      | false =>
        refine turn_n (env' := [none, some .src, a2, some (.str (shT ws x)), some (.lst (ws.map Kw.d)), a5, a6, a7, a8, some (.int e), some (.int n), a11, a12, some w.d]) (o1 := o) rfl ?_
        simp only [ev_c, ev_c0, ev_cmp, ev_shi, ev_v13, ev_v9, ev_v10, ev_con, b_ok, bnd2, r_of_some, p2_cut, ev_tup, ev_es, ev_es0, ge_p2, Option.map_some, hg, t_bl, if_false, Bool.false_eq_true]
    · rw [List.nil_append]
      congr 1
      unfold K62.clr
      rw [← List.filterMap_eq_map, List.filterMap_filter]
      rfl
  refine (s_par' (ds := [.str (shT (K62.clr ws e n) []), .lst ((K62.clr ws e n).map Kw.d)]) (o1 := o) ?_ rfl).trans rfl
  simp only [ev_es, ev_es0, ev_call, ev_v3, ev_v9, ev_v10, b_ok, c, l]
/-- a torn end -/
theorem r_end (hW : 10000000 ≤ W) {ws : List Kw} {x : List Nat} (h : Sh ws x) (hk : 8 ≤ k) {w : Kw} (hw : KOk w) (a2 a5 a7 a8 a9 a10 a11 a12 : Option D) (o : OS) : ∃ x' o', evSs (C W (k + 8)) G62 W (.cons (.asg (.nm 3) (.bin .add (.call 11 (.cons (.var 3) .nil)) (.shi (.var 6) (.pick 1 (.con (.int 5)))))) .nil) (eL (shT ws x) ws a2 a5 (some (.str (sealT (wt w.d)))) a7 a8 a9 a10 a11 a12) o
    = .ok (.nx (eL (shT ws x') ws a2 a5 (some (.str (sealT (wt w.d)))) a7 a8 a9 a10 a11 a12)) o' ∧ Sh ws x' := by
  have p := pick1 (F := C W (k + 8)) (m := .con (.int 5)) (a := none) (r := [a2, some (.str (shT ws x)), some (.lst (ws.map Kw.d)), a5, some (.str (sealT (wt w.d))), a7, a8, a9, a10, a11, a12, none]) (o := o) ev_con (by decide)
  have rg := pick_rng (m := 5) (by decide) o
  generalize pickF 5 o = po at p rg
  obtain ⟨j, o1⟩ := po
  simp only at p rg
  have sl := hw.seal_len
  have md := mended_at (k := k + 3) (o := o) hW h
  have mc := mend_cut hW h hw (j := j.toNat)
  have sh := shi_rec (F := C W (k + 8)) (env := eL (shT ws x) ws a2 a5 (some (.str (sealT (wt w.d)))) a7 a8 a9 a10 a11 a12) (o := o) (ea := .var 6) ev_v6 p rg.1 (by omega)
  refine ⟨(sealT (wt w.d)).take j.toNat, o1, ?_, h.cut hw (by omega)⟩
  refine (s_asg' (d := .str (shT ws ((sealT (wt w.d)).take j.toNat))) (o1 := o1) ?_).trans rfl
  simp only [ev_bin, ev_call, ev_es, ev_es0, ev_v3, b_ok, md, sh, mc, r_of_some]
end O.K62
end

section
set_option Elab.async false
set_option linter.all false
set_option maxRecDepth 100000
set_option maxHeartbeats 4000000
/-! OMt: one round of the law, its loop, its answer. -/
namespace O.K62
open PySem O
variable {W k : Nat} {o : OS}
theorem task_at {r : Int} (h0 : 0 ≤ r) (h3 : r < 3) : ∃ (a : List Nat) (j : Int), ixD (.lst tasks) (.int r) = some (.tup [.str a, .int j]) ∧ (.tup [.str a, .int j]) ∈ tasks ∧ 0 ≤ j ∧ wOk (.tup [.str a, .int j]) = true ∧ (wt (.tup [.str a, .int j])).length = 9 := by
  have hr : r = 0 ∨ r = 1 ∨ r = 2 := by omega
  rcases hr with rfl | rfl | rfl
  · exact ⟨[97], 0, rfl, by simp [tasks, taskA], by decide, by decide, by decide +kernel⟩
  · exact ⟨[98], 1, rfl, by simp [tasks, taskB], by decide, by decide, by decide +kernel⟩
  · exact ⟨[98], 0, rfl, by simp [tasks, taskC], by decide, by decide, by decide +kernel⟩
theorem mark_at {r : Int} (h0 : 0 ≤ r) (h2 : r < 2) : ∃ m, ixD (.lst [.non, .int 4]) (.int r) = some m ∧ (m = .non ∨ m = .int 4) := by
  have hr : r = 0 ∨ r = 1 := by omega
  rcases hr with rfl | rfl
  · exact ⟨.non, rfl, .inl rfl⟩
  · exact ⟨.int 4, rfl, .inr rfl⟩
theorem small_len {i : Int} (h : i = 0 ∨ i = 1 ∨ i = 2 ∨ i = 4) : (wt (.int i)).length = 3 := by
  rcases h with rfl | rfl | rfl | rfl <;> decide +kernel
/-- the word that is drawn in a round -/
theorem KOk.mk' {e n j : Int} {a : List Nat} {s m : D} (he : 0 ≤ e ∧ e < 2) (hn : 1 ≤ n ∧ n < 3) (ht : (D.tup [.str a, .int j]) ∈ tasks) (hj : 0 ≤ j) (ho : wOk (.tup [.str a, .int j]) = true) (hl : (wt (.tup [.str a, .int j])).length = 9) (hs : Wd 3 s) (hm : m = .non ∨ m = .int 4) : KOk ⟨e, n, a, j, s, m⟩ := by
  have l1 := hs.len
  have e1 : lenB 3 = 215 := by decide
  have le := small_len (i := e) (by omega)
  have ln := small_len (i := n) (by omega)
  have dm : wOk m = true ∧ depth m = 0 ∧ (wt m).length ≤ 3 := by
    rcases hm with rfl | rfl
    · exact ⟨rfl, rfl, by decide⟩
    · exact ⟨by decide, rfl, Nat.le_of_eq (small_len (.inr (.inr (.inr rfl))))⟩
  obtain ⟨m1, m2, m3⟩ := dm
  refine ⟨?_, ?_, ht, hj, hm, ?_, ?_, ?_⟩
  · show e = 0 ∨ e = 1; omega
  · show n = 1 ∨ n = 2; omega
  · show wOkL [.int e, .int n, .tup [.str a, .int j], s, m] = true
    simp only [wOkL, ho, hs.ok, m1, Bool.and_true]
    simp only [wOk, Bool.and_eq_true, decide_eq_true_eq]
    omega
  · show depth (.tup [.int e, .int n, .tup [.str a, .int j], s, m]) ≤ 8
    have := hs.dp
    simp only [depth, depthL]
    omega
  · show (wt (.tup [.int e, .int n, .tup [.str a, .int j], s, m])).length < 800
    show (40 :: (wtL [.int e, .int n, .tup [.str a, .int j], s, m] ++ [41])).length < 800
    simp only [wtL, List.length_cons, List.length_append, List.length_nil]
    omega
abbrev roads : Sts := .cons (.iff (.cmp .lt (.var 7) (.con (.int 4))) (.cons (.par [3, 4] (.cons (.call 12 (.cons (.var 3) (.cons (.var 9) (.cons (.var 10) (.cons (.var 8) (.cons (.var 11) (.cons (.ix (.var 5) (.con (.int 4))) .nil))))))) (.cons (.bin .add (.var 4) (.lst (.cons (.var 5) .nil))) .nil))) .nil) (.cons (.iff (.cmp .lt (.var 7) (.con (.int 6))) (.cons (.asg (.nm 12) (.pick 1 (.bin .add (.bi .len (.cons (.var 6) .nil)) (.con (.int 1))))) (.cons (.par [3, 4] (.cons (.bin .add (.call 11 (.cons (.var 3) .nil)) (.shi (.var 6) (.var 12))) (.cons (.bin .add (.var 4) (.ite (.cmp .eq (.var 12) (.bi .len (.cons (.var 6) .nil))) (.lst (.cons (.var 5) .nil)) (.lst (.nil)))) .nil))) .nil)) (.cons (.iff (.cmp .eq (.var 7) (.con (.int 6))) (.cons (.par [3, 4] (.cons (.call 20 (.cons (.var 3) (.cons (.var 9) (.cons (.var 10) .nil)))) (.cons (.lc [13] (.nm 13) (.e (.var 4)) (.cons (.cmp .ge (.shi (.var 13) (.con (.int 2))) (.tup (.cons (.var 9) (.cons (.var 10) .nil)))) .nil) (.var 13)) .nil))) .nil) (.cons (.asg (.nm 3) (.bin .add (.call 11 (.cons (.var 3) .nil)) (.shi (.var 6) (.pick 1 (.con (.int 5)))))) .nil)) .nil)) .nil)) (.cons (.iff (.not (.call 24 (.cons (.var 1) (.cons (.var 3) (.cons (.var 4) .nil))))) (.cons (.ret (.con (.bl false))) .nil) (.nil)) .nil)
theorem l_roads (hW : 10000000 ≤ W) {ws : List Kw} {x : List Nat} (h : Sh ws x) (hk : 8 ≤ k) (hl : ws.length < 40) {w : Kw} (hw : KOk w) (r : Int) (a2 a12 : Option D) (o : OS) : ∃ ws' x' a12' o', evSs (C W (k + 8)) G62 W roads (eL (shT ws x) ws a2 (some w.d) (some (.str (sealT (wt w.d)))) (some (.int r)) (some w.tk) (some (.int w.e)) (some (.int w.n)) (some w.s) a12) o
    = .ok (.nx (eL (shT ws' x') ws' a2 (some w.d) (some (.str (sealT (wt w.d)))) (some (.int r)) (some w.tk) (some (.int w.e)) (some (.int w.n)) (some w.s) a12')) o' ∧ Sh ws' x' ∧ ws'.length ≤ ws.length + 1 := by
  have c4 : evE (C W (k + 8)) G62 (.cmp .lt (.var 7) (.con (.int 4))) (eL (shT ws x) ws a2 (some w.d) (some (.str (sealT (wt w.d)))) (some (.int r)) (some w.tk) (some (.int w.e)) (some (.int w.n)) (some w.s) a12) o = .ok (.bl (decide (r < 4))) o := by
    simp only [ev_cmp, ev_v7, ev_con, b_ok, lt_int, Option.map_some, r_of_some]
  have c6 : evE (C W (k + 8)) G62 (.cmp .lt (.var 7) (.con (.int 6))) (eL (shT ws x) ws a2 (some w.d) (some (.str (sealT (wt w.d)))) (some (.int r)) (some w.tk) (some (.int w.e)) (some (.int w.n)) (some w.s) a12) o = .ok (.bl (decide (r < 6))) o := by
    simp only [ev_cmp, ev_v7, ev_con, b_ok, lt_int, Option.map_some, r_of_some]
  have ce : evE (C W (k + 8)) G62 (.cmp .eq (.var 7) (.con (.int 6))) (eL (shT ws x) ws a2 (some w.d) (some (.str (sealT (wt w.d)))) (some (.int r)) (some w.tk) (some (.int w.e)) (some (.int w.n)) (some w.s) a12) o = .ok (.bl (r == 6)) o := by
    simp only [ev_cmp, ev_v7, ev_con, b_ok, eq_int, Option.map_some, r_of_some]
  by_cases h4 : r < 4
  · have s' := h.snoc hw hl
    obtain ⟨o', t⟩ := l_tail (k := k) (o := o) hW s' hk (a2 := a2) (a5 := some w.d) (a6 := some (.str (sealT (wt w.d)))) (a7 := some (.int r)) (a8 := some w.tk) (a9 := some (.int w.e)) (a10 := some (.int w.n)) (a11 := some w.s) (a12 := a12)
    exact ⟨ws ++ [w], [], a12, o', (s_ifTN c4 (by simpa using h4) (r_put hW h hk hl hw)).trans t, s', by simp⟩
  · by_cases h6 : r < 6
    · obtain ⟨ws', x', a12', o1, e1, s', l'⟩ := r_torn (k := k) hW h hk hl hw a2 (some (.int r)) (some w.tk) (some (.int w.e)) (some (.int w.n)) (some w.s) a12 o
      obtain ⟨o', t⟩ := l_tail (k := k) (o := o1) hW s' hk (a2 := a2) (a5 := some w.d) (a6 := some (.str (sealT (wt w.d)))) (a7 := some (.int r)) (a8 := some w.tk) (a9 := some (.int w.e)) (a10 := some (.int w.n)) (a11 := some w.s) (a12 := a12')
      exact ⟨ws', x', a12', o', (s_ifFN c4 (by simpa using h4) ((s_ifTN c6 (by simpa using h6) e1).trans rfl)).trans t, s', l'⟩
    · by_cases h7 : r = 6
      · have s' := h.clr (e := w.e) (n := w.n)
        obtain ⟨o', t⟩ := l_tail (k := k) (o := o) hW s' hk (a2 := a2) (a5 := some w.d) (a6 := some (.str (sealT (wt w.d)))) (a7 := some (.int r)) (a8 := some w.tk) (a9 := some (.int w.e)) (a10 := some (.int w.n)) (a11 := some w.s) (a12 := a12)
        have : (clr ws w.e w.n).length ≤ ws.length := List.length_filter_le ..
        exact ⟨clr ws w.e w.n, [], a12, o', (s_ifFN c4 (by simpa using h4) ((s_ifFN c6 (by simpa using h6) ((s_ifTN ce (by simpa using h7) (r_clr hW h hk)).trans rfl)).trans rfl)).trans t, s', by omega⟩
      · obtain ⟨x', o1, e1, s'⟩ := r_end (k := k) hW h hk hw a2 (some w.d) (some (.int r)) (some w.tk) (some (.int w.e)) (some (.int w.n)) (some w.s) a12 o
        obtain ⟨o', t⟩ := l_tail (k := k) (o := o1) hW s' hk (a2 := a2) (a5 := some w.d) (a6 := some (.str (sealT (wt w.d)))) (a7 := some (.int r)) (a8 := some w.tk) (a9 := some (.int w.e)) (a10 := some (.int w.n)) (a11 := some w.s) (a12 := a12)
        exact ⟨ws, x', a12, o', (s_ifFN c4 (by simpa using h4) ((s_ifFN c6 (by simpa using h6) ((s_ifFN ce (by simpa using h7) e1).trans rfl)).trans rfl)).trans t, s', by omega⟩
abbrev drawn : Sts := .cons (.par [7, 8] (.cons (.pick 1 (.con (.int 8))) (.cons (.ix (.lst (.cons (.tup (.cons (.con (.str [97])) (.cons (.con (.int 0)) .nil))) (.cons (.tup (.cons (.con (.str [98])) (.cons (.con (.int 1)) .nil))) (.cons (.tup (.cons (.con (.str [98])) (.cons (.con (.int 0)) .nil))) .nil)))) (.pick 1 (.con (.int 3)))) .nil))) (.cons (.asg (.tup (.cons (.nm 9) (.cons (.nm 10) (.cons (.nm 11) .nil)))) (.tup (.cons (.pick 1 (.con (.int 2))) (.cons (.bin .add (.con (.int 1)) (.pick 1 (.con (.int 2)))) (.cons (.call 23 (.cons (.var 1) (.cons (.con (.int 3)) .nil))) .nil))))) (.cons (.asg (.nm 5) (.tup (.cons (.var 9) (.cons (.var 10) (.cons (.var 8) (.cons (.var 11) (.cons (.ix (.lst (.cons (.con .non) (.cons (.con (.int 4)) .nil))) (.pick 1 (.con (.int 2)))) .nil))))))) (.cons (.asg (.nm 6) (.call 10 (.cons (.var 9) (.cons (.var 10) (.cons (.var 8) (.cons (.var 11) (.cons (.ix (.var 5) (.con (.int 4))) .nil))))))) (.cons (.iff (.or (.cmp .ne (.var 6) (.call 22 (.cons (.call 21 (.cons (.var 5) .nil)) .nil))) (.cmp .ne (.call 0 (.cons (.var 5) .nil)) (.call 21 (.cons (.var 5) .nil)))) (.cons (.ret (.con (.bl false))) .nil) (.nil)) roads))))
theorem l_round (hW : 10000000 ≤ W) {ws : List Kw} {x : List Nat} (h : Sh ws x) (hk : 8 ≤ k) (hl : ws.length < 40) (a2 a5 a6 a7 a8 a9 a10 a11 a12 : Option D) (o : OS) : ∃ ws' x' b5 b6 b7 b8 b9 b10 b11 b12 o', evSs (C W (k + 8)) G62 W drawn (eL (shT ws x) ws a2 a5 a6 a7 a8 a9 a10 a11 a12) o
    = .ok (.nx (eL (shT ws' x') ws' a2 b5 b6 b7 b8 b9 b10 b11 b12)) o' ∧ Sh ws' x' ∧ ws'.length ≤ ws.length + 1 := by
  have p1 := fun (r : Env) (q : Int) (hq : q < 1073741824) (o : OS) => pick1 (F := C W (k + 8)) (m := .con (.int q)) (a := none) (r := r) (o := o) ev_con hq
  -- the road, the task
  have k1 := p1 [a2, some (.str (shT ws x)), some (.lst (ws.map Kw.d)), a5, a6, a7, a8, a9, a10, a11, a12, none] 8 (by decide) o
  generalize pickF 8 o = po at k1
  obtain ⟨r, o1⟩ := po
  simp only at k1
  have k2 := p1 [a2, some (.str (shT ws x)), some (.lst (ws.map Kw.d)), a5, a6, a7, a8, a9, a10, a11, a12, none] 3 (by decide) o1
  have g2 := pick_rng (m := 3) (by decide) o1
  generalize pickF 3 o1 = po at k2 g2
  obtain ⟨r2, o2⟩ := po
  simp only at k2 g2
  obtain ⟨a, j, it, mt, j0, ot, lt⟩ := task_at g2.1 g2.2
  -- epoch, number, state
  have k3 := p1 [a2, some (.str (shT ws x)), some (.lst (ws.map Kw.d)), a5, a6, some (.int r), some (.tup [.str a, .int j]), a9, a10, a11, a12, none] 2 (by decide) o2
  have g3 := pick_rng (m := 2) (by decide) o2
  generalize pickF 2 o2 = po at k3 g3
  obtain ⟨e, o3⟩ := po
  simp only at k3 g3
  have k4 := p1 [a2, some (.str (shT ws x)), some (.lst (ws.map Kw.d)), a5, a6, some (.int r), some (.tup [.str a, .int j]), a9, a10, a11, a12, none] 2 (by decide) o3
  have g4 := pick_rng (m := 2) (by decide) o3
  generalize pickF 2 o3 = po at k4 g4
  obtain ⟨n, o4⟩ := po
  simp only at k4 g4
  obtain ⟨s, o5, k5, ws5⟩ := c23 (W := W) (k + 8) 3 o4 (by omega) (by decide)
  have k5 : C W (k + 8) 23 [.src, .int 3] o4 = .ok s o5 := k5
  -- the mark
  have k6 := p1 [a2, some (.str (shT ws x)), some (.lst (ws.map Kw.d)), a5, a6, some (.int r), some (.tup [.str a, .int j]), some (.int e), some (.int (1 + n)), some s, a12, none] 2 (by decide) o5
  have g6 := pick_rng (m := 2) (by decide) o5
  generalize pickF 2 o5 = po at k6 g6
  obtain ⟨r6, o6⟩ := po
  simp only at k6 g6
  obtain ⟨m, im, hm⟩ := mark_at g6.1 g6.2
  have hw := KOk.mk' (e := e) (n := 1 + n) (m := m) g3 ⟨by omega, by omega⟩ mt j0 ot lt ws5 hm
  have dp := hw.dp
  have ln := hw.len
  have r10 := c10 (W := W) (k := k + 4) (o := o6) (e := .int e) (n := .int (1 + n)) (t := .tup [.str a, .int j]) (s := s) (m := m) hw.ok (by unfold Kw.d Kw.tk at dp; simp only at dp; omega) (by unfold Kw.d Kw.tk at ln; simp only at ln; omega)
  generalize hv : (⟨e, 1 + n, a, j, s, m⟩ : Kw) = w at hw dp ln
  have hd : w.d = keptD (.int e) (.int (1 + n)) (.tup [.str a, .int j]) s m := by subst hv; rfl
  rw [← hd] at r10
  have r21 := c21 (W := W) (k + 8) w.d (by omega) hw.ok (by omega) o6
  have r0 := c0 (W := W) (k + 8) w.d (by omega) hw.ok (by omega) o6
  have r22 := c22 (W := W) (k := k + 7) (o := o6) (s := wt w.d) (by omega)
  have r22 : C W (k + 8) 22 [.str (wt w.d)] o6 = .ok (.str (sealT (wt w.d))) o6 := r22
  have r10 : C W (k + 8) 10 [.int e, .int (1 + n), .tup [.str a, .int j], s, m] o6 = .ok (.str (sealT (wt w.d))) o6 := r10
  have i4 : ixD w.d (.int 4) = some m := by rw [hd]; exact ix4
  obtain ⟨ws', x', b12, o', er, s', l'⟩ := l_roads (k := k) hW h hk hl hw r a2 a12 o6
  refine ⟨ws', x', some w.d, some (.str (sealT (wt w.d))), some (.int r), some w.tk, some (.int w.e), some (.int w.n), some w.s, b12, o', ?_, s', l'⟩
  refine (s_par' (ds := [.int r, .tup [.str a, .int j]]) (o1 := o2) (env1 := eL (shT ws x) ws a2 a5 a6 (some (.int r)) (some (.tup [.str a, .int j])) a9 a10 a11 a12) ?_ rfl).trans ?_
  · simp only [ev_es, ev_es0, b_ok, k1]
    rw [ev_ix, tasks_at]
    simp only [b_ok, k2, it, r_of_some]
  refine (s_asgT (d := .tup [.int e, .int (1 + n), s]) (o1 := o5) (env1 := eL (shT ws x) ws a2 a5 a6 (some (.int r)) (some (.tup [.str a, .int j])) (some (.int e)) (some (.int (1 + n))) (some s) a12) ?_ rfl).trans ?_
  · simp only [ev_tup, ev_es, ev_es0, b_ok, k3, ev_bin, ev_con, k4, b_addI, r_of_some, ev_call, ev_v1, k5]
  refine (s_asg' (d := w.d) (o1 := o6) ?_).trans ?_
  · rw [hd]
    simp only [ev_tup, ev_es, ev_es0, b_ok, ev_v9, ev_v10, ev_v8, ev_v11, ev_ix, ev_lst, ev_con, k6, im, r_of_some]
  refine (s_asg' (d := .str (sealT (wt w.d))) (o1 := o6) ?_).trans ?_
  · show evE (C W (k + 8)) G62 _ (eL (shT ws x) ws a2 (some w.d) a6 (some (.int r)) (some (.tup [.str a, .int j])) (some (.int e)) (some (.int (1 + n))) (some s) a12) o6 = _
    simp only [ev_call, ev_es, ev_es0, b_ok, ev_v9, ev_v10, ev_v8, ev_v11, ev_ix, ev_v5, ev_con, i4, r_of_some, r10]
  refine (s_ifN (d := .bl false) (o1 := o6) ?_ rfl).trans ?_
  · show evE (C W (k + 8)) G62 _ (eL (shT ws x) ws a2 (some w.d) (some (.str (sealT (wt w.d)))) (some (.int r)) (some (.tup [.str a, .int j])) (some (.int e)) (some (.int (1 + n))) (some s) a12) o6 = _
    simp only [ev_or, ev_cmp, ev_v6, ev_call, ev_es, ev_es0, b_ok, ev_v5, r21, r22, r0, ne_strS, Option.map_some, r_of_some, t_bl, if_false, Bool.false_eq_true]
  have e1 : some (D.int w.e) = some (.int e) := by subst hv; rfl
  have e2 : some (D.int w.n) = some (.int (1 + n)) := by subst hv; rfl
  have e3 : some w.s = some s := by subst hv; rfl
  have e4 : some w.tk = some (.tup [.str a, .int j]) := by subst hv; rfl
  rw [e1, e2, e3, e4] at er
  rw [e1, e2, e3, e4]
  exact er
theorem l_loop (hW : 10000000 ≤ W) (hk : 8 ≤ k) : ∀ (is : List D) (ws : List Kw) (x : List Nat) (a2 a5 a6 a7 a8 a9 a10 a11 a12 : Option D) (o : OS), Sh ws x → ws.length + is.length < 40 → ∃ env' o', frGo (fun d env o => (R.of (asgT (.nm 2) d env) o).bind fun env1 o1 => evSs (C W (k + 8)) G62 W drawn env1 o1) is (eL (shT ws x) ws a2 a5 a6 a7 a8 a9 a10 a11 a12) o = .ok (.nx env') o'
  | [], ws, x, a2, a5, a6, a7, a8, a9, a10, a11, a12, o, h, hl => ⟨_, o, rfl⟩
  | i :: is, ws, x, a2, a5, a6, a7, a8, a9, a10, a11, a12, o, h, hl => by
    rw [List.length_cons] at hl
    obtain ⟨ws', x', b5, b6, b7, b8, b9, b10, b11, b12, o1, e, s', l'⟩ := l_round (k := k) hW h hk (by omega) (some i) a5 a6 a7 a8 a9 a10 a11 a12 o
    obtain ⟨env', o', e'⟩ := l_loop hW hk is ws' x' (some i) b5 b6 b7 b8 b9 b10 b11 b12 o1 s' (by omega)
    exact ⟨env', o', (frGo_cons ((for_body (env1 := eL (shT ws x) ws (some i) a5 a6 a7 a8 a9 a10 a11 a12) rfl).trans e)).trans e'⟩
theorem law_ev (hW : 10000000 ≤ W) (hk : 8 ≤ k) (o : OS) : ∃ o', evSs (C W (k + 8)) G62 W f25.body (none :: some .src :: List.replicate 12 none) o = .ok (.rt (.bl true)) o' := by
  have s0 : Sh [] [] := ⟨by simp, torn_nil, by simp, by simp⟩
  obtain ⟨env', o', e⟩ := l_loop (k := k) hW hk (range 0 14) [] [] none none none none none none none none none o s0 (by simp [range])
  refine ⟨o', ?_⟩
  unfold f25
  refine (s_par' (ds := [.str [], .lst []]) (o1 := o) (env1 := eL (shT [] []) [] none none none none none none none none none) ?_ rfl).trans ?_
  · simp only [ev_es, ev_es0, ev_con, ev_lst, b_ok]
  exact (s_for' (ds := range 0 14) (o1 := o) rfl e).trans (s_ret' ev_con)
end O.K62
end

set_option Elab.async false
set_option linter.all false
set_option maxRecDepth 100000
set_option maxHeartbeats 0
/-! OFin62: k62: its defs keep their promises, the law's def too, if the terms answer so. -/
namespace O.K62
open PySem PySem.Spec PyProof.Rows L2
section
variable {K : PySem.W.Frag} {h : Heap} {mg : PySem.Str → Option Value} {w : World}
def ct62 (K : PySem.W.Frag) : Nat → Value := fun c => if c = 1 then .ref (He.ga K "BadText") else .ref (He.ga K "BadDisk")
theorem initT (c : Sx w K) : ∃ fI cc cda fd, InitC Rw.prog K (He.ga K "BadText") fI cc cda "place" "BadText.__init__" fd := by
  obtain ⟨e1, e2⟩ := c.iniT 0 (d := iniOf "BadText" "BadText.__init__" 3) rfl
  exact IniD.initC (d := iniOf "BadText" "BadText.__init__" 3) e1 e2 rfl rfl rfl rfl rfl (by decide +kernel) (fun _ _ _ _ _ _ _ _ _ => rfl) (by decide +kernel) (by decide +kernel) (by decide +kernel) (by decide +kernel) (by decide +kernel) (by decide +kernel) (by decide +kernel)
theorem initD (c : Sx w K) : ∃ fI cc cda fd, InitC Rw.prog K (He.ga K "BadDisk") fI cc cda "place" "BadDisk.__init__" fd := by
  obtain ⟨e1, e2⟩ := c.iniT 1 (d := iniOf "BadDisk" "BadDisk.__init__" 4) rfl
  exact IniD.initC (d := iniOf "BadDisk" "BadDisk.__init__" 4) e1 e2 rfl rfl rfl rfl rfl (by decide +kernel) (fun _ _ _ _ _ _ _ _ _ => rfl) (by decide +kernel) (by decide +kernel) (by decide +kernel) (by decide +kernel) (by decide +kernel) (by decide +kernel) (by decide +kernel)
theorem strV_of {s : PySem.Str} {l : List Nat} (h : l.toArray = s.cps) : strV l = s := by
  cases s
  simp only at h
  subst h
  rfl
theorem outs_ok (X : K.In h) (G : h.Ns mainGlobals mg) (c : Sx w K) : ∀ y ∈ outs, mg y = none := by
  intro y hy
  simp only [outs, List.mem_cons, List.not_mem_nil, or_false] at hy
  rcases hy with rfl | rfl | rfl | rfl | rfl | rfl | rfl | rfl | rfl | rfl | rfl | rfl | rfl | rfl | rfl | rfl | rfl | rfl | rfl | rfl | rfl
  · exact fr X G c 29 rfl
  · exact fr X G c 30 rfl
  · exact fr X G c 31 rfl
  · exact fr X G c 32 rfl
  · exact fr X G c 33 rfl
  · exact fr X G c 34 rfl
  · exact fr X G c 35 rfl
  · exact fr X G c 36 rfl
  · exact fr X G c 37 rfl
  · exact fr X G c 38 rfl
  · exact fr X G c 39 rfl
  · exact fr X G c 40 rfl
  · exact fr X G c 41 rfl
  · exact fr X G c 42 rfl
  · exact fr X G c 43 rfl
  · exact fr X G c 44 rfl
  · exact fr X G c 45 rfl
  · exact fr X G c 46 rfl
  · exact fr X G c 47 rfl
  · exact fr X G c 48 rfl
  · exact fr X G c 49 rfl
theorem table (A : Addr → Prop) (H : Hp) (q : Option (Addr × Addr)) : ∀ s r, keyG (.dct [(.str [78], .non), (.str [84], .bl true), (.str [70], .bl false)]) (.str s) = some r →
    (r = none ∧ strV s ∉ (["N", "T", "F"] : List PySem.Str)) ∨ ∃ p z, p ∈ ([("N", .non), ("T", .bl true), ("F", .bl false)] : List (PySem.Str × He.Dv)) ∧ p.1 = strV s ∧ r = some z ∧ ∀ A H, Rep K q A 0 H (p.2.v K) z := by
  intro s r e
  have inj : ∀ {l : List Nat} {x : PySem.Str}, l.toArray = x.cps → strV s = x → s = l := fun {l x} h1 h2 => by
    have := congrArg PySem.Str.cps (h2.trans (strV_of h1).symm)
    simpa [strV] using this
  by_cases h1 : s = [78]
  · subst h1
    cases e
    exact .inr ⟨("N", .non), .non, by simp, (strV_of rfl).symm, rfl, fun A H => by unfold Rep; rfl⟩
  · by_cases h2 : s = [84]
    · subst h2
      cases e
      exact .inr ⟨("T", .bl true), .bl true, by simp, (strV_of rfl).symm, rfl, fun A H => by unfold Rep; rfl⟩
    · by_cases h3 : s = [70]
      · subst h3
        cases e
        exact .inr ⟨("F", .bl false), .bl false, by simp, (strV_of rfl).symm, rfl, fun A H => by unfold Rep; rfl⟩
      · refine .inl ⟨?_, fun z => ?_⟩
        · have b : ∀ {l : List Nat}, s ≠ l → eqD (.str l) (.str s) = false := fun {l} n => by simp [eqD]; exact fun z => n z.symm
          simp only [keyG, List.find?_cons, b h1, b h2, b h3, List.find?_nil, Option.map_none, Option.some.injEq] at e
          exact e.symm
        · simp only [List.mem_cons, List.not_mem_nil, or_false] at z
          rcases z with z | z | z
          · exact h1 (inj rfl z)
          · exact h2 (inj rfl z)
          · exact h3 (inj rfl z)
theorem mok (X : K.In h) (G : h.Ns mainGlobals mg) (c : Sx w K) (q : Option (Addr × Addr)) : MOk Rw.prog w K mg h ⟨K, q, ct62 K⟩ M G62 := by
  refine ⟨rfl, outs_ok X G c, fun y i hy => ?_, fun y i hy X' hw hK hm => ?_, fun y cc hy X' hp hw hK hm hb hc hg hr hgl => ?_, fun y cc hy => ?_⟩
  · simp only [M] at hy
    split at hy
    · rename_i e
      cases hy
      subst e
      obtain ⟨t, ht⟩ := He.str_ok X G (fact c 50 (f := .str "DIGITS" "0123456789") rfl)
      refine ⟨_, .str "0123456789", ht, ⟨t, rfl⟩, fun A H => ?_⟩
      show Rep K q A 0 H (.str "0123456789") (.str [48, 49, 50, 51, 52, 53, 54, 55, 56, 57])
      rw [show ("0123456789" : PySem.Str) = strV [48, 49, 50, 51, 52, 53, 54, 55, 56, 57] from (strV_of rfl).symm]
      unfold Rep
      exact ⟨rfl, by decide, by decide⟩
    · cases hy
  · simp only [M] at hy
    split at hy
    · rename_i e
      cases hy
      subst e
      have hd : He.dicW K (He.ga K "SMALL") = some (He.keysIn w.params ["N", "T", "F"]) := by
        have e := congrArg (fun z : He.AlT => z.2) c.t
        exact List.head_eq_of_cons_eq e
      refine kdOk_of (a := He.ga K "SMALL") (ks := ["N", "T", "F"]) (vals := [("N", .non), ("T", .bl true), ("F", .bl false)]) (by rw [hm]; exact gl X G c 55 rfl) (by rw [hK, hw]; exact hd) (by rw [hK]; exact c.exT) rfl ?_
      rw [hK]
      exact table (fun _ => False) (fun _ => none) q
    · cases hy
  · have FC := cop_fnG (P := Rw.prog) (w := w) (K := K) (mg := mg) (base := h) (n := 1) (funOf (def_ c 0 (x := "copied") (i := 1) rfl).choose_spec) rfl rfl (fr X G c 46 rfl) (fr X G c 31 rfl) (fr X G c 30 rfl) (fr X G c 48 rfl)
    have FC' : FnG X'.prog X'.w X'.K X'.mg X'.base 2 (He.ga K "copied") (def_ c 0 (x := "copied") (i := 1) rfl).choose ["value"] spCopI := by rw [hp, hw, hK, hm, hb]; exact FC
    have bC : L2.Binds X'.K (def_ c 0 (x := "copied") (i := 1) rfl).choose ["value"] [] := by rw [hK]; exact (def_ c 0 (x := "copied") (i := 1) rfl).choose_spec.bindsN fun _ _ _ _ _ _ us hl => match us, hl with | [_], _ => rfl
    simp only [M] at hy
    split at hy
    · rename_i e
      cases hy
      subst e
      obtain ⟨fI, cc, cda, fd, T⟩ := initT c
      intro ea p pos te hs he
      exact rz_ini (k := 2) (by rw [hp, hK]; exact T) FC' (by rw [hm]; exact gl X G c 0 rfl) (by rw [hK]; exact (def_ c 0 (x := "copied") (i := 1) rfl).choose_spec.kp) bC (hr.mono (by omega)) hg hgl (by rw [hm]; exact gl X G c 53 rfl) (by decide) hs he
    · split at hy
      · rename_i e
        cases hy
        subst e
        obtain ⟨fI, cc, cda, fd, T⟩ := initD c
        intro ea p pos te hs he
        exact rz_ini (k := 2) (by rw [hp, hK]; exact T) FC' (by rw [hm]; exact gl X G c 0 rfl) (by rw [hK]; exact (def_ c 0 (x := "copied") (i := 1) rfl).choose_spec.kp) bC (hr.mono (by omega)) hg hgl (by rw [hm]; exact gl X G c 54 rfl) (by decide) hs he
      · cases hy
  · simp only [M, Bool.and_eq_true, decide_eq_true_eq] at hy
    obtain ⟨rfl, rfl⟩ := hy
    exact ⟨_, .inl (gl X G c 53 rfl), He.exm_ok (fact c 56 (f := .exm "BadText" "BadText" true) rfl)⟩
theorem sig_ok : ∀ y i kl τ, M.sig y = some (i, kl, τ) → ∃ d, dis[i]? = some d ∧ d.x = y ∧ d.kl = kl ∧ d.rt = τ := by
  intro y i kl τ h
  have h : sigK y = some (i, kl, τ) := h
  unfold sigK at h
  cases e : dis.findIdx? (fun d => d.x == y) with
  | none => rw [e] at h; cases h
  | some j =>
    rw [e, Option.bind_some] at h
    cases e2 : dis[j]? with
    | none => rw [e2] at h; cases h
    | some d =>
      rw [e2] at h
      cases h
      refine ⟨d, e2, ?_, rfl, rfl⟩
      have := List.of_findIdx?_eq_some e
      rw [e2] at this
      exact eq_of_beq this
theorem pk_ok (X : K.In h) (G : h.Ns mainGlobals mg) (c : Sx w K) (q : Option (Addr × Addr)) : ∀ y, M.pk y = true → ∃ (a : Addr) (fd : FuncData) (ps : List PySem.Str), mg y = some (.ref a) ∧ PySem.W.keepIn K (.ref a) = true ∧ L2.Binds K fd ps [] ∧ ∀ n, 10 ≤ n → FnG Rw.prog w K mg h n a fd ps (spPick ⟨K, q, ct62 K⟩) := by
  intro y hy
  simp only [M, decide_eq_true_eq] at hy
  subst hy
  obtain ⟨fd, F⟩ := def_ c 23 (x := "_law_pick") (i := 32) rfl
  refine ⟨_, fd, ["_law_source", "_law_most"], gl X G c 23 rfl, F.kp, F.bindsN fun _ _ _ _ _ _ us hl => match us, hl with | [_, _], _ => rfl, fun n hn => ?_⟩
  have := pick_fnG (P := Rw.prog) (w := w) (K := K) (mg := mg) (base := h) (g := ⟨K, q, ct62 K⟩) (n := n - 1) (funOf F) rfl rfl (by decide +kernel) (fr X G c 29 rfl) (fr X G c 32 rfl)
  rw [show n - 1 + 1 = n by omega] at this
  exact this
/-- every def keeps its promise -/
theorem all_ok (X : K.In h) (G : h.Ns mainGlobals mg) (c : Sx w K) (W : Nat) (q : Option (Addr × Addr)) : ∀ (k i : Nat) (d : DI) (fn : Fn), dis[i]? = some d → fs[i]? = some fn → ∃ f fd, mg d.x = some (.ref f) ∧ PySem.W.keepIn K (.ref f) = true ∧ L2.Binds K fd (d.N.take fn.np) [] ∧ FnG Rw.prog w K mg h (k + 10) f fd (d.N.take fn.np) (spF ⟨K, q, ct62 K⟩ (callF fs xt62 G62 W k i) d.kl d.rt) :=
  fnG_all (mok X G c q) (pk_ok X G c q) rfl (defs X G c) (fun y i kl τ hs d hd => by
    obtain ⟨d', e, r⟩ := sig_ok y i kl τ hs
    rw [hd] at e; cases e; exact r) fun y i kl τ hs hd => by
    obtain ⟨d', e, _⟩ := sig_ok y i kl τ hs
    rw [hd] at e; cases e
theorem law_ok (X : K.In h) (G : h.Ns mainGlobals mg) (c : Sx w K) (W k : Nat) (ev : ∀ ns : List Int, ns.length ≤ 63 → ∃ o', evSs (callF fs xt62 G62 W k) G62 W f25.body (none :: some .src :: List.replicate 12 none) (openOS ns) = .ok (.rt (.bl true)) o') :
    ∃ fd, (∀ (s : Shared) (u : Value), BindsTo s fd ⟨[u], []⟩ [("_law_script", u)]) ∧ ∀ base : Heap, K.In base → base.Ns mainGlobals mg → FnG Rw.prog w K mg base (k + 11) (He.ga K "law") fd ["_law_script"] (spLaw K) := by
  obtain ⟨fd, F⟩ := def_ c 28 (x := "law") (i := 37) rfl
  have b := FunD.bindsA (ps := ["_law_script"]) F fun _ _ _ _ _ _ us hl => match us, hl with | [_], _ => rfl
  refine ⟨fd, fun s u => b s [u] rfl, fun base XB GB => ?_⟩
  obtain ⟨fdo, FO⟩ := def_ c 22 (x := "_law_open_cells") (i := 31) rfl
  have OPF := open_fnG (P := Rw.prog) (w := w) (K := K) (mg := mg) (base := base) (n := k + 9) (funOf FO) rfl rfl (by decide +kernel) (fr XB GB c 32 rfl) (fr XB GB c 36 rfl)
  refine law_fnG (d := d25) (fn := f25) (M := M) (G := G62) (W := W) (F := callF fs xt62 G62 W k) (n := k + 10) (funOf F) ⟨rfl, rfl, rfl, by decide +kernel, rfl, by decide +kernel, by decide +kernel⟩ rfl ckL rfl rfl (by decide +kernel) (by decide +kernel) (by decide +kernel) (fun j => ?_) rfl rfl (mok XB GB c) (by omega) OPF (gl XB GB c 22 rfl) FO.kp (FO.bindsN fun _ _ _ _ _ _ us hl => match us, hl with | [_], _ => rfl)
    (fun q y hy => ?_) (fun q y i kl τ hs => ?_) ev
  · match j with
    | 0 | 1 | 2 | 3 | 4 | 5 | 6 | 7 | 8 | 9 | 10 | 11 | 12 | 13 => rfl
    | j + 14 => rfl
  · obtain ⟨a, fd, ps, q1, q2, q3, q4⟩ := pk_ok XB GB c q y hy
    exact ⟨a, fd, ps, q1, q2, q3, q4 _ (by omega)⟩
  · obtain ⟨d, e, rfl, rfl, rfl⟩ := sig_ok y i kl τ hs
    have hi : i < fs.length := (List.getElem?_eq_some_iff.mp e).1
    have e2 := List.getElem?_eq_getElem hi
    obtain ⟨f, fd, q1, q2, q3, q4⟩ := all_ok XB GB c W q k i d _ e e2
    refine ⟨⟨f, fd, _, q1, q2, q3, q4⟩, fun ds o hn => ?_⟩
    obtain ⟨st, f', fd', L⟩ := defs XB GB c i d _ e e2
    have ck := ckD_ok L.ck
    cases k with
    | zero => rfl
    | succ k =>
      unfold callF
      rw [e2]
      simp only
      rw [if_neg (by rw [← ck.kl]; exact hn)]
end
end O.K62
open PySem PySem.W PySem.Calls PyProof.Rows
theorem O.K62.joined (W k : Nat) (hk : k ≤ 200) (ev : ∀ ns : List Int, ns.length ≤ 63 → ∃ o', O.evSs (O.callF O.K62.fs O.K62.xt62 O.K62.G62 W k) O.K62.G62 W O.K62.f25.body (none :: some .src :: List.replicate 12 none) (O.openOS ns) = .ok (.rt (.bl true)) o') : PySem.Challenge.rw_oncestream_k62_whole_torn_shelves.Holds := by
  w_on; o_law
  refine HandSHeadRun.head_any (r := OpenLaw.row PySem.Challenge.rw_oncestream_k62_whole_torn_shelves) (q := view (OpenLaw.row PySem.Challenge.rw_oncestream_k62_whole_torn_shelves).prog [37]) (H := O.K62.hk) (ob := O.K62.ob) (M := 6000) (loose := O.K62.looseL) (d := HandSHeadRun.topDef (OpenLaw.row PySem.Challenge.rw_oncestream_k62_whole_torn_shelves).prog 37) (kwd := []) O.K62.ob_eq
    (by kernel_rfl) (fun s => by kernel_rfl) O.K62.run (by kernel_rfl) (by kernel_rfl) (by kernel_rfl) (by rfl) (by first | assumption | decide +kernel) (by decide +kernel) ⟨rfl, rfl, rfl, rfl, rfl, by decide +kernel⟩ ?hw ?hc
  case hw => w_witness2
  case hc =>
    refine O.walk_ofG (l := PySem.Challenge.rw_oncestream_k62_whole_torn_shelves) (n := 63) (k := k + 11) (x := "_law_script") rfl (by decide) (by kernel_rfl) ⟨rfl, ?_, ?_⟩ ?F
    · have : callerA.depth + 3 * 211 + 5 < recursionLimit := by decide
      omega
    · have : callerA.units + 16 * 211 + 200 < cLine := by decide
      omega
    intro w mg fa h Y G hmg0
    obtain ⟨K, KX, c⟩ := Y
    have hmg : mg ("law" : PySem.Str) = some (.ref fa) := by
      have e : (HandSHeadRun.topDef (OpenLaw.row PySem.Challenge.rw_oncestream_k62_whole_torn_shelves).prog 37).name = ("law" : PySem.Str) := by kernel_rfl
      rw [← e]
      exact hmg0
    have eg := O.K62.gl (w := w) KX G c (x := "law") 28 rfl
    rw [hmg] at eg
    cases eg
    obtain ⟨fd, hb, hF⟩ := O.K62.law_ok (w := w) KX G c W k ev
    exact ⟨K, fd, O.spLaw K, KX, hb, fun H a ns hl _ hS => ⟨a, ns, rfl, hS, hl, fun _ => rfl⟩, hF⟩
set_option maxRecDepth 100000 in
set_option maxHeartbeats 0 in
theorem PySem.Challenge.cw_oncestream_k62_whole_torn_shelves_holds : PySem.Challenge.rw_oncestream_k62_whole_torn_shelves.Holds := by
  exact O.K62.joined 10000000 30 (by decide) fun ns _ => O.K62.law_ev (k := 22) (Nat.le_refl _) (by decide) (O.openOS ns)
