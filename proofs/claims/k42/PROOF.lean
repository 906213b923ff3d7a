import PyProof.Rows.All
import HandS.ForMost
import HandS.Exc
import HandS.ExcOwn
import HandS.Flow
import HandS.Star
import HandS.TupAny
import HandS.IsInst
import HandS.WideBits
import HandS.TupMul
import HandS.Deep
import HandS.TupLe
import HandS.SortInts
import HandS.SortOrd
import HandS.Gcd
import PyProof.SumWalkG
import HandS.Iter
import HandS.Comp
import HandS.DictComp
import HandS.ReBound
import HandS.Zip
import HandS.Rev
import HandS.TryOnly
import KE.GoesEnum
import HandS.Conv
import HandS.Small
import HandS.Style
import HandS.Defaults
import HandS.HeadEnd
import HandS.HeadHook2
import HandS.Head2
import PySem.Challenge.RW_joinorbar_k42_whole_widths
set_option Elab.async false
set_option linter.all false
set_option maxRecDepth 100000
set_option maxHeartbeats 0

/-! PyDA: pure data, the core language, its evaluator (computable). -/
namespace PyD
open PySem

/-- a value without identity; cell: a changing list or dict, by its number; fn: a def of the module -/
inductive D where
  | non | bl (b : Bool) | int (i : Int) | str (x : Str)
  | tup (xs : List D) | lst (xs : List D) | dic (kvs : List (D × D)) | cell (n : Nat) | fn (f : Str)
  deriving Inhabited

inductive BOp where
  | add | sub | mul | fdv | mod | pow
  deriving DecidableEq, Inhabited
inductive COp where
  | eq | ne | lt | le | gt | ge | is | isn | in_ | nin
  deriving DecidableEq, Inhabited

inductive Ty where
  | bool | int | str | tuple | list | dict
  deriving DecidableEq, Inhabited
/-- built-in functions -/
inductive BI where
  | len | list | tuple | sorted | all | any | sum | min | max | abs | int | sset | divmod | gcd
  deriving DecidableEq, Inhabited
/-- methods that tell | that change -/
inductive MT where
  | index | get | count
  deriving DecidableEq, Inhabited
inductive MU where
  | append | extend
  deriving DecidableEq, Inhabited
/-- what a for, a comprehension stores to -/
inductive Tg where
  | nm (i : Nat) | tup (ts : List Tg)
  deriving Inhabited

mutual
inductive E where
  | stuck
  | var (i : Nat) | pk (i : Nat) | cst (d : D) | glb (x : Str) | fnv (f : Str)
  | bin (o : BOp) (a b : E) | neg (a : E) | not (a : E)
  | cmp (o : COp) (a b : E) | cmp2 (o p : COp) (a b c : E) | cmp3 (o p q : COp) (a b c d : E)
  | and (a b : E) | or (a b : E) | ite (c a b : E)
  | tup (es : List (Bool × E)) | lst (es : List (Bool × E))
  | idx (a i : E) | slc (a lo hi : E)
  | call (f : Str) (es : List E) (ps : List Nat)
  | calv (i : Nat) (es : List E)
  | lrng (es : List E)
  | bi (b : BI) (es : List E) | isi (t : Ty) (a : E) | mth (m : MT) (a : E) (es : List E)
  | comp (elt : E) (t : Tg) (it : I) (cs : List E)
  | comp2 (elt : E) (t : Tg) (it : I) (cs : List E) (t' : Tg) (it' : I) (cs' : List E)
  | dcomp (k v : E) (t : Tg) (it : I) (cs : List E)
  | dict (kvs : List (E × E)) | dun (a b : E)
  | box (a : E)
inductive I where
  | seq (a : E) | rng (es : List E) | enm (a : E) | zip (a b : E) | items (a : E) | rev (a : E)
end
instance : Inhabited E := ⟨.stuck⟩

inductive S where
  | stuck | pass
  | asg (t : Tg) (e : E) | asgO (i : Nat) (e : E) | par (ts : List (Bool × Nat)) (es : List (Bool × E))
  | sto (a : Nat) (i e : E) | stoT (a : Nat) (i : E) (t : Tg) (e : E)
  | mut (m : MU) (a : Nat) (e : E)
  | frz (i : Nat) | exp (e : E)
  | ret (i : Option Nat) (e : E) | ite (c : E) (a b : List S)
  | fr (t : Tg) (it : I) (body : List S) | whl (c : E) (body : List S)
  | brk | cnt
  deriving Inhabited

/-! ### outcomes -/
inductive O (α : Type) where
  | ok (a : α) | ex (c : Str) (v : Option D)
abbrev Stt := List D
abbrev Res (α : Type) := Option (O α × Stt)
@[reducible] def ok {α : Type} (a : α) (s : Stt) : Res α := some (.ok a, s)
def Res.bind {α β : Type} : Res α → (α → Stt → Res β) → Res β
  | none, _ => none
  | some (.ok a, s), f => f a s
  | some (.ex c v, s), _ => some (.ex c v, s)
def lift {α : Type} (o : Option α) (s : Stt) : Res α := match o with
  | none => none
  | some a => some (.ok a, s)

/-! ### equality, order -/
mutual
def D.eqv : D → D → Bool
  | .non, .non => true
  | .bl a, .bl b => a == b
  | .bl a, .int j => (if a then 1 else 0) == j
  | .int i, .bl b => i == (if b then 1 else 0)
  | .int i, .int j => i == j
  | .str x, .str y => x == y
  | .lst xs, .lst ys => eqvAll xs ys
  | .tup xs, .tup ys => eqvAll xs ys
  | _, _ => false
def eqvAll : List D → List D → Bool
  | [], [] => true
  | x :: xs, y :: ys => D.eqv x y && eqvAll xs ys
  | _, _ => false
end
/-- data of at most n layers: no dict, no cell, no def; texts as they should be -/
def D.okN : Nat → D → Bool
  | 0, _ => false
  | n + 1, d => match d with
    | .non => true
    | .bl _ => true
    | .int _ => true
    | .str x => PyData.strOk x
    | .tup xs => xs.all (D.okN n)
    | .lst xs => xs.all (D.okN n)
    | _ => false
def okD : D → Bool := D.okN 20
/-! a < b of like things -/
mutual
def D.like : D → D → Bool
  | .int _, .int _ => true
  | .str _, .str _ => true
  | .tup xs, .tup ys => likeAll xs ys
  | _, _ => false
def likeAll : List D → List D → Bool
  | x :: xs, y :: ys => D.like x y && likeAll xs ys
  | _, _ => true
end
mutual
def D.ltB : D → D → Bool
  | .int i, .int j => decide (i < j)
  | .str x, .str y => decide (x.cps.toList < y.cps.toList)
  | .tup xs, .tup ys => ltAll xs ys
  | _, _ => false
def ltAll : List D → List D → Bool
  | [], [] => false
  | [], _ :: _ => true
  | _ :: _, [] => false
  | x :: xs, y :: ys => if D.eqv x y then ltAll xs ys else D.ltB x y
end

/-! ### small parts -/
def getS : List D → Nat → Option D
  | [], _ => none
  | x :: _, 0 => some x
  | _ :: xs, n + 1 => getS xs n
/-- the content of a cell, else the thing itself -/
def dr (s : Stt) : D → Option D
  | .cell n => getS s n
  | d => some d
def drs (s : Stt) : List D → Option (List D)
  | [] => some []
  | d :: ds => match dr s d, drs s ds with
    | some x, some xs => some (x :: xs)
    | _, _ => none
def szOk (n : Nat) : Bool := decide (n ≤ 16777216)
def truth : D → Option Bool
  | .non => some false
  | .bl b => some b
  | .int i => some (i != 0)
  | .str x => if szOk x.length then some ((x.length : Int) != 0) else none
  | .tup xs => some (!xs.isEmpty)
  | .lst xs => some (!xs.isEmpty)
  | _ => none
/-- a factor is small -/
def mulOk (i j : Int) : Bool := decide (i.natAbs < 18446744073709551616) || decide (j.natAbs < 18446744073709551616)
def binF (o : BOp) (x y : D) : Option D := match o, x, y with
  | .add, .int i, .int j => some (.int (i + j))
  | .add, .lst xs, .lst ys => if szOk (xs.length + ys.length) then some (.lst (xs ++ ys)) else none
  | .add, .tup xs, .tup ys => if szOk (xs.length + ys.length) then some (.tup (xs ++ ys)) else none
  | .add, .str x, .str y => if szOk (x.length + y.length) then some (.str (x ++ y)) else none
  | .sub, .int i, .int j => some (.int (i - j))
  | .mul, .int i, .int j => if mulOk i j then some (.int (i * j)) else none
  | .mul, .tup xs, .int k => if !xs.isEmpty && (decide (2 ≤ k) && (decide (k ≤ 1000) && decide (xs.length ≤ 1000))) then some (.tup (List.replicate k.toNat xs).flatten) else none
  | .mod, .int i, .int j => if decide (0 < j) then some (.int (i % j)) else none
  | .fdv, .int i, .int j => if decide (0 < j) && decide (j < 1073741824) then some (.int (i / j)) else none
  | .pow, .int i, .int j => if decide (0 ≤ j) && (decide (j ≤ 1000) && decide (i.natAbs < 18446744073709551616)) then some (.int (i ^ j.toNat)) else none
  | _, _, _ => none
def isKey : D → Bool
  | .int _ => true
  | .str _ => true
  | _ => false
def dget : List (D × D) → D → Option D
  | [], _ => none
  | (k, v) :: r, x => if D.eqv k x then some v else dget r x
def dput (kvs : List (D × D)) (k v : D) : List (D × D) :=
  if (dget kvs k).isSome then kvs.map fun p => if D.eqv p.1 k then (p.1, v) else p else kvs ++ [(k, v)]
def inF (x y : D) : Option Bool := match y with
  | .lst ys => if okD x && ys.all okD then some (ys.any fun z => D.eqv z x) else none
  | .tup ys => if okD x && ys.all okD then some (ys.any fun z => D.eqv z x) else none
  | .dic kvs => if isKey x then some (dget kvs x).isSome else none
  | .str z => (match x with
    | .str t => some (!(Builtin.Str.occurrences z t 0 z.length 1).isEmpty)
    | _ => none)
  | _ => none
def isNon : D → Bool
  | .non => true
  | _ => false
/-- is, is not: of None, True, False alone -/
def isF (x y : D) : Option Bool := match y with
  | .non => some (isNon x)
  | .bl b => (match x with
    | .bl c => some (b == c)
    | _ => none)
  | _ => none
def cmpF (o : COp) (x y : D) : Option Bool := match o with
  | .eq => if okD x && okD y then some (D.eqv x y) else none
  | .ne => if okD x && okD y then some (!D.eqv x y) else none
  | .lt => if okD x && okD y && D.like x y then some (D.ltB x y) else none
  | .gt => (match x, y with
    | .int i, .int j => some (decide (j < i))
    | _, _ => none)
  | .le => (match x, y with
    | .int i, .int j => some (decide (i ≤ j))
    | _, _ => none)
  | .ge => (match x, y with
    | .int i, .int j => some (decide (j ≤ i))
    | _, _ => none)
  | .is => isF x y
  | .isn => (isF x y).map (!·)
  | .in_ => inF x y
  | .nin => (inF x y).map (!·)
/-- le, ge by < the other way round: of intsD alone -/
def isInt : D → Bool
  | .int _ => true
  | _ => false
/-- an index of any sign -/
def atF (xs : List D) (i : Int) : Option D := if 0 ≤ i then getS xs i.toNat else if (xs.length : Int) + i < 0 then none else getS xs ((xs.length : Int) + i).toNat
def idxF (x y : D) : Option D := match x, y with
  | .lst xs, .int i => atF xs i
  | .tup xs, .int i => atF xs i
  | .str z, .int i => if szOk z.length && decide (0 ≤ i) then (match z.cps.toList[i.toNat]? with
    | some c => some (.str ⟨#[c]⟩)
    | none => none) else none
  | .dic kvs, k => if isKey k then dget kvs k else none
  | _, _ => none
/-- a slice's end: from the end if below 0, within the bounds -/
def cutAt (n : Nat) (i : Int) : Nat := if i < 0 then ((n : Int) + i).toNat else min i.toNat n
def cutF (xs : List D) (lo hi : D) : Option (List D) :=
  let a : Option Nat := match lo with
    | .non => some 0
    | .int i => some (cutAt xs.length i)
    | _ => none
  let b : Option Nat := match hi with
    | .non => some xs.length
    | .int i => some (cutAt xs.length i)
    | _ => none
  match a, b with
  | some a, some b => some ((xs.drop a).take (b - a))
  | _, _ => none
def slcF (x lo hi : D) : Option D := match x with
  | .lst xs => (cutF xs lo hi).map D.lst
  | .tup xs => (cutF xs lo hi).map D.tup
  | _ => none
def isiF (t : Ty) (d : D) : Option Bool := match d with
  | .non => some false
  | .bl _ => some (t == .bool || t == .int)
  | .int _ => some (t == .int)
  | .str _ => some (t == .str)
  | .tup _ => some (t == .tuple)
  | .lst _ => some (t == .list)
  | .dic _ => some (t == .dict)
  | _ => none
/-- a sort by insertion, stable -/
def ins (lt : D → D → Bool) (x : D) : List D → List D
  | [] => [x]
  | y :: ys => if lt y x then y :: ins lt x ys else x :: y :: ys
def isort (lt : D → D → Bool) : List D → List D
  | [] => []
  | x :: xs => ins lt x (isort lt xs)
def sortF (xs : List D) : Option (List D) := if xs.all (fun x => okD x) && xs.all (fun x => xs.all fun y => D.like x y) then some (isort D.ltB xs) else none
def dedup : List D → List D
  | [] => []
  | x :: xs => if xs.any (fun y => D.eqv y x) then dedup xs else x :: dedup xs
def intsD : List D → Option (List Int)
  | [] => some []
  | .int i :: r => (match intsD r with
    | some l => some (i :: l)
    | none => none)
  | _ => none
def boolsD : List D → Option (List Bool)
  | [] => some []
  | .bl i :: r => (match boolsD r with
    | some l => some (i :: l)
    | none => none)
  | _ => none
def listsD : List D → Option (List (List D))
  | [] => some []
  | .lst i :: r => (match listsD r with
    | some l => some (i :: l)
    | none => none)
  | _ => none
def lenF : D → Option D
  | .str x => if szOk x.length then some (.int x.length) else none
  | .tup xs => some (.int xs.length)
  | .lst xs => some (.int xs.length)
  | .dic xs => some (.int xs.length)
  | _ => none
def seqF : D → Option (List D)
  | .tup xs => some xs
  | .lst xs => some xs
  | _ => none
def minI : Int → List Int → Int
  | m, [] => m
  | m, x :: xs => minI (if x < m then x else m) xs
def maxI : Int → List Int → Int
  | m, [] => m
  | m, x :: xs => maxI (if m < x then x else m) xs
def upTo (lo : Int) : Nat → List D
  | 0 => []
  | n + 1 => .int lo :: upTo (lo + 1) n
def big : Int := 4611686018427387904
def rngF : List D → Option (List D)
  | [.int n] => if decide (-big ≤ n) && decide (n < big) then some (upTo 0 n.toNat) else none
  | [.int a, .int b] => if (decide (-big ≤ a) && decide (a < big)) && (decide (-big ≤ b) && decide (b < big)) then some (upTo a (b - a).toNat) else none
  | _ => none
def minF : D → Option D
  | .lst ys => (match intsD ys with
    | some (i :: l) => some (.int (minI i l))
    | _ => none)
  | _ => none
def maxF : D → Option D
  | .lst ys => (match intsD ys with
    | some (i :: l) => some (.int (maxI i l))
    | _ => none)
  | _ => none
def biF (b : BI) (xs : List D) : Option D := match b, xs with
  | .len, [x] => lenF x
  | .list, [x] => (seqF x).map D.lst
  | .tuple, [x] => (seqF x).map D.tup
  | .sorted, [.lst ys] => (sortF ys).map D.lst
  | .sorted, [.tup ys] => (sortF ys).map D.lst
  | .all, [.lst ys] => (boolsD ys).map fun l => .bl (l.all id)
  | .any, [.lst ys] => (boolsD ys).map fun l => .bl (l.any id)
  | .sum, [.lst ys] => (intsD ys).map fun l => .int l.sum
  | .sum, [.lst ys, .lst zs] => (match listsD ys with
    | some (x :: l) => if szOk (zs.length + (x :: l).flatten.length) then some (.lst (zs ++ (x :: l).flatten)) else none
    | _ => none)
  | .min, [x] => minF x
  | .max, [x] => maxF x
  | .min, [.int i, .int j] => some (.int (if j < i then j else i))
  | .max, [.int i, .int j] => some (.int (if j > i then j else i))
  | .abs, [.int i] => some (.int (if i < 0 then -i else i))
  | .int, [.int i] => some (.int i)
  | .int, [.bl k] => some (.int (if k then 1 else 0))
  | .divmod, [.int i, .int j] => if decide (0 < j) && decide (j < 1073741824) then some (.tup [.int (i / j), .int (i % j)]) else none
  | .gcd, [.int i, .int j] => some (.int (Nat.gcd i.natAbs j.natAbs : Nat))
  | _, _ => none
def findI (x : D) : List D → Nat → Option Nat
  | [], _ => none
  | y :: ys, n => if D.eqv y x then some n else findI x ys (n + 1)
def mthF (m : MT) (x : D) (ys : List D) : Option D := match m, x, ys with
  | .index, .lst xs, [y] => if okD y && okD (.lst xs) then (findI y xs 0).map fun n => .int n else none
  | .get, .dic kvs, [k, z] => if isKey k then some ((dget kvs k).getD z) else none
  | _, _, _ => none
def mthOk (m : MT) (x : D) : Bool := match m, x with
  | .index, .lst _ => true
  | .get, .dic _ => true
  | _, _ => false
def pairUp : List D → List D → List D
  | x :: xs, y :: ys => .tup [x, y] :: pairUp xs ys
  | _, _ => []
def number : Nat → List D → List D
  | _, [] => []
  | n, x :: xs => .tup [.int n, x] :: number (n + 1) xs

/-! ### slots -/
inductive Slot where
  | un | val (d : D) | own (d : D)
  deriving Inhabited
abbrev Ev := List Slot
def slot : Ev → Nat → Slot
  | [], _ => .un
  | x :: _, 0 => x
  | _ :: xs, n + 1 => slot xs n
def put : Ev → Nat → Slot → Ev
  | [], _, _ => []
  | _ :: xs, 0, y => y :: xs
  | x :: xs, n + 1, y => x :: put xs n y
mutual
def bindT : Tg → D → Ev → Option Ev
  | .nm i, d, env => some (put env i (.val d))
  | .tup ts, d, env => match seqF d with
    | some ds => bindTs ts ds env
    | none => none
def bindTs : List Tg → List D → Ev → Option Ev
  | [], [], env => some env
  | t :: ts, d :: ds, env => match bindT t d env with
    | some env' => bindTs ts ds env'
    | none => none
  | _, _, _ => none
end
mutual
def wipeT : Tg → Ev → Ev
  | .nm i, env => put env i .un
  | .tup ts, env => wipeTs ts env
def wipeTs : List Tg → Ev → Ev
  | [], env => env
  | t :: ts, env => wipeTs ts (wipeT t env)
end

/-! ### evaluation -/
structure Cfg where
  fn : Str → List D → Stt → Res D
  gl : Str → Option D
  wf : Nat
/-- the loop of a comprehension: step answers whether, and what, goes in -/
def loopC {α : Type} (step : D → Stt → Res (Option α)) : List D → List α → Stt → Res (List α)
  | [], acc, s => if szOk acc.length then some (.ok acc, s) else none
  | d :: ds, acc, s => (step d s).bind fun o s => match o with
    | none => loopC step ds acc s
    | some x => loopC step ds (acc ++ [x]) s
/-- of a comprehension's inner clause: onto what is there -/
def loopC2 (step : D → List D → Stt → Res (List D)) : List D → List D → Stt → Res (List D)
  | [], acc, s => some (.ok acc, s)
  | d :: ds, acc, s => (step d acc s).bind fun acc s => loopC2 step ds acc s
/-- nothing is raised within a comprehension -/
def noEx {α : Type} : Res α → Res α
  | some (.ok a, s) => some (.ok a, s)
  | _ => none
def putAll : List (D × D) → List (D × D) → List (D × D)
  | acc, [] => acc
  | acc, (k, v) :: r => putAll (dput acc k v) r
def getVal : Slot → Option D
  | .val d => some d
  | _ => none
def getAny : Slot → Option D
  | .val d => some d
  | .own d => some d
  | .un => none
def setNth (xs : List D) (n : Nat) (y : D) : List D := xs.set n y
/-- what a changing thing becomes: a[i] = y -/
def storeF (x i y : D) : Option D := match x, i with
  | .lst xs, .int k => if decide (0 ≤ k) && decide (k < xs.length) then some (.lst (xs.set k.toNat y)) else none
  | .dic kvs, k => if isKey k && szOk (kvs.length + 1) then some (.dic (dput kvs k y)) else none
  | _, _ => none
def mutF (m : MU) (x y : D) : Option D := match m, x, y with
  | .append, .lst xs, y => if szOk (xs.length + 1) then some (.lst (xs ++ [y])) else none
  | .extend, .lst xs, .lst ys => if szOk (xs.length + ys.length) then some (.lst (xs ++ ys)) else none
  | _, _, _ => none
/-- an end of a slice: None alone where none is written -/
def endF (c : E) (d : D) : Option D := match c, d with
  | .cst .non, d => some d
  | _, .int i => some (.int i)
  | _, _ => none
/-- bind keywords: ps tells at which place of the parameters each argument stands -/
def place (n : Nat) (ps : List Nat) (ds : List D) : List D := (List.range n).map fun i => ((ps.zip ds).lookup i).getD .non
def bnot : D → Option D := fun d => (truth d).map fun b => .bl (!b)

mutual
def ev (C : Cfg) : E → Ev → Stt → Res D
  | .stuck, _, _ => none
  | .var i, env, s => lift (getVal (slot env i)) s
  | .pk i, env, s => lift (getAny (slot env i)) s
  | .cst d, _, s => some (.ok d, s)
  | .glb x, _, s => lift (C.gl x) s
  | .fnv f, _, s => some (.ok (.fn f), s)
  | .bin o a b, env, s => (ev C a env s).bind fun x s => (ev C b env s).bind fun y s => lift (binF o x y) s
  | .neg a, env, s => (ev C a env s).bind fun x s => (match x with
    | .int i => some (.ok (.int (-i)), s)
    | _ => none)
  | .not a, env, s => (ev C a env s).bind fun x s => lift (bnot x) s
  | .cmp o a b, env, s => (ev C a env s).bind fun x s => (ev C b env s).bind fun y s => match dr s x, dr s y with
    | some x, some y => lift ((cmpF o x y).map D.bl) s
    | _, _ => none
  | .cmp2 o p a b c, env, s => (ev C a env s).bind fun x s => (ev C b env s).bind fun y s => match cmpF o x y with
    | none => none
    | some false => some (.ok (.bl false), s)
    | some true => (ev C c env s).bind fun z s => lift ((cmpF p y z).map D.bl) s
  | .cmp3 o p q a b c d, env, s => (ev C a env s).bind fun x s => (ev C b env s).bind fun y s => match cmpF o x y with
    | none => none
    | some false => some (.ok (.bl false), s)
    | some true => (ev C c env s).bind fun z s => match cmpF p y z with
      | none => none
      | some false => some (.ok (.bl false), s)
      | some true => (ev C d env s).bind fun w s => lift ((cmpF q z w).map D.bl) s
  | .and a b, env, s => (ev C a env s).bind fun x s => match truth x with
    | none => none
    | some true => ev C b env s
    | some false => some (.ok x, s)
  | .or a b, env, s => (ev C a env s).bind fun x s => match truth x with
    | none => none
    | some true => some (.ok x, s)
    | some false => ev C b env s
  | .ite c a b, env, s => (ev C c env s).bind fun x s => match truth x with
    | none => none
    | some true => ev C a env s
    | some false => ev C b env s
  | .tup es, env, s => (evD C es env s).bind fun xs s => if szOk xs.length then some (.ok (.tup xs), s) else none
  | .lst es, env, s => (evD C es env s).bind fun xs s => if szOk xs.length then some (.ok (.lst xs), s) else none
  | .idx a i, env, s => (ev C a env s).bind fun x s => (ev C i env s).bind fun y s => match dr s x with
    | none => none
    | some x => lift (idxF x y) s
  | .slc a lo hi, env, s => (ev C a env s).bind fun x s => (ev C lo env s).bind fun y s => match endF lo y with
    | none => none
    | some y => (ev C hi env s).bind fun z s => match endF hi z with
      | none => none
      | some z => lift (slcF x y z) s
  | .call f es ps, env, s => (evs C es env s).bind fun xs s => C.fn f (match ps with
    | [] => xs
    | _ => place xs.length ps xs) s
  | .calv i es, env, s => match getVal (slot env i) with
    | some (.fn f) => noEx ((evs C es env s).bind fun xs s => C.fn f xs s)
    | _ => none
  | .lrng es, env, s => (evs C es env s).bind fun xs s => match rngF xs with
    | none => none
    | some xs => if szOk xs.length then some (.ok (.lst xs), s) else none
  | .bi b es, env, s => (evs C es env s).bind fun xs s => match drs s xs with
    | some xs => lift (biF b xs) s
    | none => none
  | .isi t a, env, s => (ev C a env s).bind fun x s => lift ((isiF t x).map D.bl) s
  | .mth m a es, env, s => (ev C a env s).bind fun x s => if mthOk m x then (evs C es env s).bind fun ys s => lift (mthF m x ys) s else none
  | .comp elt t it cs, env, s => (evI C it env s).bind fun xs s => noEx ((loopC (fun d s => match bindT t d env with
      | none => none
      | some env => (evT C cs env s).bind fun b s => match b with
        | false => some (.ok none, s)
        | true => (ev C elt env s).bind fun x s => some (.ok (some x), s)) xs [] s).bind fun ys s => some (.ok (.lst ys), s))
  | .comp2 elt t it cs t' it' cs', env, s => (evI C it env s).bind fun xs s => noEx ((loopC2 (fun d acc s => match bindT t d (wipeT t' env) with
      | none => none
      | some env => (evT C cs env s).bind fun b s => match b with
        | false => some (.ok acc, s)
        | true => (evI C it' env s).bind fun ys s => loopC (fun d s => match bindT t' d env with
          | none => none
          | some env => (evT C cs' env s).bind fun b s => match b with
            | false => some (.ok none, s)
            | true => (ev C elt env s).bind fun x s => some (.ok (some x), s)) ys acc s) xs [] s).bind fun ys s => some (.ok (.lst ys), s))
  | .dcomp k v t it cs, env, s => (evI C it env s).bind fun xs s => noEx ((loopC (fun d s => match bindT t d env with
      | none => none
      | some env => (evT C cs env s).bind fun b s => match b with
        | false => some (.ok none, s)
        | true => ((ev C k env s).bind fun x s => (ev C v env s).bind fun y s => if isKey x then (some (.ok (x, y), s) : Res (D × D)) else none).bind fun x s => some (.ok (some x), s)) xs [] s).bind fun ys s => some (.ok (.dic (putAll [] ys)), s))
  | .dict kvs, env, s => (evK C kvs env s).bind fun ps s => if ps.all fun p => isKey p.1 then some (.ok (.dic (putAll [] ps)), s) else none
  | .dun a b, env, s => (ev C a env s).bind fun x s => (ev C b env s).bind fun y s => match x, y with
    | .dic p, .dic q => if szOk (p.length + q.length) then some (.ok (.dic (putAll p q)), s) else none
    | _, _ => none
  | .box a, env, s => (ev C a env s).bind fun x s => match x with
    | .lst xs => some (.ok (.cell s.length), s ++ [.lst xs])
    | .dic xs => some (.ok (.cell s.length), s ++ [.dic xs])
    | _ => none
def evs (C : Cfg) : List E → Ev → Stt → Res (List D)
  | [], _, s => some (.ok [], s)
  | e :: es, env, s => (ev C e env s).bind fun x s => (evs C es env s).bind fun xs s => some (.ok (x :: xs), s)
/-- displays: stars too -/
def evD (C : Cfg) : List (Bool × E) → Ev → Stt → Res (List D)
  | [], _, s => some (.ok [], s)
  | (st, e) :: es, env, s => (ev C e env s).bind fun x s => (match st with
    | false => some [x]
    | true => seqF x : Option (List D)).elim none fun ys => (evD C es env s).bind fun xs s => some (.ok (ys ++ xs), s)
def evK (C : Cfg) : List (E × E) → Ev → Stt → Res (List (D × D))
  | [], _, s => some (.ok [], s)
  | (k, v) :: es, env, s => (ev C k env s).bind fun x s => (ev C v env s).bind fun y s => (evK C es env s).bind fun xs s => some (.ok ((x, y) :: xs), s)
/-- a clause's tests -/
def evT (C : Cfg) : List E → Ev → Stt → Res Bool
  | [], _, s => some (.ok true, s)
  | e :: es, env, s => (ev C e env s).bind fun x s => match truth x with
    | none => none
    | some true => evT C es env s
    | some false => some (.ok false, s)
def evI (C : Cfg) : I → Ev → Stt → Res (List D)
  | .seq a, env, s => (ev C a env s).bind fun x s => lift (seqF x) s
  | .rng es, env, s => (evs C es env s).bind fun xs s => lift (rngF xs) s
  | .enm a, env, s => (ev C a env s).bind fun x s => match seqF x with
    | some xs => some (.ok (number 0 xs), s)
    | none => none
  | .zip a b, env, s => (ev C a env s).bind fun x s => (ev C b env s).bind fun y s => match seqF x, seqF y with
    | some xs, some ys => some (.ok (pairUp xs ys), s)
    | _, _ => none
  | .items a, env, s => (ev C a env s).bind fun x s => match x with
    | .dic kvs => some (.ok (kvs.map fun p => .tup [p.1, p.2]), s)
    | _ => none
  | .rev a, env, s => (ev C a env s).bind fun x s => match seqF x with
    | some xs => some (.ok xs.reverse, s)
    | none => none
end

/-! ### statements -/
inductive Fl where
  | nx (env : Ev) | rt (d : D) | bk (env : Ev) | ct (env : Ev)
def loopF (t : Tg) (body : Ev → Stt → Res Fl) : List D → Ev → Stt → Res Fl
  | [], env, s => some (.ok (.nx env), s)
  | d :: ds, env, s => match bindT t d env with
    | none => none
    | some env => (body env s).bind fun f s => match f with
      | .nx env => loopF t body ds env s
      | .ct env => loopF t body ds env s
      | .bk env => some (.ok (.nx env), s)
      | .rt d => some (.ok (.rt d), s)
def loopW (test : Ev → Stt → Res Bool) (body : Ev → Stt → Res Fl) : Nat → Ev → Stt → Res Fl
  | 0, _, _ => none
  | n + 1, env, s => (test env s).bind fun b s => match b with
    | false => some (.ok (.nx env), s)
    | true => (body env s).bind fun f s => match f with
      | .nx env => loopW test body n env s
      | .ct env => loopW test body n env s
      | .bk env => some (.ok (.nx env), s)
      | .rt d => some (.ok (.rt d), s)
def isOwn : Slot → Bool
  | .own _ => true
  | _ => false
/-- a changing thing gets another content: an own list of the def, or a cell -/
def change (i : Nat) (f : D → Option D) (env : Ev) (s : Stt) : Res Ev := match slot env i with
  | .own d => (match f d with
    | some d => some (.ok (put env i (.own d)), s)
    | none => none)
  | .val (.cell n) => (match getS s n with
    | some d => (match f d with
      | some d => some (.ok env, s.set n d)
      | none => none)
    | none => none)
  | _ => none
/-- a slot that holds something -/
def hasS : Slot → Bool
  | .un => false
  | _ => true
/-- .. a list that may be changed -/
def isLstS (s : Stt) : Slot → Bool
  | .own (.lst _) => true
  | .val (.cell n) => (match getS s n with
    | some (.lst _) => true
    | _ => false)
  | _ => false
def canOwn : D → Bool
  | .lst _ => true
  | .dic _ => true
  | _ => false
/-- several names at once: an own thing, or a value -/
def parF : List (Bool × Nat) → List D → Ev → Option Ev
  | [], [], env => some env
  | (true, i) :: ts, d :: ds, env => if canOwn d then parF ts ds (put env i (.own d)) else none
  | (false, i) :: ts, d :: ds, env => parF ts ds (put env i (.val d))
  | _, _, _ => none
mutual
def exS (C : Cfg) : S → Ev → Stt → Res Fl
  | .stuck, _, _ => none
  | .pass, env, s => some (.ok (.nx env), s)
  | .asg t e, env, s => (ev C e env s).bind fun x s => lift ((bindT t x env).map Fl.nx) s
  | .asgO i e, env, s => (ev C e env s).bind fun x s => if canOwn x then some (.ok (.nx (put env i (.own x))), s) else none
  | .par ts es, env, s => (evD C es env s).bind fun xs s => lift ((parF ts xs env).map Fl.nx) s
  | .sto a i e, env, s => (ev C e env s).bind fun y s => if hasS (slot env a) then (ev C i env s).bind fun k s => (change a (fun x => storeF x k y) env s).bind fun env s => some (.ok (.nx env), s) else none
  | .stoT a i t e, env, s => (ev C e env s).bind fun y s => if hasS (slot env a) then (match y with
    | .tup [y1, y2] => (ev C i env s).bind fun k s => (change a (fun x => storeF x k y1) env s).bind fun env s => lift ((bindT t y2 env).map Fl.nx) s
    | _ => none) else none
  | .mut m a e, env, s => if isLstS s (slot env a) then (ev C e env s).bind fun y s => (change a (fun x => mutF m x y) env s).bind fun env s => some (.ok (.nx env), s) else none
  | .frz i, env, s => (match slot env i with
    | .own d => some (.ok (.nx (put env i (.val d))), s)
    | _ => some (.ok (.nx env), s))
  | .exp e, env, s => (ev C e env s).bind fun _ s => some (.ok (.nx env), s)
  | .ret i e, env, s => (match i with
    | some i => (match slot env i with
      | .own d => some (.ok (.rt d), s)
      | _ => none)
    | none => (ev C e env s).bind fun x s => some (.ok (.rt x), s))
  | .ite c a b, env, s => (ev C c env s).bind fun x s => match truth x with
    | none => none
    | some true => exSs C a env s
    | some false => exSs C b env s
  | .fr t it body, env, s => (evI C it env s).bind fun xs s => loopF t (fun env s => exSs C body env s) xs env s
  | .whl c body, env, s => loopW (fun env s => (ev C c env s).bind fun x s => lift (truth x) s) (fun env s => exSs C body env s) C.wf env s
  | .brk, env, s => some (.ok (.bk env), s)
  | .cnt, env, s => some (.ok (.ct env), s)
def exSs (C : Cfg) : List S → Ev → Stt → Res Fl
  | [], env, s => some (.ok (.nx env), s)
  | st :: sts, env, s => (exS C st env s).bind fun f s => match f with
    | .nx env => exSs C sts env s
    | .rt d => some (.ok (.rt d), s)
    | .bk env => some (.ok (.bk env), s)
    | .ct env => some (.ok (.ct env), s)
end

/-! ### defs -/
structure Def where
  np : Nat
  ns : Nat
  fresh : Bool
  body : List S
  deriving Inhabited
def start (d : Def) (xs : List D) : Ev := (xs.map Slot.val) ++ List.replicate (d.ns - d.np) .un
def runD (C : Cfg) (d : Def) (xs : List D) (s : Stt) : Res D :=
  if xs.length = d.np then (exSs C d.body (start d xs) s).bind fun f s => match f with
    | .nx _ => some (.ok .non, s)
    | .rt x => some (.ok x, s)
    | _ => none
  else none
structure Tab where
  fn : Str → Option Def
  gl : Str → Option D
  wf : Nat
def callF (T : Tab) : Nat → Str → List D → Stt → Res D
  | 0, _, _, _ => none
  | n + 1, f, xs, s => match T.fn f with
    | none => none
    | some d => runD ⟨callF T n, T.gl, T.wf⟩ d xs s
end PyD

/-! PyDB: how pure data lie in the heap, and what a reading of the core language asks. -/
namespace PyD
open PySem PySem.Spec PyProof.Rows L2

theorem PE.imp {X : Cx} {e : Expr} {t t' : TE} (h : PE X e t) (i : ∀ σ H Q, t' σ H Q → t σ H Q) : PE X e t' := ⟨fun pins s σ H Q I q => h.run pins s σ H Q I (i σ H Q q)⟩
theorem PT.imp {X : Cx} {e : Expr} {t t' : TT} (h : PT X e t) (i : ∀ σ H Q, t' σ H Q → t σ H Q) : PT X e t' := ⟨fun pins s σ H Q I q => h.run pins s σ H Q I (i σ H Q q)⟩
theorem PA.imp {X : Cx} {e : List Expr} {t t' : TA} (h : PA X e t) (i : ∀ σ H Q, t' σ H Q → t σ H Q) : PA X e t' := ⟨fun p pins s σ H Q I q => h.run p pins s σ H Q I (i σ H Q q)⟩
theorem PS.imp {X : Cx} {e : Stmt} {t t' : TS} (h : PS X e t) (i : ∀ D σ H, t' D σ H → t D σ H) : PS X e t' := ⟨fun pins s σ H D I q => h.run pins s σ H D I (i D σ H q)⟩
theorem PSs.imp {X : Cx} {e : List Stmt} {t t' : TS} (h : PSs X e t) (i : ∀ D σ H, t' D σ H → t D σ H) : PSs X e t' := ⟨fun pins s σ H D I q => h.run pins s σ H D I (i D σ H q)⟩

/-- the module that runs -/
structure Wd where
  P : Program
  w : World
  K : PySem.W.Frag
  mg : Str → Option Value
@[reducible] def _root_.L2.Cx.wd (X : Cx) : Wd := ⟨X.prog, X.w, X.K, X.mg⟩
/-- what is known besides the program's own state: F: what stands for ever; ρ: where the cells stand -/
structure G where
  F : Hp
  ρ : List Addr
def keyD : Key → D
  | .inl i => .int i
  | .inr x => .str x
mutual
inductive Rep (B : Wd) (g : G) : D → V → Prop
  | non : Rep B g .non .non
  | bl (b : Bool) : Rep B g (.bl b) (.bl b)
  | int (i : Int) : Rep B g (.int i) (.int i)
  | str (x : Str) : Rep B g (.str x) (.str x)
  | tup {a : Addr} {vs : List V} {ds : List D} : SqT B.K g.F a vs → RepL B g ds vs → Rep B g (.tup ds) (.ref a)
  | lst {a : Addr} {vs : List V} {ds : List D} : SqL B.K g.F a vs → RepL B g ds vs → Rep B g (.lst ds) (.ref a)
  | dK {a : Addr} {kvs : List (Key × V)} {ds : List (D × D)} : g.F a = some (.dK kvs) → RepK B g ds kvs → Rep B g (.dic ds) (.ref a)
  | cell {n : Nat} {a : Addr} : g.ρ[n]? = some a → Rep B g (.cell n) (.ref a)
  | fn {f : Str} {a : Addr} : B.mg f = some (.ref a) → Rep B g (.fn f) (.ref a)
inductive RepL (B : Wd) (g : G) : List D → List V → Prop
  | nil : RepL B g [] []
  | cons {d : D} {v : V} {ds : List D} {vs : List V} : Rep B g d v → RepL B g ds vs → RepL B g (d :: ds) (v :: vs)
inductive RepK (B : Wd) (g : G) : List (D × D) → List (Key × V) → Prop
  | nil : RepK B g [] []
  | cons {k : Key} {d : D} {v : V} {ds : List (D × D)} {vs : List (Key × V)} : Rep B g d v → RepK B g ds vs → RepK B g ((keyD k, d) :: ds) ((k, v) :: vs)
end
/-- more is known -/
structure Le (g g' : G) : Prop where
  f : ∀ a o, g.F a = some o → g'.F a = some o
  r : ∃ new, g'.ρ = g.ρ ++ new
section
variable {B : Wd} {g g' g'' : G}
theorem Le.refl (g : G) : Le g g := ⟨fun _ _ h => h, [], (List.append_nil _).symm⟩
theorem Le.trans (a : Le g g') (b : Le g' g'') : Le g g'' := ⟨fun x o h => b.f x o (a.f x o h), by
  obtain ⟨m, e⟩ := a.r
  obtain ⟨n, e'⟩ := b.r
  exact ⟨m ++ n, by rw [e', e, List.append_assoc]⟩⟩
theorem SqT.le (l : Le g g') {a : Addr} {vs : List V} (h : SqT B.K g.F a vs) : SqT B.K g'.F a vs := by
  rcases h with (h | ⟨o, h⟩) | h
  · exact .inl (.inl (l.f _ _ h))
  · exact .inl (.inr ⟨o, l.f _ _ h⟩)
  · exact .inr h
theorem Rd.le (l : Le g g') {a : Addr} {u : HO} (h : Rd g.F a u) : Rd g'.F a u := by
  rcases h with h | ⟨o, h⟩
  · exact .inl (l.f _ _ h)
  · exact .inr ⟨o, l.f _ _ h⟩
theorem SqL.le (l : Le g g') {a : Addr} {vs : List V} (h : SqL B.K g.F a vs) : SqL B.K g'.F a vs := by
  rcases h with h | h
  · exact .inl (Rd.le l h)
  · exact .inr h
mutual
theorem Rep.le (l : Le g g') : ∀ {d : D} {v : V}, Rep B g d v → Rep B g' d v
  | _, _, .non => .non
  | _, _, .bl b => .bl b
  | _, _, .int i => .int i
  | _, _, .str x => .str x
  | _, _, .tup h r => .tup (SqT.le l h) (RepL.le l r)
  | _, _, .lst h r => .lst (SqL.le l h) (RepL.le l r)
  | _, _, .dK h r => .dK (l.f _ _ h) (RepK.le l r)
  | _, _, .cell (n := n) h => .cell (by
      obtain ⟨m, e⟩ := l.r
      rw [e]
      obtain ⟨h1, h2⟩ := List.getElem?_eq_some_iff.mp h
      rw [List.getElem?_append_left h1]
      exact h)
  | _, _, .fn h => .fn h
theorem RepL.le (l : Le g g') : ∀ {ds : List D} {vs : List V}, RepL B g ds vs → RepL B g' ds vs
  | _, _, .nil => .nil
  | _, _, .cons r t => .cons (Rep.le l r) (RepL.le l t)
theorem RepK.le (l : Le g g') : ∀ {ds : List (D × D)} {vs : List (Key × V)}, RepK B g ds vs → RepK B g' ds vs
  | _, _, .nil => .nil
  | _, _, .cons r t => .cons (Rep.le l r) (RepK.le l t)
end
theorem RepL.length : ∀ {ds : List D} {vs : List V}, RepL B g ds vs → ds.length = vs.length
  | _, _, .nil => rfl
  | _, _, .cons _ t => congrArg Nat.succ (RepL.length t)
theorem RepL.append : ∀ {ds es : List D} {vs ws : List V}, RepL B g ds vs → RepL B g es ws → RepL B g (ds ++ es) (vs ++ ws)
  | _, _, _, _, .nil, h => h
  | _, _, _, _, .cons r t, h => .cons r (RepL.append t h)
theorem RepL.get : ∀ {ds : List D} {vs : List V} {n : Nat} {d : D}, RepL B g ds vs → getS ds n = some d → ∃ v, vs[n]? = some v ∧ Rep B g d v
  | _, _, _, _, .nil, e => by cases e
  | _, _, 0, _, .cons r _, e => by
    cases e
    exact ⟨_, rfl, r⟩
  | _, _, n + 1, d, .cons _ t, e => by
    obtain ⟨v, h1, h2⟩ := RepL.get (n := n) (d := d) t e
    exact ⟨v, h1, h2⟩
theorem RepL.getV : ∀ {ds : List D} {vs : List V} {n : Nat} {v : V}, RepL B g ds vs → vs[n]? = some v → ∃ d, ds[n]? = some d ∧ Rep B g d v
  | _, _, _, _, .nil, e => by simp at e
  | _, _, 0, _, .cons r _, e => by
    have e2 : _ = _ := Option.some.inj e
    subst e2
    exact ⟨_, rfl, r⟩
  | _, _, n + 1, d, .cons _ t, e => RepL.getV (n := n) t (by simpa using e)
theorem RepL.take : ∀ {ds : List D} {vs : List V} (n : Nat), RepL B g ds vs → RepL B g (ds.take n) (vs.take n)
  | _, _, 0, _ => .nil
  | _, _, _ + 1, .nil => .nil
  | _, _, n + 1, .cons r t => .cons r (RepL.take n t)
theorem RepL.drop : ∀ {ds : List D} {vs : List V} (n : Nat), RepL B g ds vs → RepL B g (ds.drop n) (vs.drop n)
  | _, _, 0, r => r
  | _, _, _ + 1, .nil => .nil
  | _, _, n + 1, .cons _ t => RepL.drop n t
theorem RepL.set {y : D} {w : V} (r : Rep B g y w) : ∀ {ds : List D} {vs : List V} (i : Nat), RepL B g ds vs → RepL B g (ds.set i y) (vs.set i w)
  | _, _, _, .nil => .nil
  | _, _, 0, .cons _ t => .cons r t
  | _, _, i + 1, .cons q t => .cons q (RepL.set r i t)
/-- what now stands at an address that may change -/
def Cont (B : Wd) (g : G) (H : Hp) (a : Addr) (d : D) : Prop := match d with
  | .lst ds => ∃ vs, H a = some (.lst vs) ∧ RepL B g ds vs
  | .dic ds => ∃ kvs, H a = some (.dK kvs) ∧ RepK B g ds kvs
  | _ => False
theorem Cont.le (l : Le g g') {H H' : Hp} {a : Addr} {d : D} (e : ∀ o, H a = some o → H' a = some o) (h : Cont B g H a d) : Cont B g' H' a d := by
  cases d with
  | lst ds =>
    obtain ⟨vs, h1, h2⟩ := h
    exact ⟨vs, e _ h1, h2.le l⟩
  | dic ds =>
    obtain ⟨vs, h1, h2⟩ := h
    exact ⟨vs, e _ h1, h2.le l⟩
  | _ => exact h.elim
/-- the state: what stands for ever is there, each cell has its content -/
structure StOk (B : Wd) (g : G) (st : Stt) (H : Hp) : Prop where
  sub : ∀ a o, g.F a = some o → H a = some o
  len : g.ρ.length = st.length
  nd : g.ρ.Nodup
  cel : ∀ (n : Nat) (a : Addr) (d : D), g.ρ[n]? = some a → st[n]? = some d → g.F a = none ∧ Cont B g H a d
/-- from (g, H) to (g', st', H'): all that was tracked is as it was, but the cells -/
structure Nxt (B : Wd) (g : G) (H : Hp) (g' : G) (st' : Stt) (H' : Hp) : Prop where
  le : Le g g'
  new : ∀ a, g'.F a ≠ none → g.F a ≠ none ∨ H a = none
  cnew : ∀ a, a ∈ g'.ρ → a ∈ g.ρ ∨ H a = none
  fr : ∀ a o, H a = some o → a ∉ g.ρ → H' a = some o
  keep : ∀ a, H a ≠ none → H' a ≠ none
  ok : StOk B g' st' H'
variable {H H1 H2 H' : Hp} {st st1 st2 : Stt} {g1 g2 : G}
theorem Nxt.refl (h : StOk B g st H) : Nxt B g H g st H := ⟨.refl g, fun _ h => .inl h, fun _ h => .inl h, fun _ _ h _ => h, fun _ h => h, h⟩
theorem Nxt.trans (a : Nxt B g H g1 st1 H1) (b : Nxt B g1 H1 g2 st2 H2) : Nxt B g H g2 st2 H2 where
  le := a.le.trans b.le
  new := fun x h => by
    rcases b.new x h with h | h
    · exact a.new x h
    · refine .inr ?_
      cases e : H x with
      | none => rfl
      | some o => exact absurd h (a.keep x (by rw [e]; simp))
  cnew := fun x h => by
    rcases b.cnew x h with h | h
    · exact a.cnew x h
    · refine .inr ?_
      cases e : H x with
      | none => rfl
      | some o => exact absurd h (a.keep x (by rw [e]; simp))
  fr := fun x o e n => by
    refine b.fr x o (a.fr x o e n) fun m => ?_
    rcases a.cnew x m with m | m
    · exact n m
    · rw [e] at m; cases m
  keep := fun x h => b.keep x (a.keep x h)
  ok := b.ok
/-- an own list's or dict's content, or what stands for ever -/
def RepO (B : Wd) (g : G) (H : Hp) (d : D) (v : V) : Prop :=
  Rep B g d v ∨ ∃ a, v = .ref a ∧ g.F a = none ∧ a ∉ g.ρ ∧ Cont B g H a d
theorem Rep.nxt (n : Nxt B g H g1 st1 H1) {d : D} {v : V} (h : Rep B g d v) : Rep B g1 d v := h.le n.le
theorem Cont.nxt (n : Nxt B g H g1 st1 H1) {a : Addr} {d : D} (nr : a ∉ g.ρ) (h : Cont B g H a d) : Cont B g1 H1 a d := h.le n.le fun o e => n.fr a o e nr
theorem Cont.some {a : Addr} {d : D} (h : Cont B g H a d) : ∃ o, H a = some o := by
  cases d with
  | lst ds => obtain ⟨vs, h1, _⟩ := h; exact ⟨_, h1⟩
  | dic ds => obtain ⟨vs, h1, _⟩ := h; exact ⟨_, h1⟩
  | _ => exact h.elim
theorem RepO.nxt (n : Nxt B g H g1 st1 H1) {d : D} {v : V} (h : RepO B g H d v) : RepO B g1 H1 d v := by
  rcases h with h | ⟨a, rfl, h1, h2, h3⟩
  · exact .inl (h.nxt n)
  · refine .inr ⟨a, rfl, ?_, fun m => ?_, h3.nxt n h2⟩
    · cases e : g1.F a with
      | none => rfl
      | some o =>
        rcases n.new a (by rw [e]; simp) with q | q
        · exact absurd h1 q
        · obtain ⟨o, e2⟩ := h3.some
          rw [e2] at q; cases q
    · rcases n.cnew a m with m | m
      · exact h2 m
      · obtain ⟨o, e2⟩ := h3.some
        rw [e2] at m; cases m
/-- the slots of a def -/
inductive SlotOk (B : Wd) (g : G) (H H0 : Hp) : Slot → Option V → Prop
  | un {o : Option V} : SlotOk B g H H0 .un o
  | val {d : D} {v : V} : Rep B g d v → SlotOk B g H H0 (.val d) (some v)
  | own {d : D} {a : Addr} : g.F a = none → a ∉ g.ρ → H0 a = none → Cont B g H a d → SlotOk B g H H0 (.own d) (some (.ref a))
structure EnvOk (B : Wd) (g : G) (env : Ev) (σ : L2.St) (H H0 : Hp) : Prop where
  len : env.length = σ.length
  at_ : ∀ (i : Nat) (o : Option V), σ[i]? = some o → SlotOk B g H H0 (slot env i) o
  dis : ∀ (i j : Nat) (d e : D) (a : Addr), slot env i = .own d → slot env j = .own e → σ[i]? = some (some (.ref a)) → σ[j]? = some (some (.ref a)) → i = j
structure Rel (B : Wd) (g : G) (env : Ev) (st : Stt) (σ : L2.St) (H H0 : Hp) : Prop where
  st : StOk B g st H
  env : EnvOk B g env σ H H0
theorem SlotOk.nxt (n : Nxt B g H g1 st1 H1) {H0 : Hp} {s : Slot} {o : Option V} (h : SlotOk B g H H0 s o) : SlotOk B g1 H1 H0 s o := by
  cases h with
  | un => exact .un
  | val r => exact .val (r.nxt n)
  | own h1 h2 h3 h4 =>
    rename_i d a
    have q : RepO B g1 H1 d (.ref a) := RepO.nxt n (.inr ⟨a, rfl, h1, h2, h4⟩)
    refine .own ?_ (fun m => ?_) h3 (h4.nxt n h2)
    · cases e : g1.F a with
      | none => rfl
      | some o =>
        rcases n.new a (by rw [e]; simp) with q | q
        · exact absurd h1 q
        · obtain ⟨o, e2⟩ := h4.some
          rw [e2] at q; cases q
    · rcases n.cnew a m with m | m
      · exact h2 m
      · obtain ⟨o, e2⟩ := h4.some
        rw [e2] at m; cases m
theorem Rel.next {env : Ev} {σ : L2.St} {H0 : Hp} (r : Rel B g env st σ H H0) (n : Nxt B g H g1 st1 H1) : Rel B g1 env st1 σ H1 H0 :=
  ⟨n.ok, r.env.len, fun i o e => (r.env.at_ i o e).nxt n, r.env.dis⟩
/-- a new object that stands for ever -/
def G.add (g : G) (p : Addr) (o : HO) : G := ⟨upd g.F p o, g.ρ⟩
theorem StOk.nF (h : StOk B g st H) {p : Addr} (e : H p = none) : g.F p = none := by
  cases q : g.F p with
  | none => rfl
  | some o => rw [h.sub p o q] at e; cases e
theorem Le.add {p : Addr} {o : HO} (e : g.F p = none) : Le g (g.add p o) := ⟨fun a x h => by
  show upd g.F p o a = some x
  rw [upd_ne (fun z => by subst z; rw [e] at h; cases h)]
  exact h, [], (List.append_nil _).symm⟩
theorem StOk.rho (h : StOk B g st H) {a : Addr} (m : a ∈ g.ρ) : ∃ o, H a = some o := by
  obtain ⟨n, hn, e⟩ := List.getElem_of_mem m
  have h2 : n < st.length := by rw [← h.len]; exact hn
  obtain ⟨_, c⟩ := h.cel n a st[n] (by rw [List.getElem?_eq_getElem hn, e]) (List.getElem?_eq_getElem h2)
  exact c.some
theorem Nxt.add (h : StOk B g st H) {p : Addr} {o : HO} (e : H p = none) : Nxt B g H (g.add p o) st (upd H p o) where
  le := .add (h.nF e)
  new := fun a q => by
    by_cases z : a = p
    · subst z; exact .inr e
    · refine .inl ?_
      have : upd g.F p o a = g.F a := upd_ne z
      rw [← this]; exact q
  cnew := fun a m => .inl m
  fr := fun a x q _ => by rw [upd_ne (ne_of_none q e)]; exact q
  keep := fun a q => by
    by_cases z : a = p
    · subst z; rw [upd_same]; simp
    · rw [upd_ne z]; exact q
  ok := ⟨fun a x q => by
      by_cases z : a = p
      · subst z
        have : upd g.F a o a = some x := q
        rw [upd_same] at this ⊢; exact this
      · have : upd g.F p o a = some x := q
        rw [upd_ne z] at this ⊢; exact h.sub a x this, h.len, h.nd, fun n a d h1 h2 => by
      obtain ⟨c1, c2⟩ := h.cel n a d h1 h2
      obtain ⟨x, ex⟩ := c2.some
      have z : a ≠ p := ne_of_none ex e
      exact ⟨by show upd g.F p o a = Option.none; rw [upd_ne z]; exact c1, c2.le (.add (h.nF e)) fun y q => by rw [upd_ne z]; exact q⟩⟩
/-- a new object that is the def's own as yet: nothing is known of it for ever -/
theorem Nxt.own (h : StOk B g st H) {p : Addr} {o : HO} (e : H p = none) : Nxt B g H g st (upd H p o) where
  le := .refl g
  new := fun a q => .inl q
  cnew := fun a m => .inl m
  fr := fun a x q _ => by rw [upd_ne (ne_of_none q e)]; exact q
  keep := fun a q => by
    by_cases z : a = p
    · subst z; rw [upd_same]; simp
    · rw [upd_ne z]; exact q
  ok := ⟨fun a x q => by
      have q2 := h.sub a x q
      rw [upd_ne (ne_of_none q2 e)]; exact q2, h.len, h.nd, fun n a d h1 h2 => by
      obtain ⟨c1, c2⟩ := h.cel n a d h1 h2
      obtain ⟨x, ex⟩ := c2.some
      have z : a ≠ p := ne_of_none ex e
      exact ⟨c1, c2.le (.refl g) fun y q => by rw [upd_ne z]; exact q⟩⟩
theorem SqT.sub (h : StOk B g st H) {a : Addr} {vs : List V} (q : SqT B.K g.F a vs) : SqT B.K H a vs := by
  rcases q with (q | ⟨o, q⟩) | q
  · exact .inl (.inl (h.sub _ _ q))
  · exact .inl (.inr ⟨o, h.sub _ _ q⟩)
  · exact .inr q
theorem Rd.sub (h : StOk B g st H) {a : Addr} {u : HO} (q : Rd g.F a u) : Rd H a u := by
  rcases q with q | ⟨o, q⟩
  · exact .inl (h.sub _ _ q)
  · exact .inr ⟨o, h.sub _ _ q⟩
theorem SqL.sub (h : StOk B g st H) {a : Addr} {vs : List V} (q : SqL B.K g.F a vs) : SqL B.K H a vs := by
  rcases q with q | q
  · exact .inl (Rd.sub h q)
  · exact .inr q
/-- what may be read now: it stands for ever, or is somewhere's content -/
def Vw (B : Wd) (g : G) (H : Hp) (d : D) (v : V) : Prop := Rep B g d v ∨ ∃ a, v = .ref a ∧ Cont B g H a d
theorem RepO.vw {d : D} {v : V} (h : RepO B g H d v) : Vw B g H d v := by
  rcases h with h | ⟨a, rfl, _, _, h⟩
  · exact .inl h
  · exact .inr ⟨a, rfl, h⟩
theorem getS_eq : ∀ (xs : List D) (n : Nat), getS xs n = xs[n]?
  | [], _ => rfl
  | _ :: _, 0 => rfl
  | _ :: xs, n + 1 => by
    rw [List.getElem?_cons_succ]
    exact getS_eq xs n
theorem RepO.dr (h : StOk B g st H) {d d' : D} {v : V} (r : RepO B g H d v) (e : dr st d = some d') : Vw B g H d' v := by
  cases d with
  | cell n =>
    have e2 : st[n]? = some d' := by rw [← getS_eq]; exact e
    rcases r with r | ⟨a, _, _, _, c⟩
    · cases r with
      | cell q => exact .inr ⟨_, rfl, (h.cel n _ d' q e2).2⟩
    · exact c.elim
  | _ =>
    have e2 : some _ = some d' := e
    cases e2
    exact r.vw
theorem Vw.lst (h : StOk B g st H) {ds : List D} {v : V} (r : Vw B g H (.lst ds) v) : ∃ a vs, v = .ref a ∧ SqL B.K H a vs ∧ RepL B g ds vs := by
  rcases r with r | ⟨a, rfl, vs, h1, h2⟩
  · cases r with
    | lst q r => exact ⟨_, _, rfl, SqL.sub h q, r⟩
  · exact ⟨a, vs, rfl, .inl (.inl h1), h2⟩
theorem Vw.tup (h : StOk B g st H) {ds : List D} {v : V} (r : Vw B g H (.tup ds) v) : ∃ a vs, v = .ref a ∧ SqT B.K H a vs ∧ RepL B g ds vs := by
  rcases r with r | ⟨a, rfl, c⟩
  · cases r with
    | tup q r => exact ⟨_, _, rfl, SqT.sub h q, r⟩
  · exact c.elim
theorem Vw.int {i : Int} {v : V} (r : Vw B g H (.int i) v) : v = .int i := by
  rcases r with r | ⟨a, rfl, c⟩
  · cases r; rfl
  · exact c.elim
theorem Vw.bl {i : Bool} {v : V} (r : Vw B g H (.bl i) v) : v = .bl i := by
  rcases r with r | ⟨a, rfl, c⟩
  · cases r; rfl
  · exact c.elim
theorem Vw.str {i : Str} {v : V} (r : Vw B g H (.str i) v) : v = .str i := by
  rcases r with r | ⟨a, rfl, c⟩
  · cases r; rfl
  · exact c.elim
theorem Vw.dic (h : StOk B g st H) {ds : List (D × D)} {v : V} (r : Vw B g H (.dic ds) v) : ∃ a kvs, v = .ref a ∧ H a = some (.dK kvs) ∧ RepK B g ds kvs := by
  rcases r with r | ⟨a, rfl, vs, h1, h2⟩
  · cases r with
    | dK q r => exact ⟨_, _, rfl, h.sub _ _ q, r⟩
  · exact ⟨a, vs, rfl, h1, h2⟩
theorem Vw.non {v : V} (r : Vw B g H .non v) : v = .non := by
  rcases r with r | ⟨a, rfl, c⟩
  · cases r; rfl
  · exact c.elim
end

/-! ### what a reading asks -/
/-- an exception's class by name, and its one field -/
def ExR (B : Wd) (g : G) (H : Hp) (c : Str) (x : Option D) (cv : Value) (dx : Option Addr) : Prop := ∃ C : Addr, B.mg c = some (.ref C) ∧ cv = .ref C ∧
  match x with
  | none => dx = none
  | some d => ∃ (dd : Addr) (f : Str) (v : V), dx = some dd ∧ H dd = some (.xd [(f, v)]) ∧ Rep B g d v
section
variable (X : Cx) (W : L2.WX) (σ : L2.St) (g : G) (H : Hp)
/-- what is due behind a run of the core language: P says how the answer lies -/
def Pst {α β : Type} (P : G → Hp → α → β → Prop) (r : Res α) (Q : β → Hp → Prop) : Prop := match r with
  | none => False
  | some (.ok d, st') => ∀ v g' H', Nxt X.wd g H g' st' H' → P g' H' d v → Q v H'
  | some (.ex c x, st') => ∀ cv dx g' H', Nxt X.wd g H g' st' H' → ExR X.wd g' H' c x cv dx → W cv dx σ H'
end
section
variable {X : Cx} {W : L2.WX} {σ : L2.St} {g g1 : G} {H H1 : Hp} {st1 : Stt}
theorem Pst.next {α β : Type} {P : G → Hp → α → β → Prop} {r : Res α} {Q : β → Hp → Prop} (n : Nxt X.wd g H g1 st1 H1) (h : Pst X W σ g H P r Q) : Pst X W σ g1 H1 P r Q := by
  cases r with
  | none => exact h
  | some r =>
    obtain ⟨o, st'⟩ := r
    cases o with
    | ok d => exact fun v g' H' n' p => h v g' H' (n.trans n') p
    | ex c x => exact fun cv dx g' H' n' p => h cv dx g' H' (n.trans n') p
theorem Pst.bind {α β γ δ : Type} {P : G → Hp → α → β → Prop} {P2 : G → Hp → γ → δ → Prop} {r : Res α} {f : α → Stt → Res γ} {Q : δ → Hp → Prop} {Q1 : β → Hp → Prop} (h : Pst X W σ g H P2 (r.bind f) Q)
    (k : ∀ d st1 v g1 H1, Nxt X.wd g H g1 st1 H1 → P g1 H1 d v → Pst X W σ g1 H1 P2 (f d st1) Q → Q1 v H1) : Pst X W σ g H P r Q1 := by
  cases r with
  | none => exact h
  | some r =>
    obtain ⟨o, st'⟩ := r
    cases o with
    | ok d => exact fun v g' H' n' p => k d st' v g' H' n' p (Pst.next n' h)
    | ex c x => exact h
theorem Pst.bindR {α β γ δ : Type} {P : G → Hp → α → β → Prop} {P2 : G → Hp → γ → δ → Prop} {r : Res α} {f : α → Stt → Res γ} {Q : δ → Hp → Prop} {Q1 : β → Hp → Prop} (h : Pst X W σ g H P2 (r.bind f) Q)
    (k : ∀ d st1 v g1 H1, r = some (.ok d, st1) → Nxt X.wd g H g1 st1 H1 → P g1 H1 d v → Pst X W σ g1 H1 P2 (f d st1) Q → Q1 v H1) : Pst X W σ g H P r Q1 := by
  cases r with
  | none => exact h
  | some r =>
    obtain ⟨o, st'⟩ := r
    cases o with
    | ok d => exact fun v g' H' n' p => k d st' v g' H' rfl n' p (Pst.next n' h)
    | ex c x => exact h
theorem Pst.mono {α β : Type} {P P' : G → Hp → α → β → Prop} {r : Res α} {Q Q' : β → Hp → Prop} (h : Pst X W σ g H P r Q) (hp : ∀ g' H' d v, P' g' H' d v → P g' H' d v) (hq : ∀ v H', Q v H' → Q' v H') : Pst X W σ g H P' r Q' := by
  cases r with
  | none => exact h
  | some r =>
    obtain ⟨o, st'⟩ := r
    cases o with
    | ok d => exact fun v g' H' n' p => hq _ _ (h v g' H' n' (hp _ _ _ _ p))
    | ex c x => exact h
theorem Pst.lift {α β : Type} {P : G → Hp → α → β → Prop} {o : Option α} {st : Stt} {Q : β → Hp → Prop} (h : Pst X W σ g H P (lift o st) Q) : ∃ d, o = some d ∧ Pst X W σ g H P (some (.ok d, st)) Q := by
  cases o with
  | none => exact h.elim
  | some d => exact ⟨d, rfl, h⟩
end

/-- an expression's reading by the core language: the value stands for ever | may be an own thing | is new and its def's own -/
def tR {α β : Type} (X : Cx) (W : L2.WX) (P : G → Hp → α → β → Prop) (f : Ev → Stt → Res α) : L2.St → Hp → (β → Hp → Prop) → Prop := fun σ H Q =>
  ∃ g env st H0, Rel X.wd g env st σ H H0 ∧ Pst X W σ g H P (f env st) Q
abbrev pR (X : Cx) : G → Hp → D → V → Prop := fun g _ d v => Rep X.wd g d v
abbrev pO (X : Cx) : G → Hp → D → V → Prop := fun g H d v => RepO X.wd g H d v
abbrev pN (X : Cx) (H0 : Hp) : G → Hp → D → V → Prop := fun g H d v => ∃ a, v = .ref a ∧ H0 a = none ∧ g.F a = none ∧ a ∉ g.ρ ∧ Cont X.wd g H a d
/-- .. or a value that has no place of its own -/
abbrev pF (X : Cx) (H0 : Hp) : G → Hp → D → V → Prop := fun g H d v => (canOwn d = true ∧ pN X H0 g H d v) ∨ (canOwn d = false ∧ Rep X.wd g d v)
abbrev pL (X : Cx) : G → Hp → List D → List V → Prop := fun g _ d v => RepL X.wd g d v
def DE (X : Cx) (C : Cfg) (W : L2.WX) (e : Expr) (c : E) : Prop := PE X e (tR X W (pR X) (ev C c))
def DP (X : Cx) (C : Cfg) (W : L2.WX) (e : Expr) (c : E) : Prop := PE X e (tR X W (pO X) (ev C c))
/-- .. new: H is the heap ahead of it -/
def tN (X : Cx) (W : L2.WX) (f : Ev → Stt → Res D) : TE := fun σ H Q => ∃ g env st H0, Rel X.wd g env st σ H H0 ∧ Pst X W σ g H (pF X H) (f env st) Q
def DN (X : Cx) (C : Cfg) (W : L2.WX) (e : Expr) (c : E) : Prop := PE X e (tN X W (ev C c))
def DA (X : Cx) (C : Cfg) (W : L2.WX) (es : List Expr) (cs : List E) : Prop := PA X es (tR X W (pL X) (evs C cs))
def DT (X : Cx) (C : Cfg) (W : L2.WX) (e : Expr) (c : E) : Prop := PT X e (tR X W (fun _ _ d (b : Bool) => truth d = some b) (ev C c))
theorem tR.mk {α β : Type} {X : Cx} {W : L2.WX} {P : G → Hp → α → β → Prop} {f : Ev → Stt → Res α} {g : G} {env : Ev} {st : Stt} {σ : L2.St} {H H0 : Hp} {Q : β → Hp → Prop} (R : Rel X.wd g env st σ H H0) (h : Pst X W σ g H P (f env st) Q) : tR X W P f σ H Q :=
  ⟨g, env, st, H0, R, h⟩
section
variable {X : Cx} {C : Cfg} {W : L2.WX} {e a b : Expr} {c ca cb : E}
theorem DE.dp (h : DE X C W e c) : DP X C W e c := PE.imp h fun σ H Q ⟨g, env, st, H0, R, p⟩ => ⟨g, env, st, H0, R, p.mono (fun _ _ _ _ r => .inl r) fun _ _ q => q⟩
/-- what is new may stand for ever -/
theorem froze {B : Wd} {g g' : G} {st' : Stt} {H H' : Hp} {a : Addr} {d : D} (n : Nxt B g H g' st' H') (h0 : H a = none) (hF : g'.F a = none) (hr : a ∉ g'.ρ) (c : Cont B g' H' a d) :
    ∃ g2, Nxt B g H g2 st' H' ∧ Le g' g2 ∧ Rep B g2 d (.ref a) := by
  obtain ⟨o, eo⟩ := c.some
  have l : Le g' (g'.add a o) := .add hF
  refine ⟨g'.add a o, ⟨n.le.trans l, fun x q => ?_, n.cnew, n.fr, n.keep, ?_⟩, l, ?_⟩
  · by_cases z : x = a
    · subst z; exact .inr h0
    · refine n.new x ?_
      have : upd g'.F a o x = g'.F x := upd_ne z
      rw [← this]; exact q
  · refine ⟨fun x y q => ?_, n.ok.len, n.ok.nd, fun m x y h1 h2 => ?_⟩
    · by_cases z : x = a
      · subst z
        have q2 : upd g'.F x o x = some y := q
        rw [upd_same] at q2; cases q2; exact eo
      · have q2 : upd g'.F a o x = some y := q
        rw [upd_ne z] at q2; exact n.ok.sub x y q2
    · obtain ⟨c1, c2⟩ := n.ok.cel m x y h1 h2
      have z : x ≠ a := fun z => hr (z ▸ List.mem_of_getElem? h1)
      exact ⟨by show upd g'.F a o x = none; rw [upd_ne z]; exact c1, c2.le l fun _ q => q⟩
  · cases d with
    | lst ds =>
      obtain ⟨vs, h1, h2⟩ := c
      rw [eo] at h1; cases h1
      exact .lst (.inl (.inl (by show upd g'.F a _ a = _; rw [upd_same]))) (h2.le l)
    | dic ds =>
      obtain ⟨vs, h1, h2⟩ := c
      rw [eo] at h1; cases h1
      exact .dK (by show upd g'.F a _ a = _; rw [upd_same]) (h2.le l)
    | _ => exact c.elim
theorem DN.de (h : DN X C W e c) : DE X C W e c := by
  refine PE.imp h fun σ H Q hq => ?_
  obtain ⟨g, env, st, H0, R, p⟩ := hq
  refine ⟨g, env, st, H0, R, ?_⟩
  cases hr : ev C c env st with
  | none => rw [hr] at p; exact p
  | some r =>
    rw [hr] at p
    obtain ⟨o, st'⟩ := r
    cases o with
    | ok d =>
      intro v g' H' n hp
      rcases hp with ⟨_, a, rfl, h0, hF, hρ, hc⟩ | ⟨_, r⟩
      · obtain ⟨g2, n2, _, r2⟩ := froze n h0 hF hρ hc
        exact p _ g2 H' n2 r2
      · exact p _ g' H' n r
    | ex k x => exact p
end
end PyD

/-! PyDC: operators by values. -/
namespace PyD
open PySem PySem.Spec PyProof.Rows L2

theorem szOk_le {n : Nat} (h : szOk n = true) : n ≤ sizeLine := of_decide_eq_true h
section
variable {X : Cx} {g : G} {st : Stt} {H : Hp} {Q : VK}
abbrev Dn (X : Cx) (g : G) (H : Hp) (st : Stt) (z : D) (Q : VK) : Prop := ∀ v g' H', Nxt X.wd g H g' st H' → pF X H g' H' z v → Q v H'
theorem Dn.val (s : StOk X.wd g st H) {z : D} {v : V} (hz : canOwn z = false) (r : Rep X.wd g z v) (q : Dn X g H st z Q) : Q v H := q v g H (.refl s) (.inr ⟨hz, r⟩)
theorem Dn.int (s : StOk X.wd g st H) {i : Int} (q : Dn X g H st (.int i) Q) : Q (.int i) H := q.val s rfl (.int i)
theorem Dn.bl (s : StOk X.wd g st H) {i : Bool} (q : Dn X g H st (.bl i) Q) : Q (.bl i) H := q.val s rfl (.bl i)
theorem Dn.str (s : StOk X.wd g st H) {i : Str} (q : Dn X g H st (.str i) Q) : Q (.str i) H := q.val s rfl (.str i)
theorem StOk.fresh (s : StOk X.wd g st H) {p : Addr} (np : H p = none) : p ∉ g.ρ := fun m => by
  obtain ⟨o, e⟩ := s.rho m
  rw [np] at e; cases e
theorem Dn.lst (s : StOk X.wd g st H) {ds : List D} {vs : List V} (r : RepL X.wd g ds vs) (q : Dn X g H st (.lst ds) Q) {p : Addr} (np : H p = none) : Q (.ref p) (upd H p (.lst vs)) :=
  q _ g _ (.own s np) (.inl ⟨rfl, p, rfl, np, s.nF np, s.fresh np, vs, upd_same, r⟩)
theorem Dn.tup (s : StOk X.wd g st H) {ds : List D} {vs : List V} (r : RepL X.wd g ds vs) (q : Dn X g H st (.tup ds) Q) {p : Addr} (np : H p = none) : Q (.ref p) (upd H p (.tup vs)) :=
  q _ _ _ (.add s np) (.inr ⟨rfl, .tup (.inl (.inl (by show upd g.F p _ p = _; rw [upd_same]))) (r.le (.add (s.nF np)))⟩)

/-! ### list + list, of any that may be read -/
theorem op_catR {pins : List (Addr × Obj)} {s : Shared} {σ : L2.St} {l b : Addr} {xs zs : List V} (I : Inv X pins σ H s) (hH : SqL X.K H l xs) (hB : SqL X.K H b zs) (hz : xs.length + zs.length ≤ sizeLine)
    (q : ∀ p, H p = none → Q (.ref p) (upd H p (.lst (xs ++ zs)))) : wpAny (model X.prog X.w) X.A (binaryOp .Add (.ref l) (.ref b)) (EP X pins σ Q) X.xe s := by
  obtain ⟨its, r, pl, _⟩ := I.list hH
  obtain ⟨its2, r2, pl2, _⟩ := I.list hB
  have hl := r.length
  have hl2 := r2.length
  obtain ⟨⟨cls, dd, data, sl⟩, ho, hc, n, hd⟩ := pl.isList
  obtain ⟨⟨cls2, dd2, data2, sl2⟩, ho2, hc2, n2, hd2⟩ := pl2.isList
  simp only at hc hd hc2 hd2
  subst hc hd hc2 hd2
  refine concat_meets ⟨_, ho, rfl⟩ ⟨_, ho2, rfl⟩ noFill_list_add seq_list_add PySem.F.slot_list_add PySem.F.entry_list_add (PySem.F.args_list_add_2 _ _) (list_addW l b its.toArray its2.toArray n n2 dd dd2 sl sl2 (by rw [List.size_toArray, List.size_toArray]; omega)) ⟨ho, ho2, ?_⟩
  have ea : its.toArray ++ its2.toArray = (its ++ its2).toArray := by simp
  rw [ea]
  exact ⟨.ref _, _, I.lnew (t' := s.toks) (r.append r2) (by rw [List.length_append]; omega), rfl, q _ I.fresh⟩

def BOp.op : BOp → Operator
  | .add => .Add | .sub => .Sub | .mul => .Mult | .fdv => .FloorDiv | .mod => .Mod | .pow => .Pow
theorem op_bin (o : BOp) {pins : List (Addr × Obj)} {s : Shared} {σ : L2.St} {x y : V} {v u : Value} {d e z : D} (I : Inv X pins σ H s) (rx : RelV x v) (ry : RelV y u) (S : StOk X.wd g st H)
    (hx : Vw X.wd g H d x) (hy : Vw X.wd g H e y) (hz : binF o d e = some z) (q : Dn X g H st z Q) : wpAny (model X.prog X.w) X.A (binaryOp o.op v u) (EP X pins σ Q) X.xe s := by
  unfold binF at hz
  split at hz
  · -- int + int
    cases hz
    rw [hx.int] at rx; rw [hy.int] at ry
    exact op_add pins s σ H _ _ v u Q I rx ry ⟨_, _, rfl, rfl, q.int S⟩
  · -- lst + lst
    split at hz
    · rename_i hs
      cases hz
      obtain ⟨a, vs, rfl, h1, r1⟩ := hx.lst S
      obtain ⟨b, ws, rfl, h2, r2⟩ := hy.lst S
      cases rx; cases ry
      have hs2 := szOk_le hs
      rw [r1.length, r2.length] at hs2
      exact op_catR I h1 h2 hs2 fun p np => q.lst S (r1.append r2) np
    · cases hz
  · -- tup + tup
    split at hz
    · rename_i hs
      cases hz
      obtain ⟨a, vs, rfl, h1, r1⟩ := hx.tup S
      obtain ⟨b, ws, rfl, h2, r2⟩ := hy.tup S
      have hs2 := szOk_le hs
      rw [r1.length, r2.length] at hs2
      refine op_catA pins s σ H _ _ v u Q I rx ry ⟨a, b, vs, ws, rfl, rfl, h1, h2, hs2, fun e1 => ?_, fun _ e2 => ?_, fun _ _ p np => q.tup S (r1.append r2) np⟩
      · subst e1
        cases r1
        rcases hy with hy | ⟨_, _, c⟩
        · exact q.val S rfl hy
        · exact c.elim
      · subst e2
        cases r2
        rw [List.append_nil] at q
        rcases hx with hx | ⟨_, _, c⟩
        · exact q.val S rfl hx
        · exact c.elim
    · cases hz
  · -- str + str
    split at hz
    · rename_i hs
      cases hz
      rw [hx.str] at rx; rw [hy.str] at ry
      exact op_add_str pins s σ H _ _ v u Q I rx ry ⟨_, _, rfl, rfl, szOk_le hs, q.str S⟩
    · cases hz
  · cases hz
    rw [hx.int] at rx; rw [hy.int] at ry
    exact op_sub pins s σ H _ _ v u Q I rx ry ⟨_, _, rfl, rfl, q.int S⟩
  · split at hz
    · rename_i hs
      cases hz
      rw [hx.int] at rx; rw [hy.int] at ry
      refine op_mul pins s σ H _ _ v u Q I rx ry ⟨_, _, rfl, rfl, ?_, q.int S⟩
      unfold mulOk at hs
      rcases Bool.or_eq_true_iff.mp hs with h | h
      · have h := of_decide_eq_true h
        exact .inl (by omega)
      · have h := of_decide_eq_true h
        exact .inr (by omega)
    · cases hz
  · split at hz
    · rename_i hs
      cases hz
      obtain ⟨h1, h2⟩ := Bool.and_eq_true_iff.mp hs
      obtain ⟨h2, h3⟩ := Bool.and_eq_true_iff.mp h2
      obtain ⟨h3, h4⟩ := Bool.and_eq_true_iff.mp h3
      obtain ⟨a, vs, rfl, hq, r1⟩ := hx.tup S
      rw [hy.int] at ry
      have hl := r1.length
      refine op_repT pins s σ H _ _ v u Q I rx ry ⟨a, _, vs, rfl, rfl, hq, fun e => ?_, of_decide_eq_true h2, of_decide_eq_true h3, by have := of_decide_eq_true h4; omega, fun p np => q.tup S ?_ np⟩
      · subst e
        cases r1
        cases h1
      · have rep : ∀ n : Nat, RepL X.wd g (List.replicate n _).flatten (List.replicate n vs).flatten := fun n => by
          induction n with
          | zero => exact .nil
          | succ n ih =>
            rw [List.replicate_succ, List.flatten_cons, List.replicate_succ, List.flatten_cons]
            exact r1.append ih
        exact rep _
    · cases hz
  · split at hz
    · rename_i hs
      cases hz
      rw [hx.int] at rx; rw [hy.int] at ry
      exact op_mod pins s σ H _ _ v u Q I rx ry ⟨_, _, rfl, rfl, of_decide_eq_true hs, q.int S⟩
    · cases hz
  · split at hz
    · rename_i hs
      cases hz
      rw [hx.int] at rx; rw [hy.int] at ry
      obtain ⟨h1, h2⟩ := Bool.and_eq_true_iff.mp hs
      exact op_fdiv pins s σ H _ _ v u Q I rx ry ⟨_, _, rfl, rfl, ⟨of_decide_eq_true h1, of_decide_eq_true h2⟩, q.int S⟩
    · cases hz
  · split at hz
    · rename_i hs
      cases hz
      rw [hx.int] at rx; rw [hy.int] at ry
      obtain ⟨h1, h2⟩ := Bool.and_eq_true_iff.mp hs
      obtain ⟨h2, h3⟩ := Bool.and_eq_true_iff.mp h2
      have h2 := of_decide_eq_true h2
      refine op_pow pins s σ H _ _ v u Q I rx ry ⟨_, _, rfl, rfl, ⟨of_decide_eq_true h1, by omega, ?_⟩, q.int S⟩
      have h3 := of_decide_eq_true h3
      omega
    · cases hz
  · cases hz
/-! ### truth -/
theorem tru_of (S : StOk X.wd g st H) {d : D} {x : V} {b : Bool} (h : Vw X.wd g H d x) (e : truth d = some b) : TruV X.K x H b := by
  cases d with
  | non => cases e; rw [h.non]; rfl
  | bl b => cases e; rw [h.bl]; rfl
  | int i => cases e; rw [h.int]; rfl
  | str z =>
    have e2 : (if szOk z.length then some ((z.length : Int) != 0) else none) = some b := e
    split at e2
    · rename_i hs
      cases e2
      rw [h.str]
      exact ⟨szOk_le hs, rfl⟩
    · cases e2
  | tup ds =>
    cases e
    obtain ⟨a, vs, rfl, h1, r1⟩ := h.tup S
    refine .inr (.inl ⟨vs, h1, ?_⟩)
    cases r1 <;> rfl
  | lst ds =>
    cases e
    obtain ⟨a, vs, rfl, h1, r1⟩ := h.lst S
    refine .inl ⟨vs, h1, ?_⟩
    cases r1 <;> rfl
  | dic ds => cases e
  | cell n => cases e
  | fn f => cases e
end
end PyD

/-! PyDD: equality, order, in, is of data. -/
namespace PyD
open PySem PySem.Spec PyProof.Rows L2

mutual
def pd : D → PyData
  | .non => .none
  | .bl b => .bool b
  | .int i => .int i
  | .str x => .str x
  | .tup xs => .tuple (pds xs)
  | .lst xs => .list (pds xs)
  | .dic _ => .none
  | .cell _ => .none
  | .fn _ => .none
def pds : List D → List PyData
  | [] => []
  | x :: xs => pd x :: pds xs
end
theorem pds_map : ∀ xs : List D, pds xs = xs.map pd
  | [] => rfl
  | x :: xs => by
    show pd x :: pds xs = pd x :: xs.map pd
    rw [pds_map xs]
theorem okN_lay : ∀ (n : Nat) (d : D), D.okN n d = true → (pd d).canLay0 = true ∧ (pd d).depth ≤ n
  | 0, _, h => by cases h
  | n + 1, d, h => by
    have all : ∀ xs : List D, xs.all (D.okN n) = true → PyData.canLayAll0 (pds xs) = true ∧ PyData.depthAll (pds xs) ≤ n := by
      intro xs
      induction xs with
      | nil => intro _; exact ⟨by simp [pds, PyData.canLayAll0], by simp [pds, PyData.depthAll]⟩
      | cons x xs ih =>
        intro hx
        rw [List.all_cons, Bool.and_eq_true] at hx
        obtain ⟨a1, a2⟩ := okN_lay n x hx.1
        obtain ⟨b1, b2⟩ := ih hx.2
        exact ⟨by simp [pds, PyData.canLayAll0, a1, b1], by simp only [pds, PyData.depthAll]; omega⟩
    cases d with
    | non => simp [pd, PyData.canLay0, PyData.depth]
    | bl b => simp [pd, PyData.canLay0, PyData.depth]
    | int b => simp [pd, PyData.canLay0, PyData.depth]
    | str b =>
      have h2 : PyData.strOk b = true := h
      simp [pd, PyData.canLay0, PyData.depth, h2]
    | tup xs =>
      obtain ⟨a, b⟩ := all xs h
      exact ⟨by simp [pd, PyData.canLay0, a], by simp only [pd, PyData.depth]; omega⟩
    | lst xs =>
      obtain ⟨a, b⟩ := all xs h
      exact ⟨by simp [pd, PyData.canLay0, a], by simp only [pd, PyData.depth]; omega⟩
    | _ => cases h
theorem okD_shaped {d : D} (h : okD d = true) : SeqAt.shaped (pd d) = true := by
  obtain ⟨a, b⟩ := okN_lay 20 d h
  unfold SeqAt.shaped
  rw [a, Bool.true_and]
  exact decide_eq_true (by omega)
theorem eqv_pd : ∀ (n : Nat) (d e : D), D.okN n d = true → D.okN n e = true → PyData.eqv (pd d) (pd e) = D.eqv d e
  | 0, _, _, h, _ => by cases h
  | n + 1, d, e, h, h' => by
    have all : ∀ xs ys : List D, xs.all (D.okN n) = true → ys.all (D.okN n) = true → PyData.eqvAll (pds xs) (pds ys) = eqvAll xs ys := by
      intro xs
      induction xs with
      | nil =>
        intro ys _ _
        cases ys <;> simp [pds, PyData.eqvAll, eqvAll]
      | cons x xs ih =>
        intro ys hx hy
        cases ys with
        | nil => simp [pds, PyData.eqvAll, eqvAll]
        | cons y ys =>
          rw [List.all_cons, Bool.and_eq_true] at hx hy
          simp only [pds, PyData.eqvAll, eqvAll, eqv_pd n x y hx.1 hy.1, ih ys hx.2 hy.2]
    cases d <;> cases e <;> first
      | (cases h; done)
      | (cases h'; done)
      | (simp [pd, PyData.eqv, D.eqv]; done)
      | (simp only [pd, PyData.eqv, D.eqv]; exact all _ _ h h')
section
variable {B : Wd} {g : G} {H : Hp} {st : Stt}
theorem Rep.dp (S : StOk B g st H) : ∀ (n : Nat) {d : D} {v : V}, D.okN n d = true → Rep B g d v → Dp B.K H v (pd d)
  | 0, _, _, h, _ => by cases h
  | n + 1, d, v, h, r => by
    have all : ∀ {xs : List D} {vs : List V}, xs.all (D.okN n) = true → RepL B g xs vs → DpAll B.K H vs (pds xs) := by
      intro xs
      induction xs with
      | nil =>
        intro vs _ r
        cases r
        exact .nil
      | cons x xs ih =>
        intro vs hx r
        rw [List.all_cons, Bool.and_eq_true] at hx
        cases r with
        | cons r t => exact .cons (Rep.dp S n hx.1 r) (ih hx.2 t)
    cases r with
    | non => exact .non
    | bl b => exact .bl b
    | int i => exact .int i
    | str x => exact .str x
    | tup q r => exact .tup (SqT.sub S q) (all h r)
    | lst q r => exact .lst (SqL.sub S q) (all h r)
    | _ => cases h
theorem RepL.dp (S : StOk B g st H) {n : Nat} : ∀ {ds : List D} {vs : List V}, ds.all (D.okN n) = true → RepL B g ds vs → DpAll B.K H vs (pds ds)
  | [], _, _, r => by cases r; exact .nil
  | d :: ds, _, h, r => by
    rw [List.all_cons, Bool.and_eq_true] at h
    cases r with
    | cons r t => exact .cons (Rep.dp S n h.1 r) (RepL.dp S h.2 t)
theorem Vw.dp (S : StOk B g st H) {d : D} {v : V} (h : okD d = true) (r : Vw B g H d v) : Dp B.K H v (pd d) := by
  rcases r with r | ⟨a, rfl, c⟩
  · exact Rep.dp S 20 h r
  · cases d with
    | lst ds =>
      obtain ⟨vs, h1, h2⟩ := c
      exact .lst (SqL.of h1) (RepL.dp S (n := 19) h h2)
    | dic ds => cases h
    | _ => exact c.elim
end
section
variable {X : Cx} {g : G} {st : Stt} {H : Hp} {Q : VK}
theorem bool_eq {a b : Bool} (h : (a && b) = true) : a = true ∧ b = true := Bool.and_eq_true_iff.mp h
theorem op_eqq (hu : X.A.units + 64 < cLine) {pins : List (Addr × Obj)} {s : Shared} {σ : L2.St} {x y : V} {v u : Value} {d e : D} (I : Inv X pins σ H s) (rx : RelV x v) (ry : RelV y u) (S : StOk X.wd g st H)
    (hx : Vw X.wd g H d x) (hy : Vw X.wd g H e y) (od : okD d = true) (oe : okD e = true) (q : Q (.bl (D.eqv d e)) H) : wpAny (model X.prog X.w) X.A (compareOp .Eq v u) (EP X pins σ Q) X.xe s :=
  op_eqD hu pins s σ H x y v u Q I rx ry ⟨pd d, pd e, hx.dp S od, hy.dp S oe, okD_shaped od, okD_shaped oe, by rw [eqv_pd 20 d e od oe]; exact q⟩
theorem op_neq (hu : X.A.units + 64 < cLine) {pins : List (Addr × Obj)} {s : Shared} {σ : L2.St} {x y : V} {v u : Value} {d e : D} (I : Inv X pins σ H s) (rx : RelV x v) (ry : RelV y u) (S : StOk X.wd g st H)
    (hx : Vw X.wd g H d x) (hy : Vw X.wd g H e y) (od : okD d = true) (oe : okD e = true) (q : Q (.bl (!D.eqv d e)) H) : wpAny (model X.prog X.w) X.A (compareOp .NotEq v u) (EP X pins σ Q) X.xe s :=
  op_neD hu pins s σ H x y v u Q I rx ry ⟨pd d, pd e, hx.dp S od, hy.dp S oe, okD_shaped od, okD_shaped oe, by rw [eqv_pd 20 d e od oe]; exact q⟩
/-! ### < -/
theorem any_eqv {n : Nat} {d : D} (h : D.okN n d = true) : ∀ {xs : List D}, xs.all (D.okN n) = true → ((pds xs).any fun z => PyData.eqv z (pd d)) = xs.any fun z => D.eqv z d
  | [], _ => rfl
  | x :: xs, hx => by
    rw [List.all_cons, Bool.and_eq_true] at hx
    show ((pd x :: pds xs).any _) = _
    rw [List.any_cons, List.any_cons, any_eqv h hx.2, eqv_pd n x d hx.1 h]
theorem like_get : ∀ {xs ys : List D} {j : Nat} {d e : D}, likeAll xs ys = true → xs[j]? = some d → ys[j]? = some e → D.like d e = true
  | [], _, _, _, _, _, h, _ => by simp at h
  | _ :: _, [], _, _, _, _, _, h => by simp at h
  | x :: xs, y :: ys, 0, d, e, h, h1, h2 => by
    have h1 : x = d := Option.some.inj h1
    have h2 : y = e := Option.some.inj h2
    subst h1 h2
    exact (bool_eq (show (D.like x y && likeAll xs ys) = true from h)).1
  | x :: xs, y :: ys, j + 1, d, e, h, h1, h2 => like_get (xs := xs) (ys := ys) (j := j) (bool_eq (show (D.like x y && likeAll xs ys) = true from h)).2 (by simpa using h1) (by simpa using h2)
/-- what is asked of < one layer below -/
def RcLt (X : Cx) (g : G) (H : Hp) (s : Shared) (n : Nat) : Prop := ∀ (A : Around) (d e : D) (x y : V) (v u : Value), A.units + 2 * n < cLine → D.okN n d = true → D.okN n e = true →
    Vw X.wd g H d x → Vw X.wd g H e y → RelV x v → RelV y u → D.like d e = true → Ob.RcOp .Lt A s v u (D.ltB d e)
/-- two tuples place by place -/
theorem tup_parts {pins : List (Addr × Obj)} {s : Shared} {σ : L2.St} (I : Inv X pins σ H s) (S : StOk X.wd g st H) {n : Nat} (ih : RcLt X g H s n) {A : Around} (hu : A.units + 2 * n < cLine) {xs ys : List D} {vs ws : List V} {its its2 : List Value}
    (od : xs.all (D.okN n) = true) (oe : ys.all (D.okN n) = true) (hb : likeAll xs ys = true) (r1 : RepL X.wd g xs vs) (r2 : RepL X.wd g ys ws) (v1 : Vals vs its) (v2 : Vals ws its2) :
    ∃ e r : Nat → Bool, (∀ j (q1 : j < its.toArray.size) (q2 : j < its2.toArray.size), SeqAt.EqAt A s its.toArray[j] its2.toArray[j] (e j)) ∧
      (∀ j (q1 : j < its.toArray.size) (q2 : j < its2.toArray.size), e j = false → Ob.RcOp .Lt A s its.toArray[j] its2.toArray[j] (r j)) ∧
      Ob.lexAt e r (decide (its.toArray.size < its2.toArray.size)) 0 (min its.toArray.size its2.toArray.size) = ltAll xs ys := by
  have l1 := v1.length
  have l2 := v2.length
  have l3 := r1.length
  have l4 := r2.length
  -- the answers place by place
  have key : ∀ j (q1 : j < its.toArray.size) (q2 : j < its2.toArray.size), ∃ (d e : D), xs[j]? = some d ∧ ys[j]? = some e ∧ SeqAt.EqAt A s its.toArray[j] its2.toArray[j] (D.eqv d e) ∧
      Ob.RcOp .Lt A s its.toArray[j] its2.toArray[j] (D.ltB d e) := by
    intro j q1 q2
    have p1 : j < its.length := by simpa using q1
    have p2 : j < its2.length := by simpa using q2
    have m1 : j < vs.length := by omega
    have m2 : j < ws.length := by omega
    obtain ⟨d, e1, rd⟩ := r1.getV (List.getElem?_eq_getElem m1)
    obtain ⟨e, e2, re⟩ := r2.getV (List.getElem?_eq_getElem m2)
    obtain ⟨u1, f1, g1⟩ := v1.get (List.getElem?_eq_getElem m1)
    obtain ⟨u2, f2, g2⟩ := v2.get (List.getElem?_eq_getElem m2)
    have o1 : D.okN n d = true := List.all_eq_true.mp od d (List.mem_of_getElem? e1)
    have o2 : D.okN n e = true := List.all_eq_true.mp oe e (List.mem_of_getElem? e2)
    have w1 : its.toArray[j] = u1 := by
      have : its[j]? = some its[j] := List.getElem?_eq_getElem p1
      rw [f1] at this
      simpa using (Option.some.inj this).symm
    have w2 : its2.toArray[j] = u2 := by
      have : its2[j]? = some its2[j] := List.getElem?_eq_getElem p2
      rw [f2] at this
      simpa using (Option.some.inj this).symm
    rw [w1, w2]
    obtain ⟨as1, re1⟩ := Dp.reads I (pd d) _ u1 (Rep.dp S n o1 rd) g1
    obtain ⟨as2, re2⟩ := Dp.reads I (pd e) _ u2 (Rep.dp S n o2 re) g2
    obtain ⟨k1, k2⟩ := okN_lay n d o1
    obtain ⟨k3, k4⟩ := okN_lay n e o2
    refine ⟨d, e, e1, e2, ?_, ih A d e _ _ u1 u2 (by omega) o1 o2 (.inl rd) (.inl re) g1 g2 (like_get hb e1 e2)⟩
    rw [← eqv_pd n d e o1 o2]
    exact SeqAt.eqAt_reads (pd d) (pd e) A s u1 u2 as1 as2 re1 re2 k1 k3 (by
      have : min (pd d).depth (pd e).depth ≤ (pd d).depth := Nat.min_le_left _ _
      omega)
  refine ⟨fun j => (xs[j]?.bind fun d => ys[j]?.map fun e => D.eqv d e).getD true, fun j => (xs[j]?.bind fun d => ys[j]?.map fun e => D.ltB d e).getD false, fun j q1 q2 => ?_, fun j q1 q2 _ => ?_, ?_⟩
  · obtain ⟨d, e, e1, e2, k1, _⟩ := key j q1 q2
    simpa [e1, e2] using k1
  · obtain ⟨d, e, e1, e2, _, k2⟩ := key j q1 q2
    simpa [e1, e2] using k2
  · -- the first unequal place
    have lex : ∀ (k i : Nat) (xs' ys' : List D), xs' = xs.drop i → ys' = ys.drop i → i + k = min its.toArray.size its2.toArray.size →
        Ob.lexAt (fun j => (xs[j]?.bind fun d => ys[j]?.map fun e => D.eqv d e).getD true) (fun j => (xs[j]?.bind fun d => ys[j]?.map fun e => D.ltB d e).getD false) (decide (its.toArray.size < its2.toArray.size)) i k = ltAll xs' ys' := by
      intro k
      have hs1 : its.toArray.size = xs.length := by rw [List.size_toArray]; omega
      have hs2 : its2.toArray.size = ys.length := by rw [List.size_toArray]; omega
      induction k with
      | zero =>
        intro i xs' ys' ex ey hk
        rw [Ob.lexAt_zero]
        have z1 : xs'.length = xs.length - i := by rw [ex, List.length_drop]
        have z2 : ys'.length = ys.length - i := by rw [ey, List.length_drop]
        cases xs' with
        | nil =>
          cases ys' with
          | nil =>
            simp only [List.length_nil] at z1 z2
            exact decide_eq_false (by omega)
          | cons y ys' =>
            simp only [List.length_nil, List.length_cons] at z1 z2
            exact decide_eq_true (by omega)
        | cons x xs' =>
          cases ys' with
          | nil =>
            simp only [List.length_nil, List.length_cons] at z1 z2
            exact decide_eq_false (by omega)
          | cons y ys' =>
            simp only [List.length_cons] at z1 z2
            omega
      | succ k ih =>
        intro i xs' ys' ex ey hk
        have i1 : i < xs.length := by omega
        have i2 : i < ys.length := by omega
        rw [List.drop_eq_getElem_cons i1] at ex
        rw [List.drop_eq_getElem_cons i2] at ey
        subst ex ey
        rw [Ob.lexAt_succ, List.getElem?_eq_getElem i1, List.getElem?_eq_getElem i2]
        show _ = (if D.eqv xs[i] ys[i] then ltAll (xs.drop (i + 1)) (ys.drop (i + 1)) else D.ltB xs[i] ys[i])
        by_cases he : D.eqv xs[i] ys[i] = true
        · rw [if_pos he, if_pos (by simpa using he)]
          exact ih (i + 1) _ _ rfl rfl (by omega)
        · rw [if_neg he, if_neg (by simpa using he)]
          rfl
    exact lex _ 0 xs ys rfl rfl (Nat.zero_add _)
/-- each layer of data compared by < -/
theorem rc_lt {pins : List (Addr × Obj)} {s : Shared} {σ : L2.St} (I : Inv X pins σ H s) (S : StOk X.wd g st H) : ∀ (n : Nat), RcLt X g H s n
  | 0, _, _, _, _, _, _, _, _, h, _, _, _, _, _, _ => by cases h
  | n + 1, A, d, e, x, y, v, u, hu, od, oe, hx, hy, rx, ry, hb => by
    cases d <;> cases e <;> first | (cases hb; done) | skip
    · -- ints
      rename_i i j
      rw [hx.int] at rx; rw [hy.int] at ry
      obtain ⟨t, rfl⟩ := rx
      obtain ⟨t', rfl⟩ := ry
      exact Ob.RcOp.lt_int i j t t'
    · rename_i i j
      rw [hx.str] at rx; rw [hy.str] at ry
      obtain ⟨t, rfl⟩ := rx
      obtain ⟨t', rfl⟩ := ry
      exact fun prog w E Q h => lt_str h
    · rename_i xs ys
      obtain ⟨a, vs, rfl, h1, r1⟩ := hx.tup S
      obtain ⟨c, ws, rfl, h2, r2⟩ := hy.tup S
      cases rx; cases ry
      obtain ⟨its, v1, t1, _⟩ := I.tuple h1
      obtain ⟨its2, v2, t2, _⟩ := I.tuple h2
      have hul : (A.in1).units = A.units + 1 := rfl
      obtain ⟨e, r, he, hr, hl⟩ := tup_parts I S (rc_lt I S n) (A := A.in1) (by omega) od oe hb r1 r2 v1 v2
      show Ob.RcOp .Lt A s _ _ (ltAll xs ys)
      rw [← hl]
      exact Ob.RcOp.tuples_lt t1 t2 (by omega) he hr
/-! ### in -/
theorem in_seq (hu : X.A.units + 65 < cLine) (neg : Bool) {pins : List (Addr × Obj)} {s : Shared} {σ : L2.St} {x y : V} {v u : Value} {d e : D} {b : Bool} (I : Inv X pins σ H s) (rx : RelV x v) (ry : RelV y u) (S : StOk X.wd g st H)
    (hx : Vw X.wd g H d x) (hy : Vw X.wd g H e y) {ds : List D} (he : e = .lst ds ∨ e = .tup ds) (od : okD d = true) (os : ds.all okD = true) (q : Q (.bl (if neg then !(ds.any fun z => D.eqv z d) else ds.any fun z => D.eqv z d)) H) :
    wpAny (model X.prog X.w) X.A (compareOp (if neg then .NotIn else .In) v u) (EP X pins σ Q) X.xe s := by
  have od1 : D.okN 20 d = true := od
  have os1 : ds.all (D.okN 20) = true := os
  have hx2 := hx.dp S od
  obtain ⟨as, r1⟩ := Dp.reads I (pd d) x v hx2 rx
  obtain ⟨k1, k2⟩ := okN_lay 20 d od1
  have lay : PyData.canLayAll0 (pds ds) = true := by
    clear hy he q
    induction ds with
    | nil => simp [pds, PyData.canLayAll0]
    | cons a ds ih =>
      rw [List.all_cons, Bool.and_eq_true] at os os1
      simp [pds, PyData.canLayAll0, (okN_lay 20 a os1.1).1, ih os.2 os1.2]
  have room : X.A.units + 1 + min (PyData.depthAll (pds ds)) (pd d).depth < cLine := by
    have : min (PyData.depthAll (pds ds)) (pd d).depth ≤ (pd d).depth := Nat.min_le_right _ _
    omega
  have ha := any_eqv od1 os1
  rcases he with rfl | rfl
  · obtain ⟨a, vs, rfl, h1, r⟩ := hy.lst S
    obtain ⟨bs, r2⟩ := Dp.reads I (.list (pds ds)) (.ref a) u (.lst h1 (RepL.dp S os1 r)) ry
    cases neg with
    | false => exact SeqAt.in_list_reads r2 r1 lay k1 room ⟨.bl _, H, I, by rw [ha]; rfl, q⟩
    | true => exact SeqAt.notIn_list_reads r2 r1 lay k1 room ⟨.bl _, H, I, by rw [ha]; rfl, q⟩
  · obtain ⟨a, vs, rfl, h1, r⟩ := hy.tup S
    obtain ⟨bs, r2⟩ := Dp.reads I (.tuple (pds ds)) (.ref a) u (.tup h1 (RepL.dp S os1 r)) ry
    cases neg with
    | false => exact SeqAt.in_tuple_reads r2 r1 lay k1 room ⟨.bl _, H, I, by rw [ha]; rfl, q⟩
    | true => exact SeqAt.notIn_tuple_reads r2 r1 lay k1 room ⟨.bl _, H, I, by rw [ha]; rfl, q⟩
end
end PyD

/-! PyDE: sorted of like data. -/
namespace PyD
open PySem PySem.Spec PyProof.Rows L2

/-! ### a line of all data of ints, texts, tuples -/
def D.sk : Nat → D → Bool
  | 0, _ => false
  | n + 1, d => match d with
    | .int _ => true
    | .str _ => true
    | .tup xs => xs.all (D.sk n)
    | _ => false
mutual
def D.cp : D → D → Ordering
  | .int i, .int j => if i < j then .lt else if j < i then .gt else .eq
  | .int _, .str _ => .lt
  | .int _, .tup _ => .lt
  | .str _, .int _ => .gt
  | .str x, .str y => if x.cps.toList < y.cps.toList then .lt else if y.cps.toList < x.cps.toList then .gt else .eq
  | .str _, .tup _ => .lt
  | .tup _, .int _ => .gt
  | .tup _, .str _ => .gt
  | .tup xs, .tup ys => cpAll xs ys
  | _, _ => .eq
def cpAll : List D → List D → Ordering
  | [], [] => .eq
  | [], _ :: _ => .lt
  | _ :: _, [] => .gt
  | x :: xs, y :: ys => match D.cp x y with
    | .lt => .lt
    | .gt => .gt
    | .eq => cpAll xs ys
end
def D.tl (x y : D) : Bool := D.cp x y == .lt
def tlAll (x y : List D) : Bool := cpAll x y == .lt
theorem cp_swap : ∀ (n : Nat) (x y : D), D.sk n x = true → D.sk n y = true → D.cp y x = (D.cp x y).swap
  | 0, _, _, h, _ => by cases h
  | n + 1, x, y, hx, hy => by
    cases x <;> cases y <;> first | (cases hx; done) | (cases hy; done) | rfl | skip
    · rename_i i j
      simp only [D.cp]
      by_cases h : i < j
      · rw [if_pos h, if_neg (by omega), if_pos h]; rfl
      · by_cases h2 : j < i
        · simp [h, h2]
        · simp [h, h2]
    · rename_i i j
      simp only [D.cp]
      by_cases h : i.cps.toList < j.cps.toList
      · rw [if_pos h, if_neg (fun q => List.lt_irrefl _ (List.lt_trans h q)), if_pos h]; rfl
      · by_cases h2 : j.cps.toList < i.cps.toList
        · simp [h, h2]
        · simp [h, h2]
    · rename_i xs ys
      replace hx : xs.all (D.sk n) = true := hx
      replace hy : ys.all (D.sk n) = true := hy
      show cpAll ys xs = (cpAll xs ys).swap
      induction xs generalizing ys with
      | nil => cases ys <;> rfl
      | cons a xs ih =>
        cases ys with
        | nil => rfl
        | cons b ys =>
          rw [List.all_cons, Bool.and_eq_true] at hx hy
          simp only [cpAll]
          rw [cp_swap n a b hx.1 hy.1]
          cases D.cp a b with
          | lt => rfl
          | gt => rfl
          | eq => exact ih ys hx.2 hy.2
theorem tlAll_cons {n : Nat} {x y : D} {xs ys : List D} (hx : D.sk n x = true) (hy : D.sk n y = true) : tlAll (x :: xs) (y :: ys) = if D.tl x y then true else if D.tl y x then false else tlAll xs ys := by
  unfold tlAll D.tl
  rw [cp_swap n x y hx hy]
  simp only [cpAll]
  cases D.cp x y <;> rfl
theorem nat_lt_tri {a b : List Nat} : a < b ∨ a = b ∨ b < a := by
  rcases List.le_total a b with h | h
  · by_cases e : a = b
    · exact .inr (.inl e)
    · exact .inl (Classical.byContradiction fun z => e (List.le_antisymm h (List.not_lt.mp z)))
  · by_cases e : a = b
    · exact .inr (.inl e)
    · exact .inr (.inr (Classical.byContradiction fun z => e (List.le_antisymm (List.not_lt.mp z) h)))
theorem str_ext {x y : Str} (h : x.cps.toList = y.cps.toList) : x = y := by
  cases x; cases y
  congr 1
  exact Array.toList_inj.mp h
/-- a line -/
theorem tl_line : ∀ (n : Nat), (∀ x, D.sk n x = true → D.tl x x = false) ∧ (∀ x y z, D.sk n x = true → D.sk n y = true → D.sk n z = true → D.tl x y = true → D.tl y z = true → D.tl x z = true) ∧
    (∀ x y, D.sk n x = true → D.sk n y = true → D.tl x y = false → D.tl y x = false → x = y)
  | 0 => ⟨fun _ h => (by cases h), fun _ _ _ h => (by cases h), fun _ _ h => (by cases h)⟩
  | n + 1 => by
    obtain ⟨irr, tra, tri⟩ := tl_line n
    have asy : ∀ x y, D.sk n x = true → D.sk n y = true → D.tl x y = true → D.tl y x = false := fun x y hx hy h => by
      cases q : D.tl y x with
      | false => rfl
      | true =>
        have := tra x y x hx hy hx h q
        rw [irr x hx] at this; cases this
    have irrL : ∀ xs : List D, xs.all (D.sk n) = true → tlAll xs xs = false := by
      intro xs
      induction xs with
      | nil => intro _; rfl
      | cons x xs ih =>
        intro h
        rw [List.all_cons, Bool.and_eq_true] at h
        rw [tlAll_cons h.1 h.1, irr x h.1]
        exact ih h.2
    have triL : ∀ xs ys : List D, xs.all (D.sk n) = true → ys.all (D.sk n) = true → tlAll xs ys = false → tlAll ys xs = false → xs = ys := by
      intro xs
      induction xs with
      | nil => intro ys _ _ h1 h2; cases ys with
        | nil => rfl
        | cons y ys => cases h1
      | cons x xs ih =>
        intro ys hx hy h1 h2
        cases ys with
        | nil => cases h2
        | cons y ys =>
          rw [List.all_cons, Bool.and_eq_true] at hx hy
          rw [tlAll_cons hx.1 hy.1] at h1
          rw [tlAll_cons hy.1 hx.1] at h2
          cases e1 : D.tl x y with
          | true => rw [e1] at h1; cases h1
          | false =>
            cases e2 : D.tl y x with
            | true => rw [e2] at h2; cases h2
            | false =>
              rw [e1, e2] at h1 h2
              rw [tri x y hx.1 hy.1 e1 e2, ih ys hx.2 hy.2 h1 h2]
    have traL : ∀ xs ys zs : List D, xs.all (D.sk n) = true → ys.all (D.sk n) = true → zs.all (D.sk n) = true → tlAll xs ys = true → tlAll ys zs = true → tlAll xs zs = true := by
      intro xs
      induction xs with
      | nil => intro ys zs _ _ _ h1 h2; cases ys <;> cases zs <;> first | rfl | (cases h1; done) | (cases h2; done)
      | cons x xs ih =>
        intro ys zs hx hy hz h1 h2
        cases ys with
        | nil => cases h1
        | cons y ys =>
          cases zs with
          | nil => cases h2
          | cons z zs =>
            rw [List.all_cons, Bool.and_eq_true] at hx hy hz
            rw [tlAll_cons hx.1 hy.1] at h1
            rw [tlAll_cons hy.1 hz.1] at h2
            rw [tlAll_cons hx.1 hz.1]
            cases e1 : D.tl x y with
            | true =>
              cases e2 : D.tl y z with
              | true => rw [tra x y z hx.1 hy.1 hz.1 e1 e2]; rfl
              | false =>
                cases e3 : D.tl z y with
                | true => rw [e2, e3] at h2; cases h2
                | false =>
                  have := tri y z hy.1 hz.1 e2 e3
                  subst this
                  rw [e1]; rfl
            | false =>
              cases e1' : D.tl y x with
              | true => rw [e1, e1'] at h1; cases h1
              | false =>
                have := tri x y hx.1 hy.1 e1 e1'
                subst this
                rw [e1] at h1
                cases e2 : D.tl x z with
                | true => rfl
                | false =>
                  cases e3 : D.tl z x with
                  | true => rw [e2, e3] at h2; cases h2
                  | false =>
                    rw [e2, e3] at h2
                    exact ih ys zs hx.2 hy.2 hz.2 h1 h2
    have ti : ∀ i j : Int, D.tl (.int i) (.int j) = decide (i < j) := fun i j => by
      simp only [D.tl, D.cp]
      by_cases h : i < j
      · rw [if_pos h, decide_eq_true h]; rfl
      · rw [if_neg h, decide_eq_false h]
        split <;> rfl
    have ts : ∀ i j : Str, D.tl (.str i) (.str j) = decide (i.cps.toList < j.cps.toList) := fun i j => by
      simp only [D.tl, D.cp]
      by_cases h : i.cps.toList < j.cps.toList
      · rw [if_pos h, decide_eq_true h]; rfl
      · rw [if_neg h, decide_eq_false h]
        split <;> rfl
    refine ⟨fun x hx => ?_, fun x y z hx hy hz h1 h2 => ?_, fun x y hx hy h1 h2 => ?_⟩
    · cases x <;> first | (cases hx; done) | skip
      · rw [ti]; exact decide_eq_false (Int.lt_irrefl _)
      · rw [ts]; exact decide_eq_false (List.lt_irrefl _)
      · exact irrL _ hx
    · cases x <;> cases y <;> first | (cases h1; done) | (cases hx; done) | (cases hy; done) | skip
      all_goals cases z <;> first | (cases h2; done) | (cases hz; done) | rfl | skip
      · simp only [ti, decide_eq_true_eq] at *; omega
      · simp only [ts, decide_eq_true_eq] at *; exact List.lt_trans h1 h2
      · exact traL _ _ _ hx hy hz h1 h2
    · cases x <;> cases y <;> first | (cases h1; done) | (cases h2; done) | (cases hx; done) | (cases hy; done) | skip
      · simp only [ti, decide_eq_false_iff_not] at *
        congr 1; omega
      · simp only [ts, decide_eq_false_iff_not] at *
        rename_i a b
        rcases nat_lt_tri (a := a.cps.toList) (b := b.cps.toList) with h | h | h
        · exact absurd h h1
        · rw [str_ext h]
        · exact absurd h h2
      · rw [triL _ _ hx hy h1 h2]
/-! ### like data are such, and < is that line -/
theorem sk_of : ∀ (n : Nat) (x : D), D.okN n x = true → D.like x x = true → D.sk n x = true
  | 0, _, h, _ => by cases h
  | n + 1, x, h, l => by
    cases x <;> first | (cases h; done) | (cases l; done) | rfl | skip
    rename_i xs
    replace h : xs.all (D.okN n) = true := h
    replace l : likeAll xs xs = true := l
    show xs.all (D.sk n) = true
    induction xs with
    | nil => rfl
    | cons a xs ih =>
      rw [List.all_cons, Bool.and_eq_true] at h
      obtain ⟨l1, l2⟩ := bool_eq (show (D.like a a && likeAll xs xs) = true from l)
      rw [List.all_cons, sk_of n a h.1 l1, ih h.2 l2]
      rfl
theorem eqv_sk : ∀ (n : Nat) (x y : D), D.sk n x = true → D.sk n y = true → (D.eqv x y = true ↔ x = y)
  | 0, _, _, h, _ => by cases h
  | n + 1, x, y, hx, hy => by
    cases x <;> cases y <;> first | (cases hx; done) | (cases hy; done) | (simp [D.eqv]; done) | skip
    rename_i xs ys
    replace hx : xs.all (D.sk n) = true := hx
    replace hy : ys.all (D.sk n) = true := hy
    have e : eqvAll xs ys = true ↔ xs = ys := by
      induction xs generalizing ys with
      | nil => cases ys <;> simp [eqvAll]
      | cons a xs ih =>
        cases ys with
        | nil => simp [eqvAll]
        | cons b ys =>
          rw [List.all_cons, Bool.and_eq_true] at hx hy
          have e1 := eqv_sk n a b hx.1 hy.1
          have e2 := ih ys hx.2 hy.2
          simp only [eqvAll, Bool.and_eq_true, e1, e2, List.cons.injEq]
    show eqvAll xs ys = true ↔ D.tup xs = D.tup ys
    rw [e]
    exact ⟨fun q => by rw [q], fun q => D.tup.inj q⟩
theorem ltB_tl : ∀ (n : Nat) (x y : D), D.sk n x = true → D.sk n y = true → D.like x y = true → D.ltB x y = D.tl x y
  | 0, _, _, h, _, _ => by cases h
  | n + 1, x, y, hx, hy, l => by
    obtain ⟨irr, tra, tri⟩ := tl_line n
    cases x <;> cases y <;> first | (cases l; done) | (cases hx; done) | (cases hy; done) | skip
    · rename_i i j
      simp only [D.tl, D.cp, D.ltB]
      by_cases h : i < j
      · rw [if_pos h, decide_eq_true h]; rfl
      · rw [if_neg h, decide_eq_false h]
        split <;> rfl
    · rename_i i j
      simp only [D.tl, D.cp, D.ltB]
      by_cases h : i.cps.toList < j.cps.toList
      · rw [if_pos h, decide_eq_true h]; rfl
      · rw [if_neg h, decide_eq_false h]
        split <;> rfl
    rename_i xs ys
    replace hx : xs.all (D.sk n) = true := hx
    replace hy : ys.all (D.sk n) = true := hy
    replace l : likeAll xs ys = true := l
    show ltAll xs ys = tlAll xs ys
    induction xs generalizing ys with
    | nil => cases ys <;> rfl
    | cons a xs ih =>
      cases ys with
      | nil => rfl
      | cons b ys =>
        rw [List.all_cons, Bool.and_eq_true] at hx hy
        obtain ⟨l1, l2⟩ := bool_eq (show (D.like a b && likeAll xs ys) = true from l)
        rw [tlAll_cons hx.1 hy.1]
        show (if D.eqv a b then ltAll xs ys else D.ltB a b) = (if D.tl a b then true else if D.tl b a then false else tlAll xs ys)
        by_cases e : a = b
        · subst e
          rw [if_pos ((eqv_sk n a a hx.1 hx.1).mpr rfl), irr a hx.1]
          exact ih ys hx.2 hy.2 l2
        · rw [if_neg (fun q => e ((eqv_sk n a b hx.1 hy.1).mp q)), ltB_tl n a b hx.1 hy.1 l1]
          cases e1 : D.tl a b with
          | true => rfl
          | false =>
            cases e2 : D.tl b a with
            | true => rfl
            | false => exact absurd (tri a b hx.1 hy.1 e1 e2) e
/-! ### a sort has one end -/
theorem ins_perm (lt : D → D → Bool) (x : D) : ∀ xs : List D, (ins lt x xs).Perm (x :: xs)
  | [] => .refl _
  | y :: ys => by
    unfold ins
    split
    · exact ((ins_perm lt x ys).cons y).trans (.swap x y ys)
    · exact .refl _
theorem isort_perm (lt : D → D → Bool) : ∀ xs : List D, (isort lt xs).Perm xs
  | [] => .refl _
  | x :: xs => (ins_perm lt x _).trans ((isort_perm lt xs).cons x)
theorem ins_sorted {lt : D → D → Bool} {x : D} (tra : ∀ a b c, lt b a = false → lt c b = false → lt c a = false) (asy : ∀ a b, lt a b = true → lt b a = false) : ∀ {xs : List D}, xs.Pairwise (fun a b => lt b a = false) → (ins lt x xs).Pairwise (fun a b => lt b a = false)
  | [], _ => List.pairwise_singleton _ _
  | y :: ys, h => by
    obtain ⟨h1, h2⟩ := List.pairwise_cons.mp h
    unfold ins
    split
    · rename_i q
      refine List.pairwise_cons.mpr ⟨fun z hz => ?_, ins_sorted tra asy h2⟩
      rcases List.mem_cons.mp ((ins_perm lt x ys).mem_iff.mp hz) with e | hz
      · subst e; exact asy _ _ q
      · exact h1 z hz
    · rename_i q
      have q : lt y x = false := by simpa using q
      refine List.pairwise_cons.mpr ⟨fun z hz => ?_, h⟩
      rcases List.mem_cons.mp hz with e | hz
      · subst e; exact q
      · exact tra x y z q (h1 z hz)
theorem isort_sorted {lt : D → D → Bool} (tra : ∀ a b c, lt b a = false → lt c b = false → lt c a = false) (asy : ∀ a b, lt a b = true → lt b a = false) : ∀ xs : List D, (isort lt xs).Pairwise (fun a b => lt b a = false)
  | [] => List.Pairwise.nil
  | x :: xs => ins_sorted tra asy (isort_sorted tra asy xs)
theorem ins_congr {lt lt' : D → D → Bool} {x : D} : ∀ {xs : List D}, (∀ y ∈ xs, lt y x = lt' y x) → ins lt x xs = ins lt' x xs
  | [], _ => rfl
  | y :: ys, h => by
    unfold ins
    rw [h y (List.mem_cons_self ..), ins_congr fun z hz => h z (List.mem_cons_of_mem _ hz)]
theorem isort_congr {lt lt' : D → D → Bool} : ∀ {xs : List D}, (∀ x ∈ xs, ∀ y ∈ xs, lt y x = lt' y x) → isort lt xs = isort lt' xs
  | [], _ => rfl
  | x :: xs, h => by
    have e : isort lt xs = isort lt' xs := isort_congr fun a ha b hb => h a (List.mem_cons_of_mem _ ha) b (List.mem_cons_of_mem _ hb)
    show ins lt x (isort lt xs) = ins lt' x (isort lt' xs)
    rw [e]
    exact ins_congr fun y hy => h x (List.mem_cons_self ..) y (List.mem_cons_of_mem _ ((isort_perm lt' xs).mem_iff.mp hy))
/-- two orders of the same things by a line are one -/
theorem sorted_uniq {P : D → Prop} {lt : D → D → Bool} (tri : ∀ a b, P a → P b → lt a b = false → lt b a = false → a = b) : ∀ {xs ys : List D}, xs.Perm ys → (∀ x ∈ xs, P x) → xs.Pairwise (fun a b => lt b a = false) → ys.Pairwise (fun a b => lt b a = false) → xs = ys
  | [], ys, p, _, _, _ => (List.nil_perm.mp p).symm
  | x :: xs, [], p, _, _, _ => by simpa using p.length_eq
  | x :: xs, y :: ys, p, hp, h1, h2 => by
    obtain ⟨a1, a2⟩ := List.pairwise_cons.mp h1
    obtain ⟨b1, b2⟩ := List.pairwise_cons.mp h2
    have e : x = y := by
      rcases List.mem_cons.mp (p.mem_iff.mp (List.mem_cons_self ..) : x ∈ y :: ys) with e | m
      · exact e
      · rcases List.mem_cons.mp (p.mem_iff.mpr (List.mem_cons_self ..) : y ∈ x :: xs) with e | m'
        · exact e.symm
        · exact tri x y (hp x (List.mem_cons_self ..)) (hp y (List.mem_cons_of_mem _ m')) (b1 x m) (a1 y m')
    subst e
    rw [sorted_uniq tri (List.Perm.cons_inv p) (fun z hz => hp z (List.mem_cons_of_mem _ hz)) a2 b2]

/-! ### the sort's own tests -/
theorem okN_up : ∀ (n : Nat) (d : D), D.okN n d = true → D.okN (n + 1) d = true
  | 0, _, h => by cases h
  | n + 1, d, h => by
    have al : ∀ xs : List D, xs.all (D.okN n) = true → xs.all (D.okN (n + 1)) = true := fun xs hx => List.all_eq_true.mpr fun x m => okN_up n x (List.all_eq_true.mp hx x m)
    cases d <;> first | (cases h; done) | exact h | exact al _ h
mutual
def dp : PyData → D
  | .int i => .int i
  | .str x => .str x
  | .tuple xs => .tup (dps xs)
  | .none => .non
  | .bool b => .bl b
  | .list xs => .lst (dps xs)
  | .dict _ => .non
def dps : List PyData → List D
  | [] => []
  | x :: xs => dp x :: dps xs
end
theorem dp_pd : ∀ (n : Nat) (d : D), D.sk n d = true → dp (pd d) = d
  | 0, _, h => by cases h
  | n + 1, d, h => by
    cases d <;> first | (cases h; done) | (simp [pd, dp]; done) | skip
    rename_i xs
    replace h : xs.all (D.sk n) = true := h
    have e : dps (pds xs) = xs := by
      induction xs with
      | nil => simp [pds, dps]
      | cons a xs ih =>
        rw [List.all_cons, Bool.and_eq_true] at h
        simp only [pds, dps, dp_pd n a h.1, ih h.2]
    simp only [pd, dp, e]
/-- the line, those that are none of it ahead -/
def tl' (x y : D) : Bool := if D.sk 20 x then (if D.sk 20 y then D.tl x y else false) else D.sk 20 y
theorem tl'_eq {x y : D} (hx : D.sk 20 x = true) (hy : D.sk 20 y = true) : tl' x y = D.tl x y := by
  unfold tl'
  rw [if_pos hx, if_pos hy]
theorem tl'_swo : (∀ x y, tl' x y = true → tl' y x = false) ∧ ∀ x y z, tl' y x = false → tl' z y = false → tl' z x = false := by
  obtain ⟨irr, tra, tri⟩ := tl_line 20
  have asy : ∀ x y, D.sk 20 x = true → D.sk 20 y = true → D.tl x y = true → D.tl y x = false := fun x y hx hy h => by
    cases q : D.tl y x with
    | false => rfl
    | true =>
      have := tra x y x hx hy hx h q
      rw [irr x hx] at this; cases this
  refine ⟨fun x y h => ?_, fun x y z h1 h2 => ?_⟩
  · unfold tl' at h ⊢
    cases hx : D.sk 20 x <;> cases hy : D.sk 20 y <;> simp only [hx, hy, if_true, if_false, Bool.false_eq_true] at h ⊢
    exact asy x y hx hy h
  · unfold tl' at h1 h2 ⊢
    cases hx : D.sk 20 x <;> cases hy : D.sk 20 y <;> cases hz : D.sk 20 z <;> simp only [hx, hy, hz, if_true, if_false, Bool.false_eq_true, Bool.true_eq_false, reduceCtorEq] at h1 h2 ⊢
    cases q : D.tl z x with
    | false => rfl
    | true =>
      cases e : D.tl y z with
      | true =>
        have := tra y z x hy hz hx e q
        rw [h1] at this; cases this
      | false =>
        have := tri z y hz hy h2 e
        subst this
        rw [h1] at q; cases q
theorem perm_lift {B : Wd} {g : G} : ∀ {us out : List Value}, us.Perm out → ∀ {vs : List V} {ds : List D}, Vals vs us → RepL B g ds vs → ∃ vs' ds', Vals vs' out ∧ RepL B g ds' vs' ∧ ds.Perm ds' := by
  intro us out p
  induction p with
  | nil => intro vs ds h r; exact ⟨vs, ds, h, r, .refl _⟩
  | cons x _ ih =>
    intro vs ds h r
    cases h with
    | cons h1 h2 =>
      cases r with
      | cons r1 r2 =>
        obtain ⟨vs', ds', a, b, c⟩ := ih h2 r2
        exact ⟨_ :: vs', _ :: ds', .cons h1 a, .cons r1 b, c.cons _⟩
  | swap x y l =>
    intro vs ds h r
    cases h with
    | cons h1 h2 =>
      cases h2 with
      | cons h2 h3 =>
        cases r with
        | cons r1 r2 =>
          cases r2 with
          | cons r2 r3 => exact ⟨_, _, .cons h2 (.cons h1 h3), .cons r2 (.cons r1 r3), .swap ..⟩
  | trans _ _ ih1 ih2 =>
    intro vs ds h r
    obtain ⟨vs', ds', a, b, c⟩ := ih1 h r
    obtain ⟨vs2, ds2, a2, b2, c2⟩ := ih2 a b
    exact ⟨vs2, ds2, a2, b2, c.trans c2⟩
section
variable {prog : Program} {w : World} {A : Around} {E : Value → Shared → Prop} {s : Shared}
/-- collect, of a tuple -/
theorem collect_tu {l : Addr} {us : List Value} {Q : List Value → Shared → Prop} (T : IsTup s.heap l us.toArray) (zz : us.length ≤ sizeLine)
    (q : Q us { s with heap := (s.heap.push (seqObj "list" #[] 0)).update s.heap.objs.size (Obj.mapSeq (· ++ us.toArray)) }) : wpAny (model prog w) A (collect (.ref l)) Q E s := by
  obtain ⟨o, g, gc, k, gd⟩ := T
  have gl : (s.heap.push (seqObj "list" #[] 0)).get? l = some o := Heap.get?_push_of_some _ g
  have g0 : (s.heap.push (seqObj "list" #[] 0)).get? s.heap.objs.size = some (seqObj "list" #[] 0) := Heap.get?_push_size _ rfl
  have no : (#[] ++ us.toArray : Array Value) = us.toArray := by simp
  have se : ∀ (B : Around) (F : Value → Shared → Prop) (P : PySem.Fin → Shared → Prop), (P (.done (.ret (.ref s.heap.objs.size))) { s with heap := (s.heap.push (seqObj "list" #[] 0)).update s.heap.objs.size (Obj.mapSeq (· ++ us.toArray)) }) →
      wpAny (model prog w) B (Builtin.List.listExtendWith (.ref s.heap.objs.size) (.ref l) (.ref s.heap.objs.size)) P F { s with heap := s.heap.push (seqObj "list" #[] 0) } := by
    intro B F P p
    unfold Builtin.List.listExtendWith
    refine wpAny_bind (wpAny_typeOf (T := "tuple") ⟨o, gl, gc⟩ ?_)
    have yes : (Builtin.List.listSameRef (Value.ref s.heap.objs.size) (.ref l) || Value.type "tuple" == Value.type "list" || Value.type "tuple" == Value.type "tuple") = true := by
      have : (Value.type "tuple" == Value.type "tuple") = true := by rfl
      rw [this, Bool.or_true]
    rw [if_pos yes]
    refine wpAny_bind (PyProof.Rows.listItems_at gl gd (wpAny_bind (PyProof.Rows.listItems_at (xs := #[]) (n := 0) g0 rfl ?_)))
    rw [if_neg (by simp)]
    refine wpAny_bind (PyProof.Rows.listUpdate_at (xs := #[]) (n := 0) g0 rfl (wpAny_pure p) (Nat.zero_le _) ?_)
    show (#[] ++ us.toArray).size ≤ sizeLine + 1
    rw [no, List.size_toArray]
    exact Nat.le_succ_of_le zz
  unfold collect
  refine wpAny_bind (wpAny_runValue (codeAny_builtin entry_proto_collect' ?_))
  refine wpAny_bind (wpAny_newList (wpAny_pure ⟨Code.quiet_builtin _ (by decide +kernel), codeAny_builtin entry_list_iadd' (se _ _ _ ?_)⟩))
  refine wpAny_bind (wpAny_load (get?_update_seq g0 _) ?_)
  show wpAny _ _ (pure (#[] ++ us.toArray : Array Value).toList) Q E _
  rw [no]
  exact wpAny_pure q
/-- sorted, of a tuple: what is new stands where it does of a list -/
theorem sorted_tu {l : Addr} {us : List Value} {ltv : Value → Value → Bool} {Q : Value → Shared → Prop} (O : SrtO.Swo ltv) (T : IsTup s.heap l us.toArray) (zz : us.length ≤ sizeLine)
    (so : 2 ≤ us.length → ∀ (k : Heap) (a : Addr), k.get? a = some (seqObj "list" us.toArray 0) → (∀ b o, s.heap.get? b = some o → b ≠ a ∧ k.get? b = some o) → SrtO.SortableO prog w A.in1.in1 { s with heap := k } a us ltv)
    (q : ∀ out : List Value, SrtO.Srtd ltv out → SrtO.Stb ltv out us → Q (.ref (s.heap.objs.size + 1)) { s with heap := sortedAll s.heap us out.toArray }) : wpAny (model prog w) A (call (.builtin "sorted") [.ref l]) Q E s := by
  refine PySem.Calls.call_function_entry kind_sorted plain_sorted entry_sorted (args_sorted1 _) ?_
  unfold Builtin.«sorted»
  refine wpAny_bind (m := PySem.checkCount "sorted" 1 1 _) (wpAny_pure (wpAny_bind (collect_tu T zz (wpAny_bind (wpAny_newList ?_ zz)))))
  let g1 : Heap := (s.heap.push (seqObj "list" #[] 0)).update s.heap.objs.size (Obj.mapSeq (· ++ us.toArray))
  have sz : g1.objs.size = s.heap.objs.size + 1 := (Heap.size_update ..).trans (size_push' ..)
  have here : (g1.push (seqObj "list" us.toArray 0)).get? (s.heap.objs.size + 1) = some (seqObj "list" us.toArray 0) := sz ▸ Heap.get?_push_size _ rfl
  have old : ∀ b o, s.heap.get? b = some o → b ≠ s.heap.objs.size + 1 ∧ (g1.push (seqObj "list" us.toArray 0)).get? b = some o := fun b o e => by
    have lt : b < s.heap.objs.size := Heap.lt_size e
    refine ⟨Nat.ne_of_lt (Nat.lt_succ_of_lt lt), Heap.get?_push_of_some _ ((Heap.get?_update_ne _ _ _ _ (Nat.ne_of_lt lt)).trans (Heap.get?_push_of_some _ e))⟩
  show wpAny _ _ (do let _ ← holding [Value.ref g1.objs.size] (call (.builtin "list.sort") [Value.ref g1.objs.size] []); PySem.ret (Value.ref g1.objs.size)) _ _ { s with heap := g1.push (seqObj "list" us.toArray 0) }
  rw [sz]
  refine wpAny_bind (wpAny_holding (wpAny_call_entry slot_list_sort ⟨_, here, rfl⟩ entry_list_sort (SrtO.list_sort_ord O here zz (fun two => so two _ _ here old) fun out a b => ⟨_, rfl, wpAny_pure ⟨_, rfl, q out a b⟩⟩) (args_list_sort _)))
end
section
variable {X : Cx} {g : G} {st : Stt} {H : Hp} {Q : VK}
/-- one test of two keys, by either road -/
theorem oneLt_D {pins : List (Addr × Obj)} {s : Shared} {σ : L2.St} (I : Inv X pins σ H s) (S : StOk X.wd g st H) {A : Around} (hu : A.units + 50 < cLine) {d e : D} {x y : V} {v u : Value} (od : okD d = true) (oe : okD e = true)
    (hx : Rep X.wd g d x) (hy : Rep X.wd g e y) (rx : RelV x v) (ry : RelV y u) (l : D.like d e = true) (flag : Bool) {E : Value → Shared → Prop} {R : Bool → Shared → Prop} (h : R (D.ltB d e) s) : wpAny (model X.prog X.w) A (oneLt' flag v u) R E s := by
  cases flag with
  | false =>
    refine PySem.W.kat_one v u ?_
    exact rc_lt I S 20 A d e x y v u (by omega) od oe (.inl hx) (.inl hy) rx ry l X.prog X.w E _ h
  | true =>
    cases d <;> cases e <;> first | (cases l; done) | skip
    · cases hx; cases hy
      obtain ⟨t, rfl⟩ := rx
      obtain ⟨t', rfl⟩ := ry
      exact oneLt_int h
    · cases hx; cases hy
      obtain ⟨t, rfl⟩ := rx
      obtain ⟨t', rfl⟩ := ry
      exact oneLt_str h
    · rename_i xs ys
      cases hx with
      | tup q1 r1 =>
        cases hy with
        | tup q2 r2 =>
          cases rx; cases ry
          obtain ⟨its, v1, t1, _⟩ := I.tuple (SqT.sub S q1)
          obtain ⟨its2, v2, t2, _⟩ := I.tuple (SqT.sub S q2)
          obtain ⟨e, r, he, hr, hl⟩ := tup_parts I S (rc_lt I S 19) (A := A.in1) (by show A.units + 1 + 2 * 19 < cLine; omega) (show xs.all (D.okN 19) = true from od) (show ys.all (D.okN 19) = true from oe) (show likeAll xs ys = true from l) r1 r2 v1 v2
          obtain ⟨⟨cls, dd, data, sl⟩, ho, hc, n, hd⟩ := id t1
          obtain ⟨⟨cls2, dd2, data2, sl2⟩, ho2, hc2, n2, hd2⟩ := id t2
          simp only at hc hd hc2 hd2
          subst hc hd hc2 hd2
          rw [oneLt'_eq]
          simp only [if_true]
          refine wpAny_bind (wpAny_cRoomFor (by omega) ?_)
          refine wpAny_bind (wpAny_callSpecialIfBound?_slot t1.typeIs F.slot_tuple_lt (call_meets F.slot_tuple_lt ⟨_, ho, rfl⟩ F.entry_tuple_lt (F.args_tuple_lt_2 _ _) (Ob.tuple_ltAt _ _ _ _ n n2 dd dd2 sl sl2 e r) ⟨ho, ho2, he, hr, ?_⟩))
          rw [hl]
          exact wpAny_truthy_bool h
/-- and as tuples, place by place -/
theorem keyLt_tups {pins : List (Addr × Obj)} {s : Shared} {σ : L2.St} (I : Inv X pins σ H s) (S : StOk X.wd g st H) {A : Around} (hu : A.units + 50 < cLine) (b : Bool) {xs ys : List D} {x y : V} {v u : Value} (od : okD (.tup xs) = true) (oe : okD (.tup ys) = true)
    (hx : Rep X.wd g (.tup xs) x) (hy : Rep X.wd g (.tup ys) y) (rx : RelV x v) (ry : RelV y u) (l : likeAll xs ys = true) {E : Value → Shared → Prop} {R : Bool → Shared → Prop} (h : R (ltAll xs ys) s) : wpAny (model X.prog X.w) A (keyLt' (tuples' b) v u) R E s := by
  cases hx with
  | @tup a1 vs _ q1 r1 =>
    cases hy with
    | @tup a2 ws _ q2 r2 =>
      cases rx; cases ry
      obtain ⟨its, v1, t1, z1⟩ := I.tuple (SqT.sub S q1)
      obtain ⟨its2, v2, t2, z2⟩ := I.tuple (SqT.sub S q2)
      obtain ⟨o1, ho, _, n, hd⟩ := id t1
      obtain ⟨o2, ho2, _, n2, hd2⟩ := id t2
      replace od : xs.all (D.okN 19) = true := od
      replace oe : ys.all (D.okN 19) = true := oe
      refine PySem.W.kat_lt ho hd ho2 hd2 ?_
      have e1 : its.toArray.size = xs.length := by rw [List.size_toArray, ← v1.length, r1.length]
      have e2 : its2.toArray.size = ys.length := by rw [List.size_toArray, ← v2.length, r2.length]
      rw [e1, e2]
      show PySem.W.KatLex X.prog X.w A b _ R (its.zip its2) 0 s
      clear ho hd ho2 hd2 t1 t2 e1 e2 q1 q2 z1 z2
      generalize hi : (0 : Nat) = i
      clear hi
      induction xs generalizing ys i its its2 vs ws with
      | nil =>
        cases r1
        cases v1
        cases r2 with
        | nil =>
          cases v2
          exact PySem.W.kat_nil h
        | cons r t =>
          cases v2
          exact PySem.W.kat_nil h
      | cons a xs ih =>
        cases r1 with
        | cons ra r1 =>
          cases v1 with
          | cons va v1 =>
            cases r2 with
            | nil =>
              cases v2
              exact PySem.W.kat_nil h
            | @cons b' w' ys ws rb r2 =>
              cases v2 with
              | cons vb v2 =>
                rw [List.all_cons, Bool.and_eq_true] at od oe
                obtain ⟨l1, l2⟩ := bool_eq (show (D.like a _ && likeAll xs _) = true from l)
                obtain ⟨as1, re1⟩ := Dp.reads I (pd a) _ _ (Rep.dp S 19 od.1 ra) va
                obtain ⟨as2, re2⟩ := Dp.reads I (pd b') _ _ (Rep.dp S 19 oe.1 rb) vb
                obtain ⟨k1, k2⟩ := okN_lay 19 a od.1
                obtain ⟨k3, k4⟩ := okN_lay 19 b' oe.1
                have h : R (if D.eqv a b' then ltAll xs _ else D.ltB a b') s := h
                refine PySem.W.kat_cons (SeqAt.eqAt_reads (pd a) (pd b') A s _ _ as1 as2 re1 re2 k1 k3 (by
                  have : min (pd a).depth (pd b').depth ≤ (pd a).depth := Nat.min_le_left _ _
                  omega) X.prog X.w _ _ ?_)
                rw [eqv_pd 19 a b' od.1 oe.1]
                refine PySem.W.kat_go (fun e => ?_) fun e => ?_
                · rw [if_pos e] at h
                  exact PySem.W.kat_yes (by simpa [List.zip] using ih l2 h r1 r2 _ v1 _ v2 od.2 oe.2 (i + 1))
                · rw [if_neg (by rw [e]; exact Bool.false_ne_true)] at h
                  exact PySem.W.kat_no (oneLt_D I S hu (okN_up 19 _ od.1) (okN_up 19 _ oe.1) ra rb va vb l1 _ h)

/-- the kind of a tracked or known value is looked up and nothing else is done -/
theorem typ_of {pins : List (Addr × Obj)} {s : Shared} {σ : L2.St} (I : Inv X pins σ H s) (S : StOk X.wd g st H) {n : Nat} {d : D} {x : V} {v : Value} (sk : D.sk n d = true) (hx : Rep X.wd g d x) (rx : RelV x v) {M : Model} :
    ∃ T : String, PySem.W.Looks M s.heap (typeOf v) (.type T) ∧ (T = "tuple" ↔ ∃ xs, d = .tup xs) := by
  cases n with
  | zero => cases sk
  | succ n =>
    cases d <;> first | (cases sk; done) | skip
    · cases hx
      obtain ⟨t, rfl⟩ := rx
      exact ⟨"int", PySem.W.Looks.now, ⟨fun e => absurd e (by decide), fun ⟨_, e⟩ => by cases e⟩⟩
    · cases hx
      obtain ⟨t, rfl⟩ := rx
      exact ⟨"str", PySem.W.Looks.now, ⟨fun e => absurd e (by decide), fun ⟨_, e⟩ => by cases e⟩⟩
    · cases hx with
      | tup q r =>
        cases rx
        obtain ⟨its, v1, ⟨o, ho, hc, n, hd⟩, z1⟩ := I.tuple (SqT.sub S q)
        exact ⟨"tuple", by rw [← hc]; exact (PySem.W.Looks.ld ho).andThen .now, ⟨fun _ => ⟨_, rfl⟩, fun _ => rfl⟩⟩
theorem mapM_fun {α β : Type} {M : Model} {A : Around} {E : Value → Shared → Prop} {s : Shared} {f : α → Sem β} {bf : α → β} : ∀ (l : List α) {R : List β → Shared → Prop}, (∀ v ∈ l, ∀ R' : β → Shared → Prop, R' (bf v) s → wpAny M A (f v) R' E s) →
    R (l.map bf) s → wpAny M A (l.mapM f) R E s
  | [], R, _, h => by
    rw [List.mapM_nil]
    exact wpAny_pure h
  | x :: l, R, hf, h => by
    rw [List.mapM_cons]
    refine wpAny_bind (hf x (.head _) _ (wpAny_bind (mapM_fun l (fun v m => hf v (.tail _ m)) (wpAny_pure h))))
theorem oneType_fun {M : Model} {A : Around} {s : Shared} {vs : List Value} (ht : ∀ v ∈ vs, ∃ T : Value, PySem.W.Looks M s.heap (typeOf v) T) :
    ∃ o : Option Value, ∀ {E : Value → Shared → Prop} {R : Option Value → Shared → Prop}, R o s → wpAny M A (oneTypeOnly' vs.toArray) R E s := by
  have h1 : ∀ v : Value, ∃ T : Value, v ∈ vs → PySem.W.Looks M s.heap (typeOf v) T := fun v => by
    by_cases m : v ∈ vs
    · obtain ⟨T, hT⟩ := ht v m
      exact ⟨T, fun _ => hT⟩
    · exact ⟨.none, fun q => absurd q m⟩
  obtain ⟨bf, hb⟩ := Classical.axiomOfChoice h1
  refine ⟨match (vs.map bf).toArray[0]? with
    | some t => if (vs.map bf).toArray.all (· == t) then some t else none
    | none => none, fun {E R} h => ?_⟩
  rw [oneTypeOnly'_eq, List.mapM_toArray, map_eq_pure_bind]
  refine wpAny_bind (wpAny_bind (mapM_fun (bf := bf) vs (fun v m R' q => (hb v m).here q) (wpAny_pure ?_)))
  cases e : (vs.map bf).toArray[0]? with
  | none =>
    rw [e] at h
    exact wpAny_pure h
  | some t =>
    rw [e] at h
    exact wpAny_pure h
/-- the sort's kind: whatever it is, it is told, and tuples alone are sorted as tuples -/
theorem kind_D {pins : List (Addr × Obj)} {s : Shared} {σ : L2.St} (I : Inv X pins σ H s) (S : StOk X.wd g st H) {ds : List D} {vs : List V} {us : List Value} (sk : ∀ d ∈ ds, D.sk 20 d = true) (r : RepL X.wd g ds vs) (v : Vals vs us) (A : Around) :
    ∃ κ, (κ = oneType' ∨ κ = general' ∨ (∃ b, κ = tuples' b) ∧ ∀ d ∈ ds, ∃ xs, d = .tup xs) ∧ ∀ (R : SortKind → Shared → Prop) (E : Value → Shared → Prop), R κ s → wpAny (model X.prog X.w) A (keyKind' us.toArray) R E s := by
  have at_ : ∀ u ∈ us, ∃ d x, d ∈ ds ∧ Rep X.wd g d x ∧ RelV x u := fun u m => by
    obtain ⟨i, hi, e⟩ := List.getElem_of_mem m
    have h1 : i < vs.length := by rw [v.length]; exact hi
    obtain ⟨d, e1, rd⟩ := r.getV (List.getElem?_eq_getElem h1)
    obtain ⟨u', e2, ru⟩ := v.get (List.getElem?_eq_getElem h1)
    rw [List.getElem?_eq_getElem hi, e] at e2
    cases e2
    exact ⟨d, _, List.mem_of_getElem? e1, rd, ru⟩
  have h1 : ∀ u : Value, ∃ o : Option Value, u ∈ us → (∀ (R' : Option Value → Shared → Prop) (E : Value → Shared → Prop), R' o s → wpAny (model X.prog X.w) A (firstOfTuple' u) R' E s) ∧ (∀ f, o = some f → ∃ T : Value, PySem.W.Looks (model X.prog X.w) s.heap (typeOf f) T) ∧
      (o.isSome = true → ∀ d x, Rep X.wd g d x → RelV x u → D.sk 20 d = true → ∃ xs, d = .tup xs) := fun u => by
    by_cases m : u ∈ us
    · obtain ⟨d, x, md, rd, ru⟩ := at_ u m
      have skd := sk d md
      obtain ⟨T, hT, hi⟩ := typ_of I S skd rd ru (M := model X.prog X.w)
      cases d <;> first | (cases skd; done) | skip
      · refine ⟨none, fun _ => ⟨fun R' E q => ?_, fun f e => (by cases e), fun e => (by cases e)⟩⟩
        rw [PySem.W.kas_first_eq]
        refine wpAny_bind (hT.here ?_)
        rw [if_pos (by rw [bne_iff_ne]; intro z; cases z; exact absurd (hi.mp rfl) (fun ⟨_, z⟩ => by cases z))]
        exact wpAny_pure q
      · refine ⟨none, fun _ => ⟨fun R' E q => ?_, fun f e => (by cases e), fun e => (by cases e)⟩⟩
        rw [PySem.W.kas_first_eq]
        refine wpAny_bind (hT.here ?_)
        rw [if_pos (by rw [bne_iff_ne]; intro z; cases z; exact absurd (hi.mp rfl) (fun ⟨_, z⟩ => by cases z))]
        exact wpAny_pure q
      · rename_i xs
        cases rd with
        | tup q1 r1 =>
          cases ru
          obtain ⟨its, v1, ⟨o, ho, hc, n, hd⟩, z1⟩ := I.tuple (SqT.sub S q1)
          have eT : T = "tuple" := hi.mpr ⟨_, rfl⟩
          subst eT
          refine ⟨its.toArray[0]?, fun _ => ⟨fun R' E q => ?_, fun f e => ?_, fun _ d x rd ru skd2 => ?_⟩⟩
          · rw [PySem.W.kas_first_eq]
            refine wpAny_bind (hT.here ?_)
            rw [if_neg (by simp)]
            exact wpAny_bind (listItems_at ho hd (wpAny_pure q))
          · cases xs with
            | nil => cases r1; cases v1; cases e
            | cons a xs =>
              cases r1 with
              | cons ra r1 =>
                cases v1 with
                | cons va v1 =>
                  cases e
                  have ska : D.sk 19 a = true := (Bool.and_eq_true_iff.mp (show (D.sk 19 a && xs.all (D.sk 19)) = true from skd)).1
                  obtain ⟨T, hT, _⟩ := typ_of I S ska ra va (M := model X.prog X.w)
                  exact ⟨_, hT⟩
          · cases d <;> first | (cases skd2; done) | skip
            · cases rd; obtain ⟨t, e⟩ := ru; cases e
            · cases rd; obtain ⟨t, e⟩ := ru; cases e
            · exact ⟨_, rfl⟩
    · exact ⟨none, fun q => absurd q m⟩
  obtain ⟨bf, hb⟩ := Classical.axiomOfChoice h1
  have ty : ∀ u ∈ us, ∃ T : Value, PySem.W.Looks (model X.prog X.w) s.heap (typeOf u) T := fun u m => by
    obtain ⟨d, x, md, rd, ru⟩ := at_ u m
    obtain ⟨T, hT, _⟩ := typ_of I S (sk d md) rd ru (M := model X.prog X.w)
    exact ⟨_, hT⟩
  have start : ∀ {R : List (Option Value) → Shared → Prop} {E : Value → Shared → Prop}, R (us.map bf) s → wpAny (model X.prog X.w) A (us.mapM firstOfTuple') R E s := fun h => mapM_fun (bf := bf) us (fun u m R' q => (hb u m).1 R' _ q) h
  by_cases all : ((us.map bf).toArray.all fun x => x.isSome) = true
  · have all2 : ∀ u ∈ us, (bf u).isSome = true := by simpa using all
    have tf : ∀ f ∈ (us.map bf).filterMap id, ∃ T : Value, PySem.W.Looks (model X.prog X.w) s.heap (typeOf f) T := fun f m => by
      obtain ⟨o, m1, m2⟩ := List.mem_filterMap.mp m
      obtain ⟨u, m3, m4⟩ := List.mem_map.mp m1
      exact (hb u m3).2.1 f (by rw [m4]; exact m2)
    obtain ⟨o, ho⟩ := oneType_fun (A := A) tf
    refine ⟨tuples' (o.any (· != .type "tuple")), .inr (.inr ⟨⟨_, rfl⟩, fun d m => ?_⟩), fun R E h => ?_⟩
    · obtain ⟨i, hi, e⟩ := List.getElem_of_mem m
      have h1 : i < vs.length := by rw [← r.length]; exact hi
      obtain ⟨d', e1, rd⟩ := r.getV (List.getElem?_eq_getElem h1)
      obtain ⟨u, e2, ru⟩ := v.get (List.getElem?_eq_getElem h1)
      rw [List.getElem?_eq_getElem hi, e] at e1
      cases e1
      have mu := List.mem_of_getElem? e2
      exact (hb u mu).2.2 (all2 u mu) d _ rd ru (sk d m)
    · rw [keyKind'_eq, List.mapM_toArray, map_eq_pure_bind]
      refine wpAny_bind (wpAny_bind (start (wpAny_pure ?_)))
      rw [if_pos all]
      refine wpAny_bind (wpAny_rule ?_)
      rw [show ((us.map bf).toArray.filterMap id) = ((us.map bf).filterMap id).toArray by simp]
      exact wpAny_bind (ho (wpAny_pure h))
  · by_cases fst : ((us.map bf).toArray[0]?.bind id).isSome = true
    · refine ⟨general', .inr (.inl rfl), fun R E h => ?_⟩
      rw [keyKind'_eq, List.mapM_toArray, map_eq_pure_bind]
      refine wpAny_bind (wpAny_bind (start (wpAny_pure ?_)))
      rw [if_neg all, if_pos fst]
      exact wpAny_pure h
    · obtain ⟨o, ho⟩ := oneType_fun (A := A) ty
      refine ⟨if o.isSome then oneType' else general', by cases o <;> simp, fun R E h => ?_⟩
      rw [keyKind'_eq, List.mapM_toArray, map_eq_pure_bind]
      refine wpAny_bind (wpAny_bind (start (wpAny_pure ?_)))
      rw [if_neg all, if_neg fst]
      exact wpAny_bind (ho (wpAny_pure h))
/-- sorted(a list, or a tuple) -/
theorem sorted_D (hu : X.A.units + 60 < cLine) {pins : List (Addr × Obj)} {s : Shared} {σ : L2.St} (I : Inv X pins σ H s) (S : StOk X.wd g st H) {a : Addr} {ds : List D} {vs : List V} (hl : SqL X.K H a vs ∨ SqT X.K H a vs) (r : RepL X.wd g ds vs)
    (ok : ds.all okD = true) (lk : (ds.all fun x => ds.all fun y => D.like x y) = true) (q : Dn X g H st (.lst (isort D.ltB ds)) Q) : wpAny (model X.prog X.w) X.A (call (.builtin "sorted") [.ref a]) (EP X pins σ Q) X.xe s := by
  have okd : ∀ d ∈ ds, okD d = true := fun d m => List.all_eq_true.mp ok d m
  have lik : ∀ d ∈ ds, ∀ e ∈ ds, D.like d e = true := fun d m e m' => List.all_eq_true.mp (List.all_eq_true.mp lk d m) e m'
  have sk : ∀ d ∈ ds, D.sk 20 d = true := fun d m => sk_of 20 d (okd d m) (lik d m d m)
  obtain ⟨its, rv, pl, hz⟩ : ∃ its : List Value, Vals vs its ∧ (s.heap.IsList a its.toArray ∨ IsTup s.heap a its.toArray) ∧ vs.length ≤ sizeLine := by
    rcases hl with hl | hl
    · obtain ⟨its, rv, pl, hz⟩ := I.list hl
      exact ⟨its, rv, .inl pl.isList, hz⟩
    · obtain ⟨its, rv, pl, hz⟩ := I.tuple hl
      exact ⟨its, rv, .inr pl, hz⟩
  let K : Value → D := fun u => dp (SeqAt.readOf s.heap u)
  have kd : ∀ {d : D} {x : V} {u : Value}, d ∈ ds → Rep X.wd g d x → RelV x u → K u = d := fun {d x u} m rd ru => by
    obtain ⟨as, re⟩ := Dp.reads I (pd d) x u (Rep.dp S 20 (okd d m) rd) ru
    show dp (SeqAt.readOf s.heap u) = d
    rw [SeqAt.readOf_eq (okN_lay 20 d (okd d m)).1 re]
    exact dp_pd 20 d (sk d m)
  obtain ⟨sw1, sw2⟩ := tl'_swo
  have at_ : ∀ u ∈ its, ∃ d x, d ∈ ds ∧ Rep X.wd g d x ∧ RelV x u := fun u m => by
    obtain ⟨i, hi, e⟩ := List.getElem_of_mem m
    have h1 : i < vs.length := by rw [rv.length]; exact hi
    obtain ⟨d, e1, rd⟩ := r.getV (List.getElem?_eq_getElem h1)
    obtain ⟨u', e2, ru⟩ := rv.get (List.getElem?_eq_getElem h1)
    rw [List.getElem?_eq_getElem hi, e] at e2
    cases e2
    exact ⟨d, _, List.mem_of_getElem? e1, rd, ru⟩
  have O : SrtO.Swo fun v u : Value => tl' (K v) (K u) := ⟨fun x y => sw1 _ _, fun x y z => sw2 _ _ _⟩
  have go : ∀ (so : 2 ≤ its.length → ∀ (k : Heap) (a : Addr), k.get? a = some (seqObj "list" its.toArray 0) → (∀ b o, s.heap.get? b = some o → b ≠ a ∧ k.get? b = some o) → SrtO.SortableO X.prog X.w X.A.in1.in1 { s with heap := k } a its fun v u : Value => tl' (K v) (K u))
      (q : ∀ out : List Value, SrtO.Srtd (fun v u : Value => tl' (K v) (K u)) out → SrtO.Stb (fun v u : Value => tl' (K v) (K u)) out its → EP X pins σ Q (.ref (s.heap.objs.size + 1)) { s with heap := PyProof.Rows.sortedAll s.heap its out.toArray }),
      wpAny (model X.prog X.w) X.A (call (.builtin "sorted") [.ref a]) (EP X pins σ Q) X.xe s := fun so q => by
    rcases pl with pl | pl
    · exact SrtO.sorted_ord O pl (by rw [← rv.length]; exact hz) so q
    · exact sorted_tu O pl (by rw [← rv.length]; exact hz) so q
  refine go (fun h2 h₁ a' ha kk => ?_) fun out h1 h2 => ?_
  · intro h' keep
    have all : ∀ b o, s.heap.get? b = some o → h'.get? b = some o := fun b o e => keep b o (kk b o e).1 (kk b o e).2
    have I' : Inv X pins σ H { s with heap := h' } := I.kept (t' := s.toks) all
    obtain ⟨κ, hκ, run⟩ := kind_D I' S sk r rv X.A.in1.in1
    refine ⟨κ, run, fun p p' hp hp' => ?_⟩
    obtain ⟨d, x, md, rd, ru⟩ := at_ _ hp
    obtain ⟨d', x', md', rd', ru'⟩ := at_ _ hp'
    have e : tl' (K p.1) (K p'.1) = D.ltB d d' := by
      rw [kd md rd ru, kd md' rd' ru', tl'_eq (sk d md) (sk d' md'), ltB_tl 20 d d' (sk d md) (sk d' md') (lik d md d' md')]
    have hu2 : X.A.in1.in1.units + 50 < cLine := by show X.A.units + 1 + 1 + 50 < cLine; omega
    show wpAny (model X.prog X.w) X.A.in1.in1 (keyLt' κ p.1 p'.1) (fun r s' => s' = { s with heap := h' } ∧ r = tl' (K p.1) (K p'.1)) (fun _ _ => False) { s with heap := h' }
    rw [e]
    rcases hκ with rfl | rfl | ⟨⟨b, rfl⟩, ht⟩
    · exact oneLt_D I' S hu2 (okd d md) (okd d' md') rd rd' ru ru' (lik d md d' md') true ⟨rfl, rfl⟩
    · exact oneLt_D I' S hu2 (okd d md) (okd d' md') rd rd' ru ru' (lik d md d' md') false ⟨rfl, rfl⟩
    · obtain ⟨xs, rfl⟩ := ht d md
      obtain ⟨ys, rfl⟩ := ht d' md'
      exact keyLt_tups I' S hu2 b (okd _ md) (okd _ md') rd rd' ru ru' (lik _ md _ md') ⟨rfl, rfl⟩
  · obtain ⟨vs', ds', rv', r', pm⟩ := perm_lift h2.perm.symm rv r
    have eq : ds' = isort D.ltB ds := by
      obtain ⟨irr, tra, tri⟩ := tl_line 20
      have c1 : isort D.ltB ds = isort tl' ds := isort_congr fun x mx y my => by rw [tl'_eq (sk y my) (sk x mx), ltB_tl 20 y x (sk y my) (sk x mx) (lik y my x mx)]
      rw [c1]
      refine sorted_uniq (P := fun d => D.sk 20 d = true) (lt := tl') (fun a b pa pb e1 e2 => ?_) (pm.symm.trans (isort_perm tl' ds).symm) (fun d m => sk d (pm.mem_iff.mpr m)) ?_ (isort_sorted sw2 sw1 ds)
      · rw [tl'_eq pa pb] at e1
        rw [tl'_eq pb pa] at e2
        exact tri a b pa pb e1 e2
      · rw [List.pairwise_iff_getElem]
        intro i j hi hj hij
        have l1 := r'.length
        have l2 := rv'.length
        have hs := List.pairwise_iff_getElem.mp h1 i j (by omega) (by omega) hij
        have wh : ∀ k (hk : k < ds'.length) (hk2 : k < out.length), K out[k] = ds'[k] := fun k hk hk2 => by
          have hv : k < vs'.length := by omega
          obtain ⟨d, e1, rd⟩ := r'.getV (List.getElem?_eq_getElem hv)
          obtain ⟨u, e2, ru⟩ := rv'.get (List.getElem?_eq_getElem hv)
          rw [List.getElem?_eq_getElem hk] at e1
          rw [List.getElem?_eq_getElem hk2] at e2
          cases e1; cases e2
          exact kd (pm.mem_iff.mpr (List.getElem_mem hk)) rd ru
        have hs : tl' (K out[j]) (K out[i]) = false := hs
        rw [wh i hi (by omega), wh j hj (by omega)] at hs
        exact hs
    subst eq
    obtain ⟨ep, he'⟩ := PyProof.Rows.sortedAll_at s.heap its out.toArray
    have hlen : vs'.length ≤ sizeLine := by
      have l1 := r'.length
      have l2 := pm.length_eq
      have l3 := r.length
      omega
    refine ⟨.ref _, upd H (s.heap.objs.size + 1) (.lst vs'), I.laid (t' := s.toks) (fun _ _ => PyProof.Rows.sortedAll_old) (Nat.le_succ _) ⟨hlen, out, ep, rv', he'⟩, rfl, ?_⟩
    exact q.lst S r' (I.hok.fresh (Nat.le_succ _))
end
end PyD

/-! PyDF: comparisons, subscripts, slices, built-ins by values. -/
namespace PyD
open PySem PySem.Spec PyProof.Rows L2
section
variable {B : Wd} {g : G} {H : Hp} {st : Stt}
theorem keyD_eqv (a b : Key) : D.eqv (keyD a) (keyD b) = decide (a = b) := by
  cases a with
  | inl a => cases b with
    | inl b =>
      show (a == b) = decide ((Sum.inl a : Key) = Sum.inl b)
      rw [key_ll]
    | inr b => simp [keyD, D.eqv]
  | inr a => cases b with
    | inl b => simp [keyD, D.eqv]
    | inr b =>
      show (a == b) = decide ((Sum.inr a : Key) = Sum.inr b)
      rw [key_rr]
      exact Bool.eq_iff_iff.mpr (by rw [beq_iff_eq, decide_eq_true_iff])
theorem isKey_of {d : D} (h : isKey d = true) : ∃ k : Key, d = keyD k := by
  cases d <;> first | (cases h; done) | exact ⟨.inl _, rfl⟩ | exact ⟨.inr _, rfl⟩
theorem Vw.key {k : Key} {v : V} (r : Vw B g H (keyD k) v) : v = kV k := by
  cases k with
  | inl i => exact r.int
  | inr x => exact r.str
/-- a look into a table -/
theorem dget_val (k : Key) : ∀ {ds : List (D × D)} {kvs : List (Key × V)}, RepK B g ds kvs → (dget ds (keyD k) = none ∧ valV kvs k = none) ∨ ∃ d v, dget ds (keyD k) = some d ∧ valV kvs k = some v ∧ Rep B g d v
  | _, _, .nil => .inl ⟨rfl, rfl⟩
  | _, _, .cons (k := k') (d := d) (v := v) (ds := ds) (vs := vs) r t => by
    by_cases e : k' = k
    · refine .inr ⟨d, v, ?_, valV_pos e, r⟩
      show (if D.eqv (keyD k') (keyD k) then some d else dget ds (keyD k)) = some d
      rw [keyD_eqv, decide_eq_true e, if_pos rfl]
    · have q : dget ((keyD k', d) :: ds) (keyD k) = dget ds (keyD k) := by
        show (if D.eqv (keyD k') (keyD k) then some d else _) = _
        rw [keyD_eqv, decide_eq_false e, if_neg Bool.false_ne_true]
      rw [q, valV_neg (p := (k', v)) (r := vs) e]
      exact dget_val k t
theorem dput_putK (k : Key) {y : D} {w : V} (ry : Rep B g y w) {ds : List (D × D)} {kvs : List (Key × V)} (r : RepK B g ds kvs) : RepK B g (dput ds (keyD k) y) (putK kvs k w) := by
  have m : ∀ {ds : List (D × D)} {kvs : List (Key × V)}, RepK B g ds kvs → RepK B g (ds.map fun p => if D.eqv p.1 (keyD k) then (p.1, y) else p) (kvs.map fun p => if p.1 = k then (p.1, w) else p) := by
    intro ds
    induction ds with
    | nil => intro kvs r; cases r; exact .nil
    | cons p ds ih =>
      intro kvs r
      cases r with
      | @cons k' d v _ vs r t =>
        simp only [List.map_cons]
        by_cases e : k' = k
        · rw [if_pos (by rw [keyD_eqv]; exact decide_eq_true e), if_pos e]
          exact .cons ry (ih t)
        · rw [if_neg (by rw [keyD_eqv, decide_eq_false e]; exact Bool.false_ne_true), if_neg e]
          exact .cons r (ih t)
  have a : ∀ {ds : List (D × D)} {kvs : List (Key × V)}, RepK B g ds kvs → RepK B g (ds ++ [(keyD k, y)]) (kvs ++ [(k, w)]) := by
    intro ds
    induction ds with
    | nil => intro kvs r; cases r; exact .cons ry .nil
    | cons p ds ih =>
      intro kvs r
      cases r with
      | cons r t => exact .cons r (ih t)
  unfold dput putK
  rw [valV_any]
  rcases dget_val k r with ⟨h1, h2⟩ | ⟨d, v, h1, h2, _⟩
  · rw [h1, h2]
    exact a r
  · rw [h1, h2]
    exact m r
theorem RepK.length : ∀ {ds : List (D × D)} {kvs : List (Key × V)}, RepK B g ds kvs → ds.length = kvs.length
  | _, _, .nil => rfl
  | _, _, .cons _ t => congrArg Nat.succ (RepK.length t)
end
section
variable {X : Cx} {g : G} {st : Stt} {H : Hp} {Q : VK}
def COp.op : COp → CmpOp
  | .eq => .Eq | .ne => .NotEq | .lt => .Lt | .le => .LtE | .gt => .Gt | .ge => .GtE | .is => .Is | .isn => .IsNot | .in_ => .In | .nin => .NotIn
theorem isNon_eq {d : D} {x : V} (hx : Vw X.wd g H d x) : decide (x = .non) = isNon d := by
  rcases hx with h | ⟨a, rfl, h⟩
  · cases h <;> first | rfl | (exact decide_eq_false (by intro z; cases z))
  · cases d <;> first | exact h.elim | exact decide_eq_false (by intro z; cases z)
theorem is_D (neg : Bool) {pins : List (Addr × Obj)} {s : Shared} {σ : L2.St} {x y : V} {v u : Value} {d e : D} {b : Bool} (I : Inv X pins σ H s) (rx : RelV x v) (ry : RelV y u)
    (hx : Vw X.wd g H d x) (hy : Vw X.wd g H e y) (hz : isF d e = some b) (q : Q (.bl (if neg then !b else b)) H) : wpAny (model X.prog X.w) X.A (compareOp (if neg then .IsNot else .Is) v u) (EP X pins σ Q) X.xe s := by
  cases e <;> first | (cases hz; done) | skip
  · have e2 : some (isNon d) = some b := hz
    cases e2
    have ey := hy.non
    cases neg with
    | false => exact op_isN pins s σ H x y v u Q I rx ry ⟨ey, by rw [isNon_eq hx]; exact q⟩
    | true => exact op_notN pins s σ H x y v u Q I rx ry ⟨ey, by rw [isNon_eq hx]; exact q⟩
  · rename_i c
    cases d <;> first | (cases hz; done) | skip
    case bl a =>
      cases hz
      have ex := hx.bl
      have ey := hy.bl
      have dc : decide (a = c) = (c == a) := by cases a <;> cases c <;> rfl
      cases neg with
      | false => exact op_is_bl pins s σ H x y v u Q I rx ry ⟨a, c, ex, ey, by rw [dc]; exact q⟩
      | true => exact op_isnot_bl pins s σ H x y v u Q I rx ry ⟨a, c, ex, ey, by rw [dc]; exact q⟩
theorem in_D (hu : X.A.units + 70 < cLine) (neg : Bool) {pins : List (Addr × Obj)} {s : Shared} {σ : L2.St} {x y : V} {v u : Value} {d e : D} {b : Bool} (I : Inv X pins σ H s) (rx : RelV x v) (ry : RelV y u) (S : StOk X.wd g st H)
    (hx : Vw X.wd g H d x) (hy : Vw X.wd g H e y) (hz : inF d e = some b) (q : Q (.bl (if neg then !b else b)) H) : wpAny (model X.prog X.w) X.A (compareOp (if neg then .NotIn else .In) v u) (EP X pins σ Q) X.xe s := by
  cases e <;> first | (cases hz; done) | skip
  · -- a text
    rename_i z
    cases d <;> first | (cases hz; done) | skip
    cases hz
    cases neg with
    | false => exact op_in_str pins s σ H x y v u Q I rx ry ⟨_, _, hx.str, hy.str, q⟩
    | true => exact op_notin_str pins s σ H x y v u Q I rx ry ⟨_, _, hx.str, hy.str, q⟩
  · rename_i ys
    have hz : (if okD d && ys.all okD then some (ys.any fun z => D.eqv z d) else none) = some b := hz
    split at hz
    · rename_i h
      cases hz
      obtain ⟨h1, h2⟩ := bool_eq h
      exact in_seq (by omega) neg (b := true) I rx ry S hx hy (.inr rfl) h1 h2 q
    · cases hz
  · rename_i ys
    have hz : (if okD d && ys.all okD then some (ys.any fun z => D.eqv z d) else none) = some b := hz
    split at hz
    · rename_i h
      cases hz
      obtain ⟨h1, h2⟩ := bool_eq h
      exact in_seq (by omega) neg (b := true) I rx ry S hx hy (.inl rfl) h1 h2 q
    · cases hz
  · rename_i kvs
    have hz : (if isKey d then some (dget kvs d).isSome else none) = some b := hz
    split at hz
    · rename_i h
      cases hz
      obtain ⟨k, rfl⟩ := isKey_of h
      obtain ⟨a, vs, rfl, ha, r⟩ := hy.dic S
      have ex := hx.key
      subst ex
      cases ry
      have e : (valV vs k).isSome = (dget kvs (keyD k)).isSome := by
        rcases dget_val k r with ⟨h1, h2⟩ | ⟨d, v, h1, h2, _⟩ <;> (rw [h1, h2]; rfl)
      rw [← e] at q
      cases neg with
      | false => exact d_in (by omega) I (DGet.k ha) rx fun s' I' => ⟨.bl _, H, I', rfl, q⟩
      | true => exact d_notIn (by omega) I (DGet.k ha) rx fun s' I' => ⟨.bl _, H, I', rfl, q⟩
    · cases hz
theorem op_cmp (hu : X.A.units + 70 < cLine) (o : COp) {pins : List (Addr × Obj)} {s : Shared} {σ : L2.St} {x y : V} {v u : Value} {d e : D} {b : Bool} (I : Inv X pins σ H s) (rx : RelV x v) (ry : RelV y u) (S : StOk X.wd g st H)
    (hx : Vw X.wd g H d x) (hy : Vw X.wd g H e y) (hz : cmpF o d e = some b) (q : Q (.bl b) H) : wpAny (model X.prog X.w) X.A (compareOp o.op v u) (EP X pins σ Q) X.xe s := by
  cases o with
  | eq =>
    have hz : (if okD d && okD e then some (D.eqv d e) else none) = some b := hz
    split at hz
    · rename_i h
      cases hz
      obtain ⟨h1, h2⟩ := bool_eq h
      exact op_eqq (by omega) I rx ry S hx hy h1 h2 q
    · cases hz
  | ne =>
    have hz : (if okD d && okD e then some (!D.eqv d e) else none) = some b := hz
    split at hz
    · rename_i h
      cases hz
      obtain ⟨h1, h2⟩ := bool_eq h
      exact op_neq (by omega) I rx ry S hx hy h1 h2 q
    · cases hz
  | lt =>
    have hz : (if okD d && okD e && D.like d e then some (D.ltB d e) else none) = some b := hz
    split at hz
    · rename_i h
      cases hz
      obtain ⟨h1, h2⟩ := bool_eq h
      obtain ⟨h1, h3⟩ := bool_eq h1
      exact rc_lt I S 20 X.A d e x y v u (by omega) h1 h3 hx hy rx ry h2 X.prog X.w X.xe _ ⟨.bl _, H, I, rfl, q⟩
    · cases hz
  | gt =>
    cases d <;> first | (cases hz; done) | skip
    cases e <;> first | (cases hz; done) | skip
    cases hz
    rw [hx.int] at rx; rw [hy.int] at ry
    exact op_gt pins s σ H _ _ v u Q I rx ry ⟨_, _, rfl, rfl, q⟩
  | le =>
    cases d <;> first | (cases hz; done) | skip
    cases e <;> first | (cases hz; done) | skip
    cases hz
    rw [hx.int] at rx; rw [hy.int] at ry
    exact op_le pins s σ H _ _ v u Q I rx ry ⟨_, _, rfl, rfl, q⟩
  | ge =>
    cases d <;> first | (cases hz; done) | skip
    cases e <;> first | (cases hz; done) | skip
    cases hz
    rw [hx.int] at rx; rw [hy.int] at ry
    exact op_ge pins s σ H _ _ v u Q I rx ry ⟨_, _, rfl, rfl, q⟩
  | is => exact is_D false I rx ry hx hy hz q
  | isn =>
    have hz : (isF d e).map (!·) = some b := hz
    cases h : isF d e with
    | none => rw [h] at hz; cases hz
    | some c =>
      rw [h] at hz
      cases hz
      exact is_D true I rx ry hx hy h q
  | in_ => exact in_D hu false I rx ry S hx hy hz q
  | nin =>
    have hz : (inF d e).map (!·) = some b := hz
    cases h : inF d e with
    | none => rw [h] at hz; cases hz
    | some c =>
      rw [h] at hz
      cases hz
      exact in_D hu true I rx ry S hx hy h q
/-! ### subscripts -/
theorem atF_atI {ds : List D} {vs : List V} {i : Int} {d : D} {B : Wd} (r : RepL B g ds vs) (h : atF ds i = some d) : ∃ v, atI vs i = some v ∧ Rep B g d v := by
  unfold atF at h
  have hl := r.length
  by_cases h0 : 0 ≤ i
  · rw [if_pos h0] at h
    obtain ⟨v, h1, h2⟩ := r.get h
    refine ⟨v, ?_, h2⟩
    have e : ((i.toNat : Nat) : Int) = i := Int.toNat_of_nonneg h0
    rw [← e]
    exact atI_nat h1
  · rw [if_neg h0] at h
    by_cases h1 : (ds.length : Int) + i < 0
    · rw [if_pos h1] at h; cases h
    · rw [if_neg h1] at h
      obtain ⟨v, h2, h3⟩ := r.get h
      refine ⟨v, ?_, h3⟩
      unfold atI ixN
      rw [if_neg h0, if_pos (by omega)]
      show vs[(i + (vs.length : Int)).toNat]? = some v
      rw [← hl, Int.add_comm]
      exact h2
theorem subTail_dict {value slice : Expr} {o i : Value} {s : Shared} {A : Around} {R : Value → Shared → Prop} {E : Value → Shared → Prop} (hT : s.TypeIs o "dict") (hs : subscripted slice false o i = operate [o, i] (getItem o i)) (h : wpAny (model X.prog X.w) A (getItem o i) R E s) :
    wpAny (model X.prog X.w) A (subscriptTail value slice o i) R E s := by
  unfold subscriptTail
  refine wpAny_bind ?_
  rw [getitemInPython_of_ne (Shared.TypeIs.not_modules hT)]
  refine wpAny_bind (wpAny_specialOf hT slot_dict_getitem.lookup ?_)
  have fin : wpAny (model X.prog X.w) A (subscripted slice false o i) (fun r s3 => wpAny (model X.prog X.w) A (letTemporaryGo value o r >>= fun _ => pure r) R E s3) E s := by
    rw [hs]
    exact wpAny_operating (wpAny_mono h (fun r s3 h3 => wpAny_bind (wpAny_letTemporaryGo (wpAny_pure h3))) fun _ _ x => x)
  first
    | exact wpAny_pure (wpAny_bind fin)
    | exact wpAny_bind (wpAny_pure (wpAny_bind fin))
    | exact wpAny_bind fin
theorem ix_D (hu : X.A.units + 70 < cLine) : IxR X (fun x y H Q => ∃ (g : G) (st : Stt) (d e z : D), StOk X.wd g st H ∧ Vw X.wd g H d x ∧ Vw X.wd g H e y ∧ idxF d e = some z ∧ ∀ v, Rep X.wd g z v → Q v H) := by
  intro value slice pins s σ H x y v u Q I rx ry h hs
  obtain ⟨g, st, d, e, z, S, hx, hy, hz, q⟩ := h
  unfold idxF at hz
  split at hz
  · obtain ⟨a, vs, rfl, h1, r⟩ := hx.lst S
    obtain ⟨w, h2, h3⟩ := atF_atI r hz
    exact ix_list value slice pins s σ H _ y v u Q I rx ry ⟨a, vs, _, w, rfl, hy.int, h1, h2, q w h3⟩ hs
  · obtain ⟨a, vs, rfl, h1, r⟩ := hx.tup S
    obtain ⟨w, h2, h3⟩ := atF_atI r hz
    exact ix_tup value slice pins s σ H _ y v u Q I rx ry ⟨a, vs, _, w, rfl, hy.int, h1, h2, q w h3⟩ hs
  · rename_i z i
    split at hz
    · rename_i h
      obtain ⟨h1, h2⟩ := bool_eq h
      have h2 := of_decide_eq_true h2
      split at hz
      · rename_i c hc
        cases hz
        refine ix_str value slice pins s σ H x y v u Q I rx ry ⟨z, i, c, hx.str, hy.int, szOk_le h1, ?_, q _ (.str _)⟩ hs
        rw [show i = ((i.toNat : Nat) : Int) from (Int.toNat_of_nonneg h2).symm]
        exact atI_nat hc
      · cases hz
    · cases hz
  · rename_i kvs k
    split at hz
    · rename_i hk
      obtain ⟨k, rfl⟩ := isKey_of hk
      obtain ⟨a, vs, rfl, ha, r⟩ := hx.dic S
      have ex := hy.key
      subst ex
      cases rx
      rcases dget_val k r with ⟨h1, h2⟩ | ⟨d, w, h1, h2, rd⟩
      · rw [h1] at hz; cases hz
      · rw [h1] at hz; cases hz
        have dg : DGet H a (kV k) (some w) := by rw [← h2]; exact DGet.k ha
        exact subTail_dict (dict_typeIs I dg) hs (d_getItem (by omega) I dg ry fun w' s' I' rw' => ⟨w, H, I', rw', q w rd⟩)
    · cases hz
  · cases hz
end
end PyD

/-! PyDFs: sum of lists from a list. -/
namespace PyD
open PySem PySem.Spec PyProof.Rows L2
open Sem (wp)
section
variable {prog : Program} {w : World} {A : Around} {R : Result → Shared → Prop} {I l S : Addr} {h0 : Heap} {items : Array Value} {L : List (List Value)}
theorem add_lists {Q : Value → Shared → Prop} {E : Value → Shared → Prop} {s : Shared} {a b : Addr} {xs ys : Array Value} (ha : s.heap.IsList a xs) (hb : s.heap.IsList b ys) (hz : xs.size + ys.size ≤ sizeLine)
    (q : Q (.ref s.heap.objs.size) { s with heap := s.heap.push { cls := .type "list", data := .seq (xs ++ ys) }, toks := s.toks }) : wpAny (model prog w) A (binaryOp .Add (.ref a) (.ref b)) Q E s := by
  obtain ⟨⟨cls, dd, data, sl⟩, ho, hc, n, hd⟩ := ha
  obtain ⟨⟨cls2, dd2, data2, sl2⟩, ho2, hc2, n2, hd2⟩ := hb
  simp only at hc hd hc2 hd2
  subst hc hd hc2 hd2
  exact concat_meets ⟨_, ho, rfl⟩ ⟨_, ho2, rfl⟩ noFill_list_add seq_list_add PySem.F.slot_list_add PySem.F.entry_list_add (PySem.F.args_list_add_2 _ _) (list_addW a b xs ys n n2 dd dd2 sl sl2 hz) ⟨ho, ho2, q⟩

theorem sumL_loop (hh : A.in1.handled = none) (hIl : l ≠ I) (hSI : S ≠ I) (hSl : S ≠ l) (hI : h0.get? I = none) (hS0' : h0.objs.size ≤ S) (hn : items.size = L.length)
    (hit : ∀ (i : Nat) (v : Value), items[i]? = some v → ∃ (a : Addr) (xs : List Value), v = Value.ref a ∧ L[i]? = some xs ∧ h0.IsList a xs.toArray) :
    ∀ (k i : Nat) (s : Shared) (t : Addr) (acc : Array Value) (c : Nat), items.size - i = k → i ≤ items.size → (s.heap.IsListIter I l i ∧ s.heap.IsList l items) → s.heap.get? S = some { cls := .type "list", dict := none, data := .seq #[.ref t] c, slots := #[] } →
    s.heap.IsList t acc → t ≠ S → t ≠ I → (∀ b o, h0.get? b = some o → s.heap.get? b = some o) → acc.size + (L.drop i).flatten.length ≤ sizeLine →
    (∀ h' tk t', (∀ b o, h0.get? b = some o → h'.get? b = some o) → ((i = items.size ∧ t' = t ∧ ∀ o, s.heap.get? t = some o → h'.get? t = some o) ∨ (h0.objs.size ≤ t' ∧ ∃ m, h'.get? t' = some { cls := .type "list", data := .seq (acc ++ (L.drop i).flatten.toArray) m })) → R (.ok (.ret (.ref t'))) { s with heap := h', toks := tk }) →
    codeAny (model prog w) A (.builtin "sum.loop" ⟨[.ref I, .ref S, rawInt 2, rawInt 0], []⟩) R s := by
  have hS0 : h0.get? S = none := by
    cases e : h0.get? S with
    | none => rfl
    | some o => exact absurd (Nat.lt_of_lt_of_le (Heap.lt_size e) hS0') (Nat.lt_irrefl _)
  have W := Walks.list (prog := prog) (w := w) hh I l hIl items
  have hSw : S ∉ [I] := by simpa using hSI
  intro k
  induction k with
  | zero =>
    intro i s t acc c hk hi hst hS ht htS htI k0 hz hR
    have hin : i = items.size := by omega
    subst hin
    refine codeAny_builtin F.entry_sum_loop ?_
    rw [Around.under_plainId F.plain_sum_loop _]
    show wpAny _ A.in1 (seqItems? (.ref S) >>= _) _ _ s
    refine wpAny_bind (wpAny_seqItems hS rfl ?_)
    show wpAny _ A.in1 (tryCatch (pyNext (.ref I)) _ >>= _) _ _ s
    refine wpAny_bind (wpAny_tryCatch (W.done s _ _ hst fun h' tk hk' => ?_))
    exact wpAny_pure (hR h' tk t (fun b o e => hk' b o (by rintro hb; simp at hb; subst hb; rw [hI] at e; cases e) (k0 b o e)) (.inl ⟨rfl, rfl, fun o e => hk' t o (by simpa using htI) e⟩))
  | succ k ih =>
    intro i s t acc c hk hi hst hS ht htS htI k0 hz hR
    have hlt : i < items.size := by omega
    refine codeAny_builtin F.entry_sum_loop ?_
    rw [Around.under_plainId F.plain_sum_loop _]
    show wpAny _ A.in1 (seqItems? (.ref S) >>= _) _ _ s
    refine wpAny_bind (wpAny_seqItems hS rfl ?_)
    show wpAny _ A.in1 (tryCatch (pyNext (.ref I)) _ >>= _) _ _ s
    refine wpAny_bind (wpAny_tryCatch (W.item i s _ _ hlt hst fun v h' tk hP hst' hk' => ?_))
    obtain ⟨a, xs, rfl, hLx, hax⟩ := hit i v hP
    have hS' := hk' S _ hSw hS
    have ht' : h'.IsList t acc := ht.at fun o e => hk' t o (by simpa using htI) e
    have k1 : ∀ b o, h0.get? b = some o → h'.get? b = some o := fun b o e => hk' b o (by rintro hb; simp at hb; subst hb; rw [hI] at e; cases e) (k0 b o e)
    have hax' : h'.IsList a xs.toArray := hax.at fun o e => k1 a o e
    have hdrop : L.drop i = xs :: L.drop (i + 1) := by
      rw [List.drop_eq_getElem_cons (by omega)]
      congr 1
      rw [List.getElem?_eq_getElem (by omega)] at hLx
      exact Option.some.inj hLx
    rw [hdrop, List.flatten_cons, List.length_append] at hz
    show wpAny _ A.in1 ((holding [Value.ref a] (binaryOp .Add (.ref t) (.ref a))).attempt >>= _) _ _ _
    have hSlt : (S : Nat) < h'.objs.size := Heap.lt_size hS'
    have hs1 : h0.objs.size ≤ h'.objs.size := Nat.le_of_lt (Nat.lt_of_le_of_lt hS0' hSlt)
    have hSne : (h'.objs.size : Nat) ≠ S := Ne.symm (Nat.ne_of_lt hSlt)
    have hIlt : (I : Nat) < h'.objs.size := by obtain ⟨⟨_, e, _⟩, _⟩ := hst'; exact Heap.lt_size e
    have hIne : (h'.objs.size : Nat) ≠ I := Ne.symm (Nat.ne_of_lt hIlt)
    refine wpAny_bind (wpAny_attempt (wpAny_holding (add_lists (s := { s with heap := h', toks := tk }) ht' hax' (by simp only [List.size_toArray]; omega) ?_)))
    show wpAny _ A.in1 (updateSeq S (fun _ => #[Value.ref h'.objs.size]) >>= _) _ _ _
    have hS1 := Heap.get?_push_of_some { cls := .type "list", data := .seq (acc ++ xs.toArray) } hS'
    refine wpAny_bind ?_
    refine wpAny_updateSeq hS1 rfl ?_
    have hS2 := Heap.get?_update_self (Obj.mapSeq fun _ => #[Value.ref h'.objs.size]) hS1 rfl
    refine wpAny_bind (wpAny_letGo ?_)
    refine wpAny_bind ?_
    have up : ∀ b o, b ≠ S → h'.get? b = some o → ∀ (f g : Obj → Obj), (((h'.push { cls := .type "list", data := .seq (acc ++ xs.toArray) }).update S f).update S g).get? b = some o := fun b o hb e f g =>
      (Heap.get?_update_other _ _ (Ne.symm hb)).trans ((Heap.get?_update_other _ _ (Ne.symm hb)).trans (Heap.get?_push_of_some _ e))
    have nw : ∀ (f g : Obj → Obj), (((h'.push { cls := .type "list", data := .seq (acc ++ xs.toArray) }).update S f).update S g).get? h'.objs.size = some { cls := .type "list", data := .seq (acc ++ xs.toArray) } := fun f g =>
      (Heap.get?_update_other _ _ (Ne.symm hSne)).trans ((Heap.get?_update_other _ _ (Ne.symm hSne)).trans (Heap.get?_push_size _ rfl))
    refine wpAny_updateSeq hS2 rfl (wpAny_pure ⟨plainId_quiet F.plain_sum_loop _, ih (i + 1) _ h'.objs.size (acc ++ xs.toArray) _ (by omega) hlt (W.frame _ _ _ hst' fun b hb o e => up b o (by rintro rfl; simp at hb; rcases hb with rfl | rfl; exact hSI rfl; exact hSl rfl) e _ _) (Heap.get?_update_self _ hS2 rfl) ⟨_, nw _ _, rfl, 0, rfl⟩ hSne hIne
      (fun b o e => up b o (by rintro rfl; rw [hS0] at e; cases e) (k1 b o e) _ _) (by simp only [Array.size_append, List.size_toArray]; omega) fun h'' tk'' t'' hk'' hres => ?_⟩)
    refine hR h'' tk'' t'' hk'' (.inr ?_)
    rw [hdrop]
    rcases hres with ⟨e1, e2, e3⟩ | ⟨e1, m, e2⟩
    · subst e2
      refine ⟨hs1, 0, ?_⟩
      have : L.drop (i + 1) = [] := by rw [List.drop_eq_nil_iff]; omega
      rw [this, e3 _ (nw _ _)]
      simp
    · refine ⟨e1, m, ?_⟩
      rw [e2]
      simp
theorem iter_list0 {Q : Value → Shared → Prop} {E : Value → Shared → Prop} {s : Shared} {l : Addr} (hl : s.heap.IsList l items)
    (h : ∀ s₂ : Shared, s₂ = { s with heap := s.heap.push { cls := .type "list_iterator", data := .fields #[.ref l, .int 0 0] } } →
      (s₂.heap.IsListIter s.heap.objs.size l 0 ∧ s₂.heap.IsList l items) → Q (.ref s.heap.objs.size) s₂) :
    wpAny (model prog w) A (pyIter (.ref l)) Q E s :=
  wpAny_pyIter_list hl (h _ rfl ⟨⟨_, Heap.get?_push_size _ rfl, rfl, rfl⟩, hl.push _⟩)
theorem args_sum2 (a b : Value) : argsOk "sum" ⟨[a, b], []⟩ := by unfold argsOk; kernel_rfl
theorem call_sum2 {Q : Value → Shared → Prop} {E : Value → Shared → Prop} {s : Shared} {a b : Addr} {zs : Array Value} (hh : A.in1.handled = none) (hl : s.heap.IsList a items) (hb : s.heap.IsList b zs) (hn : items.size = L.length)
    (hit : ∀ (i : Nat) (v : Value), items[i]? = some v → ∃ (c : Addr) (xs : List Value), v = Value.ref c ∧ L[i]? = some xs ∧ s.heap.IsList c xs.toArray) (hz : zs.size + L.flatten.length ≤ sizeLine)
    (q : ∀ h' tk t', (∀ b o, s.heap.get? b = some o → h'.get? b = some o) → ((items.size = 0 ∧ t' = b) ∨ (s.heap.objs.size ≤ t' ∧ ∃ m, h'.get? t' = some { cls := .type "list", data := .seq (zs ++ L.flatten.toArray) m })) → Q (.ref t') { s with heap := h', toks := tk }) :
    wpAny (model prog w) A (call (.builtin "sum") [.ref a, .ref b]) Q E s := by
  refine call_function_tree F.kind_sum F.plain_sum F.entry_sum (args_sum2 _ _) ?_
  unfold Builtin.«sum»
  simp only [List.length_cons, List.length_nil]
  rw [if_neg (by decide)]
  refine wpAny_bind (wpAny_of_eq (show Builtin.Builtins.bindParams "sum" ["start"] 0 ⟨[.ref b], []⟩ = pure [some (.ref b)] from rfl) ?_)
  have hlt : (a : Nat) < s.heap.objs.size := by obtain ⟨_, e, _⟩ := hl; exact Heap.lt_size e
  have hbt : (b : Nat) < s.heap.objs.size := by obtain ⟨_, e, _⟩ := hb; exact Heap.lt_size e
  refine wpAny_bind (iter_list0 hl fun s₂ e st => ?_)
  subst e
  have hb2 := hb.push { cls := .type "list_iterator", data := .fields #[.ref a, .int 0 0] }
  obtain ⟨o2, ho2, hc2, _⟩ := hb2
  have hT : ∀ (s' : Shared), s'.heap = s.heap.push { cls := .type "list_iterator", data := .fields #[.ref a, .int 0 0] } → s'.TypeIs (.ref b) "list" := fun s' e => ⟨o2, by rw [e]; exact ho2, hc2⟩
  refine wpAny_bind (wpAny_pure ?_)
  simp only [List.forIn_cons, List.forIn_nil]
  refine wpAny_bind (wpAny_bind (wpAny_bind (wpAny_isInstance (T := "list") (b := false) (hT _ rfl) F.sub_list_str ?_)))
  simp only [Bool.false_eq_true, if_false]
  refine wpAny_pure (wpAny_bind (wpAny_bind (wpAny_isInstance (T := "list") (b := false) (hT _ rfl) F.sub_list_bytes ?_)))
  simp only [Bool.false_eq_true, if_false]
  refine wpAny_pure (wpAny_bind (wpAny_bind (wpAny_isInstance (T := "list") (b := false) (hT _ rfl) F.sub_list_bytearray ?_)))
  simp only [Bool.false_eq_true, if_false]
  refine wpAny_pure (wpAny_pure ?_)
  refine wpAny_bind (wpAny_newObj_type ?_)
  have e1 : (s.heap.push { cls := .type "list_iterator", data := .fields #[.ref a, .int 0 0] }).objs.size = s.heap.objs.size + 1 := Heap.size_push ..
  have hI : s.heap.get? s.heap.objs.size = none := by
    cases e : s.heap.get? s.heap.objs.size with
    | none => rfl
    | some o => exact absurd (Heap.lt_size e) (Nat.lt_irrefl _)
  have p2 : ∀ (o : Obj) b' o', s.heap.get? b' = some o' → ((s.heap.push { cls := .type "list_iterator", data := .fields #[.ref a, .int 0 0] }).push o).get? b' = some o' := fun o b' o' e => Heap.get?_push_of_some _ (Heap.get?_push_of_some _ e)
  refine wpAny_pure ⟨plainId_quiet F.plain_sum_loop _, sumL_loop (h0 := s.heap) hh (l := a) (I := s.heap.objs.size) (S := (s.heap.push { cls := .type "list_iterator", data := .fields #[.ref a, .int 0 0] }).objs.size) (Nat.ne_of_lt hlt) (by rw [e1]; exact Nat.succ_ne_self _) (by rw [e1]; exact Ne.symm (Nat.ne_of_lt (Nat.lt_succ_of_lt hlt))) hI (by rw [e1]; exact Nat.le_succ _) hn hit _ 0 _ b zs 0 rfl (Nat.zero_le _)
    ⟨Heap.IsListIter.at st.1 fun o e => Heap.get?_push_of_some _ e, Heap.IsList.push st.2 _⟩ (Heap.get?_push_size _ rfl) (hb.at fun o e => p2 _ _ _ e) (by rw [e1]; exact Nat.ne_of_lt (Nat.lt_succ_of_lt hbt)) (Nat.ne_of_lt hbt) (p2 _) (by simpa using hz) fun h' tk t' hk hr => ?_⟩
  refine q h' tk t' hk ?_
  rcases hr with ⟨x, y, _⟩ | hr
  · exact .inl ⟨x.symm, y⟩
  · exact .inr hr
end
end PyD

/-! PyDG: slices, isinstance, built-ins, methods by values. -/
namespace PyD
open PySem PySem.Spec PyProof.Rows L2
section
variable {X : Cx} {g : G} {st : Stt} {H : Hp} {Q : VK}
/-! ### slices -/
def partOf : D → Option (Option Int)
  | .non => some none
  | .int i => some (some i)
  | _ => none
theorem cutF_cutV {B : Wd} {ds cs : List D} {vs : List V} {lo hi : D} (r : RepL B g ds vs) (h : cutF ds lo hi = some cs) : ∃ l u : Option Int, partOf lo = some l ∧ partOf hi = some u ∧ RepL B g cs (cutV vs l u) := by
  have hl := r.length
  have e1 : ∀ i : Int, cutAt ds.length i = HT.sIx vs.length 0 (some i) := fun i => by
    unfold cutAt HT.sIx
    rw [hl, Int.add_comm]
  have e2 : ∀ i : Int, cutAt ds.length i = HT.sIx vs.length vs.length (some i) := fun i => by
    unfold cutAt HT.sIx
    rw [hl, Int.add_comm]
  unfold cutF at h
  cases lo <;> cases hi <;> first | (cases h; done) | skip
  · cases h
    exact ⟨none, none, rfl, rfl, by rw [hl]; exact (r.drop 0).take _⟩
  · cases h
    refine ⟨none, some _, rfl, rfl, ?_⟩
    rw [e2]
    exact (r.drop 0).take _
  · cases h
    refine ⟨some _, none, rfl, rfl, ?_⟩
    rw [e1, hl]
    exact (r.drop _).take _
  · cases h
    refine ⟨some _, some _, rfl, rfl, ?_⟩
    rw [e1, e2]
    exact (r.drop _).take _
theorem sl_D : SlR X (fun x lo hi H Q => ∃ (g : G) (st : Stt) (d a b z : D), StOk X.wd g st H ∧ Vw X.wd g H d x ∧ partOf a = some lo ∧ partOf b = some hi ∧ slcF d a b = some z ∧ Dn X g H st z Q) := by
  intro pins s σ H x v vl vu lo hi sl Q I rx hs pl pu h
  obtain ⟨g, st, d, a, b, z, S, hx, ea, eb, hz, q⟩ := h
  cases d <;> first | (cases hz; done) | skip
  · rename_i ds
    obtain ⟨p, vs, rfl, h1, r⟩ := hx.tup S
    have hz : (cutF ds a b).map D.tup = some z := hz
    cases hc : cutF ds a b with
    | none => rw [hc] at hz; cases hz
    | some cs =>
      rw [hc] at hz
      cases hz
      obtain ⟨l, u, e1, e2, rc⟩ := cutF_cutV r hc
      rw [e1] at ea; cases ea
      rw [e2] at eb; cases eb
      refine sl_tupA pins s σ H _ v vl vu lo hi sl Q I rx hs pl pu ⟨p, vs, rfl, h1, fun ew => ?_, fun _ p np => q.tup S rc np⟩
      have ev : cutV vs lo hi = vs := by
        unfold cutV
        rw [ew.1, ew.2]
        simp
      rw [ev] at rc
      have : cs = ds := by
        have h1 : cs = (ds.drop (HT.sIx vs.length 0 lo)).take (HT.sIx vs.length vs.length hi - HT.sIx vs.length 0 lo) := by
          have hl := r.length
          unfold cutF at hc
          cases a <;> cases b <;> first | (cases hc; done) | skip
          all_goals
            cases e1; cases e2; cases hc
            simp only [cutAt, HT.sIx, hl, Int.add_comm]
        rw [h1, ew.1, ew.2, ← r.length]
        simp
      subst this
      rcases hx with hx | ⟨_, _, c⟩
      · exact q.val S rfl hx
      · exact c.elim
  · rename_i ds
    obtain ⟨p, vs, rfl, h1, r⟩ := hx.lst S
    have hz : (cutF ds a b).map D.lst = some z := hz
    cases hc : cutF ds a b with
    | none => rw [hc] at hz; cases hz
    | some cs =>
      rw [hc] at hz
      cases hz
      obtain ⟨l, u, e1, e2, rc⟩ := cutF_cutV r hc
      rw [e1] at ea; cases ea
      rw [e2] at eb; cases eb
      exact sl_list pins s σ H _ v vl vu lo hi sl Q I rx hs pl pu ⟨p, vs, rfl, h1, fun p np => q.lst S rc np⟩
/-! ### isinstance -/
def Ty.nm : Ty → String
  | .bool => "bool" | .int => "int" | .str => "str" | .tuple => "tuple" | .list => "list" | .dict => "dict"
theorem kit_all {K : PySem.W.Frag} : ∀ t : Ty, PySem.W.kitOne K (.type "NoneType") (.type t.nm) = some false ∧ PySem.W.kitOne K (.type "bool") (.type t.nm) = some (t == .bool || t == .int) ∧ PySem.W.kitOne K (.type "int") (.type t.nm) = some (t == .int) ∧
    PySem.W.kitOne K (.type "str") (.type t.nm) = some (t == .str) ∧ PySem.W.kitOne K (.type "tuple") (.type t.nm) = some (t == .tuple) ∧ PySem.W.kitOne K (.type "list") (.type t.nm) = some (t == .list) ∧ PySem.W.kitOne K (.type "dict") (.type t.nm) = some (t == .dict) := by
  intro t
  cases t <;> exact ⟨kit_ty (by decide +kernel), kit_ty (by decide +kernel), kit_ty (by decide +kernel), kit_ty (by decide +kernel), kit_ty (by decide +kernel), kit_ty (by decide +kernel), kit_ty (by decide +kernel)⟩
theorem rd_tyL {K : PySem.W.Frag} {a : Addr} {vs : List V} (h : SqL K H a vs) : TyX K H (.ref a) (.type "list") := by
  rcases h with (h | ⟨o, h⟩) | ⟨o, its, n, h1, h2, _⟩
  · exact .base (.lst h)
  · exact .base (.frz h)
  · exact .kList h1 h2
theorem sq_tyT {K : PySem.W.Frag} {a : Addr} {vs : List V} (h : SqT K H a vs) : TyX K H (.ref a) (.type "tuple") := by
  rcases h with (h | ⟨o, h⟩) | ⟨o, its, n, h1, h2, _⟩
  · exact .base (.tup h)
  · exact .fTuple h
  · exact .kTuple h1 h2
theorem isi_D {t : Ty} {pins : List (Addr × Obj)} {s : Shared} {σ : L2.St} {x : V} {us : List Value} {d : D} {b : Bool} (I : Inv X pins σ H s) (r : Vals [x, .ty t.nm] us) (S : StOk X.wd g st H) (hx : Vw X.wd g H d x) (hz : isiF t d = some b) (q : Q (.bl b) H) :
    wpAny (model X.prog X.w) X.A (call (.builtin "isinstance") us) (EP X pins σ Q) X.xe s := by
  obtain ⟨k1, k2, k3, k4, k5, k6, k7⟩ := kit_all (K := X.K) t
  refine call_isi pins s σ H _ us Q I r ?_
  cases d <;> first | (cases hz; done) | skip
  · cases hz; rw [hx.non]; exact ⟨_, _, _, _, _, rfl, .ty _, .base .non, k1, q⟩
  · cases hz; rw [hx.bl]; exact ⟨_, _, _, _, _, rfl, .ty _, .base (.bl _), k2, q⟩
  · cases hz; rw [hx.int]; exact ⟨_, _, _, _, _, rfl, .ty _, .base (.int _), k3, q⟩
  · cases hz; rw [hx.str]; exact ⟨_, _, _, _, _, rfl, .ty _, .base (.str _), k4, q⟩
  · cases hz
    obtain ⟨a, vs, rfl, h1, r1⟩ := hx.tup S
    exact ⟨_, _, _, _, _, rfl, .ty _, sq_tyT h1, k5, q⟩
  · cases hz
    obtain ⟨a, vs, rfl, h1, r1⟩ := hx.lst S
    exact ⟨_, _, _, _, _, rfl, .ty _, rd_tyL h1, k6, q⟩
  · cases hz
    obtain ⟨a, vs, rfl, h1, r1⟩ := hx.dic S
    exact ⟨_, _, _, _, _, rfl, .ty _, .base (.dK h1), k7, q⟩
/-! ### built-ins -/
theorem repl_ints {B : Wd} : ∀ {ds : List D} {l : List Int} {vs : List V}, intsD ds = some l → RepL B g ds vs → vs = l.map V.int
  | [], l, _, h, r => by cases h; cases r; rfl
  | d :: ds, l, _, h, r => by
    cases r with
    | cons r t =>
      cases d <;> first | (cases h; done) | skip
      rename_i i
      have h : (match intsD ds with | some l => some (i :: l) | none => none) = some l := h
      cases e : intsD ds with
      | none => rw [e] at h; cases h
      | some l' =>
        rw [e] at h
        cases h
        cases r
        rw [repl_ints e t]; rfl
theorem lists_raw {pins : List (Addr × Obj)} {s : Shared} {σ : L2.St} (I : Inv X pins σ H s) (S : StOk X.wd g st H) : ∀ {ds : List D} {l : List (List D)} {vs : List V} {its : List Value}, listsD ds = some l → RepL X.wd g ds vs → Vals vs its →
    ∃ (LV : List V) (L : List (List Value)), its.length = L.length ∧ (∀ (i : Nat) (v : Value), its[i]? = some v → ∃ (c : Addr) (xs : List Value), v = Value.ref c ∧ L[i]? = some xs ∧ s.heap.IsList c xs.toArray) ∧ Vals LV L.flatten ∧ RepL X.wd g l.flatten LV
  | [], l, _, _, h, r, rv => by cases h; cases r; cases rv; exact ⟨[], [], rfl, fun i v e => by simp at e, .nil, .nil⟩
  | d :: ds, l, _, _, h, r, rv => by
    cases r with
    | cons r t =>
      cases rv with
      | cons rx rt =>
      cases d <;> first | (cases h; done) | skip
      rename_i i
      have h : (match listsD ds with | some l => some (i :: l) | none => none) = some l := h
      cases e : listsD ds with
      | none => rw [e] at h; cases h
      | some l' =>
        rw [e] at h
        cases h
        obtain ⟨LV, L, h1, h2, h3, h4⟩ := lists_raw I S e t rt
        cases r with
        | lst q r =>
          obtain ⟨its', r', pl, _⟩ := I.list (SqL.sub S q)
          cases rx
          refine ⟨_ ++ LV, its' :: L, by simp [h1], fun j v ej => ?_, r'.append h3, r.append h4⟩
          cases j with
          | zero => cases ej; exact ⟨_, _, rfl, rfl, pl.isList⟩
          | succ j => exact h2 j v ej
theorem repl_bools {B : Wd} : ∀ {ds : List D} {l : List Bool} {vs : List V}, boolsD ds = some l → RepL B g ds vs → vs = l.map V.bl
  | [], l, _, h, r => by cases h; cases r; rfl
  | d :: ds, l, _, h, r => by
    cases r with
    | cons r t =>
      cases d <;> first | (cases h; done) | skip
      rename_i i
      have h : (match boolsD ds with | some l => some (i :: l) | none => none) = some l := h
      cases e : boolsD ds with
      | none => rw [e] at h; cases h
      | some l' =>
        rw [e] at h
        cases h
        cases r
        rw [repl_bools e t]; rfl
theorem minI_spec : ∀ (l : List Int) (m : Int), (minI m l ∈ m :: l) ∧ (minI m l ≤ m) ∧ ∀ y ∈ l, minI m l ≤ y
  | [], m => ⟨List.mem_cons_self .., Int.le_refl _, fun _ h => by cases h⟩
  | x :: l, m => by
    obtain ⟨h1, h2, h3⟩ := minI_spec l (if x < m then x else m)
    show minI (if x < m then x else m) l ∈ _ ∧ minI (if x < m then x else m) l ≤ m ∧ ∀ y ∈ x :: l, minI (if x < m then x else m) l ≤ y
    by_cases e : x < m
    · rw [if_pos e] at h1 h2 h3 ⊢
      refine ⟨List.mem_cons_of_mem _ h1, by omega, fun y hy => ?_⟩
      rcases List.mem_cons.mp hy with q | q
      · subst q; exact h2
      · exact h3 y q
    · rw [if_neg e] at h1 h2 h3 ⊢
      refine ⟨?_, h2, fun y hy => ?_⟩
      · rcases List.mem_cons.mp h1 with q | q
        · rw [q]; exact List.mem_cons_self ..
        · exact List.mem_cons_of_mem _ (List.mem_cons_of_mem _ q)
      · rcases List.mem_cons.mp hy with q | q
        · subst q; omega
        · exact h3 y q
theorem maxI_spec : ∀ (l : List Int) (m : Int), (maxI m l ∈ m :: l) ∧ (m ≤ maxI m l) ∧ ∀ y ∈ l, y ≤ maxI m l
  | [], m => ⟨List.mem_cons_self .., Int.le_refl _, fun _ h => by cases h⟩
  | x :: l, m => by
    obtain ⟨h1, h2, h3⟩ := maxI_spec l (if m < x then x else m)
    show maxI (if m < x then x else m) l ∈ _ ∧ m ≤ maxI (if m < x then x else m) l ∧ ∀ y ∈ x :: l, y ≤ maxI (if m < x then x else m) l
    by_cases e : m < x
    · rw [if_pos e] at h1 h2 h3 ⊢
      refine ⟨List.mem_cons_of_mem _ h1, by omega, fun y hy => ?_⟩
      rcases List.mem_cons.mp hy with q | q
      · subst q; exact h2
      · exact h3 y q
    · rw [if_neg e] at h1 h2 h3 ⊢
      refine ⟨?_, h2, fun y hy => ?_⟩
      · rcases List.mem_cons.mp h1 with q | q
        · rw [q]; exact List.mem_cons_self ..
        · exact List.mem_cons_of_mem _ (List.mem_cons_of_mem _ q)
      · rcases List.mem_cons.mp hy with q | q
        · subst q; omega
        · exact h3 y q
/-- the argument of a call that looks at one thing: whatever may be read -/
def VwL (B : Wd) (g : G) (H : Hp) : List D → List V → Prop
  | [], [] => True
  | d :: ds, v :: vs => Vw B g H d v ∧ VwL B g H ds vs
  | _, _ => False
def BI.fn : BI → Value
  | .len => .builtin "len" | .list => .type "list" | .tuple => .type "tuple" | .sorted => .builtin "sorted" | .all => .builtin "all" | .any => .builtin "any" | .sum => .builtin "sum"
  | .min => .builtin "min" | .max => .builtin "max" | .abs => .builtin "abs" | .int => .type "int" | .sset => .none | .divmod => .builtin "divmod" | .gcd => .builtin "math.gcd"
theorem bi_D (hu : X.A.units + 70 < cLine) (hc : X.calm = true) (b : BI) : CallR X b.fn (fun xs H Q => ∃ (g : G) (st : Stt) (ds : List D) (z : D), StOk X.wd g st H ∧ VwL X.wd g H ds xs ∧ biF b ds = some z ∧ Dn X g H st z Q) := by
  intro pins s σ H xs us Q I r h
  obtain ⟨g, st, ds, z, S, hx, hz, q⟩ := h
  have one : ∀ {d : D}, VwL X.wd g H [d] xs → ∃ x, xs = [x] ∧ Vw X.wd g H d x := fun {d} h => by
    cases xs with
    | nil => exact h.elim
    | cons x xs =>
      obtain ⟨h1, h2⟩ := h
      cases xs with
      | nil => exact ⟨x, rfl, h1⟩
      | cons y ys => exact h2.elim
  have two : ∀ {d e : D}, VwL X.wd g H [d, e] xs → ∃ x y, xs = [x, y] ∧ Vw X.wd g H d x ∧ Vw X.wd g H e y := fun {d e} h => by
    cases xs with
    | nil => exact h.elim
    | cons x xs =>
      obtain ⟨h1, h2⟩ := h
      cases xs with
      | nil => exact h2.elim
      | cons y ys =>
        obtain ⟨h2, h3⟩ := h2
        cases ys with
        | nil => exact ⟨x, y, rfl, h1, h2⟩
        | cons _ _ => exact h3.elim
  unfold biF at hz
  split at hz
  · -- len
    rename_i d
    obtain ⟨x, rfl, hw⟩ := one hx
    replace hx := hw
    cases d with
    | str y =>
      have hz : (if szOk y.length then some (D.int y.length) else none) = some z := hz
      split at hz
      · rename_i hs
        cases hz
        have e := hx.str
        subst e
        exact call_len_str pins s σ H _ us Q I r ⟨_, rfl, szOk_le hs, q.int S⟩
      · cases hz
    | tup ys =>
      cases hz
      obtain ⟨a, vs, rfl, h1, r1⟩ := hx.tup S
      exact call_len_seq pins s σ H _ us Q I r ⟨a, vs, rfl, .inr h1, by rw [← r1.length]; exact q.int S⟩
    | lst ys =>
      cases hz
      obtain ⟨a, vs, rfl, h1, r1⟩ := hx.lst S
      exact call_len_seq pins s σ H _ us Q I r ⟨a, vs, rfl, .inl h1, by rw [← r1.length]; exact q.int S⟩
    | dic ys =>
      cases hz
      obtain ⟨a, vs, rfl, h1, r1⟩ := hx.dic S
      exact call_lenD pins s σ H _ us Q I r ⟨a, vs, rfl, h1, by rw [← r1.length]; exact q.int S⟩
    | _ => cases hz
  · -- list
    rename_i d
    obtain ⟨x, rfl, hw⟩ := one hx
    replace hx := hw
    cases d with
    | tup ys =>
      cases hz
      obtain ⟨a, vs, rfl, h1, r1⟩ := hx.tup S
      exact call_list_of pins s σ H _ us Q I r ⟨a, vs, rfl, .inr h1, fun p np => q.lst S r1 np⟩
    | lst ys =>
      cases hz
      obtain ⟨a, vs, rfl, h1, r1⟩ := hx.lst S
      exact call_list_of pins s σ H _ us Q I r ⟨a, vs, rfl, .inl h1, fun p np => q.lst S r1 np⟩
    | _ => cases hz
  · -- tuple
    rename_i d
    obtain ⟨x, rfl, hw⟩ := one hx
    replace hx := hw
    cases d with
    | tup ys =>
      cases hz
      obtain ⟨a, vs, rfl, h1, r1⟩ := hx.tup S
      refine call_tuple_of pins s σ H _ us Q I r ⟨a, vs, rfl, .inr ⟨h1, ?_⟩⟩
      rcases hx with hx | ⟨_, _, c⟩
      · exact q.val S rfl hx
      · exact c.elim
    | lst ys =>
      cases hz
      obtain ⟨a, vs, rfl, h1, r1⟩ := hx.lst S
      exact call_tuple_of pins s σ H _ us Q I r ⟨a, vs, rfl,   .inl ⟨h1, fun p np => q.tup S r1 np⟩⟩
    | _ => cases hz
  · -- sorted
    rename_i ys
    obtain ⟨x, rfl, hw⟩ := one hx
    replace hx := hw
    have hz : (sortF ys).map D.lst = some z := hz
    unfold sortF at hz
    split at hz
    · rename_i h
      cases hz
      obtain ⟨h1, h2⟩ := bool_eq h
      obtain ⟨a, vs, rfl, h3, r1⟩ := hx.lst S
      obtain ⟨u, rfl, ru⟩ := vals1 r
      cases ru
      exact sorted_D (by omega) I S (.inl h3) r1 h1 h2 q
    · cases hz
  · -- sorted, of a tuple
    rename_i ys
    obtain ⟨x, rfl, hw⟩ := one hx
    replace hx := hw
    have hz : (sortF ys).map D.lst = some z := hz
    unfold sortF at hz
    split at hz
    · rename_i h
      cases hz
      obtain ⟨h1, h2⟩ := bool_eq h
      obtain ⟨a, vs, rfl, h3, r1⟩ := hx.tup S
      obtain ⟨u, rfl, ru⟩ := vals1 r
      cases ru
      exact sorted_D (by omega) I S (.inr h3) r1 h1 h2 q
    · cases hz
  · -- all
    rename_i ys
    obtain ⟨x, rfl, hw⟩ := one hx
    replace hx := hw
    cases e : boolsD ys with
    | none => rw [e] at hz; cases hz
    | some l =>
      rw [e] at hz
      cases hz
      obtain ⟨a, vs, rfl, h3, r1⟩ := hx.lst S
      have ev := repl_bools e r1
      subst ev
      exact cr_all hc pins s σ H _ us Q I r ⟨a, l, rfl, h3, q.bl S⟩
  · -- any
    rename_i ys
    obtain ⟨x, rfl, hw⟩ := one hx
    replace hx := hw
    cases e : boolsD ys with
    | none => rw [e] at hz; cases hz
    | some l =>
      rw [e] at hz
      cases hz
      obtain ⟨a, vs, rfl, h3, r1⟩ := hx.lst S
      have ev := repl_bools e r1
      subst ev
      exact cr_any hc pins s σ H _ us Q I r ⟨a, l, rfl, h3, q.bl S⟩
  · -- sum
    rename_i ys
    obtain ⟨x, rfl, hw⟩ := one hx
    replace hx := hw
    cases e : intsD ys with
    | none => rw [e] at hz; cases hz
    | some l =>
      rw [e] at hz
      cases hz
      obtain ⟨a, vs, rfl, h3, r1⟩ := hx.lst S
      have ev := repl_ints e r1
      subst ev
      exact cr_sum hc pins s σ H _ us Q I r ⟨a, l, rfl, h3, q.int S⟩
  · -- sum of lists
    rename_i ys zs
    split at hz
    · rename_i l0 l e
      split at hz
      · rename_i hsz
        cases hz
        obtain ⟨x, y, rfl, hw1, hw2⟩ := two hx
        obtain ⟨a, vs, rfl, h3, r1⟩ := hw1.lst S
        obtain ⟨b, ws, rfl, h4, r2⟩ := hw2.lst S
        cases r with
        | cons ra r =>
        cases r with
        | cons rb r =>
        cases r
        cases ra
        cases rb
        obtain ⟨its, rv, pl, _⟩ := I.list h3
        obtain ⟨its2, rv2, pl2, _⟩ := I.list h4
        obtain ⟨LV, L, l1, l2, l3, l4⟩ := lists_raw I S e r1 rv
        have e1 := rv2.length
        have e2 := r2.length
        have e3 := l3.length
        have e4 := l4.length
        have hs2 := szOk_le hsz
        refine call_sum2 (I.ok.hd hc) pl.isList pl2.isList (L := L) (by simpa using l1) (fun i v h => l2 i v (by simpa using h)) (by simp only [List.size_toArray]; omega) fun h' tk t' hk hr => ?_
        rcases hr with ⟨e0, rfl⟩ | ⟨f1, m, f2⟩
        · have e9 : its = [] := by simpa using e0
          subst e9
          cases rv
          cases r1
          cases e
        · exact ⟨.ref _, upd H t' (.lst (ws ++ LV)), I.laid (t' := tk) hk f1 ⟨by rw [List.length_append]; omega, its2 ++ L.flatten, m, rv2.append l3, by rw [f2]; simp⟩, rfl, q.lst S (r2.append l4) (I.hok.fresh f1)⟩
      · cases hz
    · cases hz
  · -- min of a list
    rename_i d
    obtain ⟨x, rfl, hw⟩ := one hx
    replace hx := hw
    cases d with
    | lst ys =>
      have hz : (match intsD ys with | some (i :: l) => some (D.int (minI i l)) | _ => none) = some z := hz
      cases e : intsD ys with
      | none => rw [e] at hz; cases hz
      | some l =>
        rw [e] at hz
        cases l with
        | nil => cases hz
        | cons i l =>
          cases hz
          obtain ⟨a, vs, rfl, h3, r1⟩ := hx.lst S
          have ev := repl_ints e r1
          subst ev
          obtain ⟨m1, m2, m3⟩ := minI_spec l i
          refine cr_min hc pins s σ H _ us Q I r ⟨a, i :: l, rfl, h3, Nat.zero_lt_succ _, fun m hm hle => ?_⟩
          have : m = minI i l := by
            have a1 := hle _ m1
            have a2 : minI i l ≤ m := by
              rcases List.mem_cons.mp hm with e | e
              · rw [e]; exact m2
              · exact m3 m e
            omega
          rw [this]
          exact q.int S
    | _ => cases hz
  · -- max of a list
    rename_i d
    obtain ⟨x, rfl, hw⟩ := one hx
    replace hx := hw
    cases d with
    | lst ys =>
      have hz : (match intsD ys with | some (i :: l) => some (D.int (maxI i l)) | _ => none) = some z := hz
      cases e : intsD ys with
      | none => rw [e] at hz; cases hz
      | some l =>
        rw [e] at hz
        cases l with
        | nil => cases hz
        | cons i l =>
          cases hz
          obtain ⟨a, vs, rfl, h3, r1⟩ := hx.lst S
          have ev := repl_ints e r1
          subst ev
          obtain ⟨m1, m2, m3⟩ := maxI_spec l i
          refine cr_max hc pins s σ H _ us Q I r ⟨a, i :: l, rfl, h3, Nat.zero_lt_succ _, fun m hm hle => ?_⟩
          have : m = maxI i l := by
            have a1 := hle _ m1
            have a2 : m ≤ maxI i l := by
              rcases List.mem_cons.mp hm with e | e
              · rw [e]; exact m2
              · exact m3 m e
            omega
          rw [this]
          exact q.int S
    | _ => cases hz
  · obtain ⟨x, y, rfl, hw, hy⟩ := two hx
    replace hx := hw
    cases hz
    rw [hx.int, hy.int] at r
    exact call_min2 hc pins s σ H _ us Q I r ⟨_, _, rfl, q.int S⟩
  · obtain ⟨x, y, rfl, hw, hy⟩ := two hx
    replace hx := hw
    cases hz
    rw [hx.int, hy.int] at r
    exact call_max2 hc pins s σ H _ us Q I r ⟨_, _, rfl, q.int S⟩
  · obtain ⟨x, rfl, hw⟩ := one hx
    replace hx := hw
    cases hz
    rw [hx.int] at r
    exact call_abs pins s σ H _ us Q I r ⟨_, rfl, q.int S⟩
  · obtain ⟨x, rfl, hw⟩ := one hx
    replace hx := hw
    cases hz
    rw [hx.int] at r
    exact call_int1 pins s σ H _ us Q I r (.inl ⟨_, rfl, q.int S⟩)
  · obtain ⟨x, rfl, hw⟩ := one hx
    replace hx := hw
    cases hz
    rw [hx.bl] at r
    exact call_int1 pins s σ H _ us Q I r (.inr ⟨_, rfl, q.int S⟩)
  · obtain ⟨x, y, rfl, hw, hy⟩ := two hx
    replace hx := hw
    split at hz
    · rename_i h
      cases hz
      obtain ⟨h1, h2⟩ := bool_eq h
      rw [hx.int, hy.int] at r
      exact call_divmod pins s σ H _ us Q I r ⟨_, _, rfl, ⟨of_decide_eq_true h1, of_decide_eq_true h2⟩, fun p np => q.tup S (.cons (.int _) (.cons (.int _) .nil)) np⟩
    · cases hz
  · obtain ⟨x, y, rfl, hw, hy⟩ := two hx
    replace hx := hw
    cases hz
    rw [hx.int, hy.int] at r
    exact cr_gcd pins s σ H _ us Q I r ⟨_, _, rfl, q.int S⟩
  · cases hz
/-! ### methods that tell -/
theorem findI_at {n : Nat} {y : D} : ∀ {xs : List D} {k j : Nat}, findI y xs k = some j → ∃ i z, j = k + i ∧ xs[i]? = some z ∧ D.eqv z y = true ∧ ∀ m z', m < i → xs[m]? = some z' → D.eqv z' y = false
  | [], _, _, h => by cases h
  | x :: xs, k, j, h => by
    have h : (if D.eqv x y then some k else findI y xs (k + 1)) = some j := h
    by_cases e : D.eqv x y = true
    · rw [if_pos e] at h
      cases h
      exact ⟨0, x, rfl, rfl, e, fun m z' hm => absurd hm (Nat.not_lt_zero _)⟩
    · rw [if_neg e] at h
      obtain ⟨i, z, e1, e2, e3, e4⟩ := findI_at (n := n) h
      refine ⟨i + 1, z, by omega, by simpa using e2, e3, fun m z' hm hz => ?_⟩
      cases m with
      | zero =>
        have : x = z' := by simpa using hz
        subst this
        simpa using e
      | succ m => exact e4 m z' (by omega) (by simpa using hz)
end
end PyD

/-! PyDH: expressions by the core language, one rule each. -/
namespace PyD
open PySem PySem.Spec PyProof.Rows L2
section
variable {B : Wd} {g : G} {H H0 : Hp} {env : Ev} {σ : L2.St} {st : Stt}
theorem slot_lt : ∀ {env : Ev} {i : Nat}, (slot env i = .un → False) → i < env.length
  | [], _, h => (h rfl).elim
  | _ :: _, 0, _ => Nat.zero_lt_succ _
  | _ :: xs, i + 1, h => Nat.succ_lt_succ (slot_lt (env := xs) h)
theorem EnvOk.get (h : EnvOk B g env σ H H0) {i : Nat} (hi : i < env.length) : ∃ o, σ[i]? = some o ∧ SlotOk B g H H0 (slot env i) o := by
  rw [h.len] at hi
  exact ⟨σ[i], List.getElem?_eq_getElem hi, h.at_ i _ (List.getElem?_eq_getElem hi)⟩
theorem EnvOk.val (h : EnvOk B g env σ H H0) {i : Nat} {d : D} (e : slot env i = .val d) : ∃ v, σ[i]? = some (some v) ∧ Rep B g d v := by
  obtain ⟨o, h1, h2⟩ := h.get (slot_lt (i := i) fun z => by rw [e] at z; cases z)
  rw [e] at h2
  cases h2 with
  | val r => exact ⟨_, h1, r⟩
theorem EnvOk.own (h : EnvOk B g env σ H H0) {i : Nat} {d : D} (e : slot env i = .own d) : ∃ a, σ[i]? = some (some (.ref a)) ∧ g.F a = none ∧ a ∉ g.ρ ∧ H0 a = none ∧ Cont B g H a d := by
  obtain ⟨o, h1, h2⟩ := h.get (slot_lt (i := i) fun z => by rw [e] at z; cases z)
  rw [e] at h2
  cases h2 with
  | own a b c d => exact ⟨_, h1, a, b, c, d⟩
/-- values that may be own things -/
def ROL (B : Wd) (g : G) (H : Hp) : List D → List V → Prop
  | [], [] => True
  | d :: ds, v :: vs => RepO B g H d v ∧ ROL B g H ds vs
  | _, _ => False
theorem ROL.vwl : ∀ {ds : List D} {vs : List V}, ROL B g H ds vs → VwL B g H ds vs
  | [], [], _ => trivial
  | _ :: _, _ :: _, ⟨a, b⟩ => ⟨a.vw, ROL.vwl b⟩
  | [], _ :: _, h => h.elim
  | _ :: _, [], h => h.elim
theorem RepL.rol : ∀ {ds : List D} {vs : List V}, RepL B g ds vs → ROL B g H ds vs
  | _, _, .nil => trivial
  | _, _, .cons a b => ⟨.inl a, RepL.rol b⟩
end
section
variable {X : Cx} {C : Cfg} {W : L2.WX} {σ : L2.St} {g g1 : G} {H H1 H2 : Hp} {st st1 : Stt} {env : Ev}
abbrev pOL (X : Cx) : G → Hp → List D → List V → Prop := fun g H d v => ROL X.wd g H d v
/-- what is made is what the context asks -/
theorem Pst.dn {Q : VK} {z : D} (h : Pst X W σ g1 H1 (pF X H) (some (.ok z, st1)) Q) (k : ∀ a, H a ≠ none → H1 a ≠ none) : Dn X g1 H1 st1 z Q := fun v g' H' n p => h v g' H' n (by
  rcases p with ⟨c, a, e, h0, r⟩ | p
  · refine .inl ⟨c, a, e, ?_, r⟩
    cases q : H a with
    | none => rfl
    | some o => exact absurd h0 (k a (by rw [q]; simp))
  · exact .inr p)
theorem Pst.okR {α β : Type} {P : G → Hp → α → β → Prop} {d : α} {Q : β → Hp → Prop} (h : Pst X W σ g H P (some (.ok d, st)) Q) (s : StOk X.wd g st H) {v : β} (p : P g H d v) : Q v H := h v g H (.refl s) p
/-- a plain answer -/
theorem Pst.plain {Q : VK} {z : D} {H' : Hp} (h : Pst X W σ g H (pF X H') (some (.ok z, st)) Q) (s : StOk X.wd g st H) (c : canOwn z = false) {v : V} (r : Rep X.wd g z v) : Q v H := h.okR s (.inr ⟨c, r⟩)
section
variable {e a b c : Expr} {ca cb cc : E} {p p2 pos : Pos} {i : Nat} {x : Str}
theorem r_leaf {v : V} {d : D} (h : PE X e (tC v)) {cc : E} (hc : ∀ env s, ev C cc env s = some (.ok d, s)) (hr : ∀ g, Rep X.wd g d v) : DE X C W e cc :=
  PE.imp h fun σ H Q ⟨g, env, st, H0, R, p⟩ => by
    rw [hc] at p
    exact p.okR R.st (hr g)
theorem r_stuckP {t : TE} (ht : ∀ σ H Q, t σ H Q → False) : PE X e t := ⟨fun _ _ σ H Q _ h => (ht σ H Q h).elim⟩
theorem r_stuck : DE X C W e .stuck := r_stuckP fun σ H Q ⟨_, _, _, _, _, p⟩ => p
theorem r_int {z : Int} {k : Nat} : DE X C W (.Constant (.int z) k pos) (.cst (.int z)) := r_leaf pe_int (fun _ _ => rfl) fun _ => .int z
theorem r_bl {z : Bool} {k : Nat} : DE X C W (.Constant (.bool z) k pos) (.cst (.bl z)) := r_leaf pe_bl (fun _ _ => rfl) fun _ => .bl z
theorem r_non {k : Nat} : DE X C W (.Constant .none k pos) (.cst .non) := r_leaf pe_non (fun _ _ => rfl) fun _ => .non
theorem r_str {z : Str} {k : Nat} : DE X C W (.Constant (.str z) k pos) (.cst (.str z)) := r_leaf pe_str (fun _ _ => rfl) fun _ => .str z
theorem r_var (hN : X.N[i]? = some x) (hv : Vis X.env.scope x) (hd : (x == ("__debug__" : Str)) = false) (hcd : (x == ("__classdict__" : Str)) = false) : DE X C W (.Name x pos) (.var i) :=
  PE.imp (pe_var hN hv hd hcd) fun σ H Q ⟨g, env, st, H0, R, p⟩ => by
    obtain ⟨d, e, p⟩ := Pst.lift (o := getVal (slot env i)) (st := st) p
    have e2 : slot env i = .val d := by
      cases q : slot env i <;> rw [q] at e <;> cases e
      rfl
    obtain ⟨v, h1, h2⟩ := R.env.val e2
    exact ⟨v, h1, p.okR R.st h2⟩
theorem r_pk (hN : X.N[i]? = some x) (hv : Vis X.env.scope x) (hd : (x == ("__debug__" : Str)) = false) (hcd : (x == ("__classdict__" : Str)) = false) : DP X C W (.Name x pos) (.pk i) :=
  PE.imp (pe_var hN hv hd hcd) fun σ H Q ⟨g, env, st, H0, R, p⟩ => by
    obtain ⟨d, e, p⟩ := Pst.lift (o := getAny (slot env i)) (st := st) p
    cases q : slot env i with
    | un => rw [q] at e; cases e
    | val d' =>
      rw [q] at e; cases e
      obtain ⟨v, h1, h2⟩ := R.env.val q
      exact ⟨v, h1, p.okR R.st (.inl h2)⟩
    | own d' =>
      rw [q] at e; cases e
      obtain ⟨a, h1, h2, h3, h4, h5⟩ := R.env.own q
      exact ⟨_, h1, p.okR R.st (.inr ⟨a, rfl, h2, h3, h5⟩)⟩
theorem r_glb {v : V} {u : Value} (hg : Gl X x) (hm : X.mg x = some u) (r : RelV v u) (hd : (x == ("__debug__" : Str)) = false) {d : D} (hc : C.gl x = some d) (hr : ∀ g, Rep X.wd g d v) : DE X C W (.Name x pos) (.glb x) :=
  r_leaf (pe_glob hg hm r hd) (fun _ s => by show lift (C.gl x) s = _; rw [hc]; rfl) hr
theorem r_fnv {a : Addr} (hg : Gl X x) (hm : X.mg x = some (.ref a)) (hd : (x == ("__debug__" : Str)) = false) : DE X C W (.Name x pos) (.fnv x) :=
  r_leaf (pe_glob (v := .ref a) hg hm rfl hd) (fun _ _ => rfl) fun g => .fn hm
theorem bind_bind {α β γ : Type} (r : Res α) (f : α → Stt → Res β) (k : β → Stt → Res γ) : (r.bind f).bind k = r.bind fun x s => (f x s).bind k := by
  cases r with
  | none => rfl
  | some r =>
    obtain ⟨o, s⟩ := r
    cases o <;> rfl
/-- two parts, then an answer -/
theorem r_two {f : D → D → Stt → Res D} {t : TE} {tg : L2.St → Hp → VK → Prop} {h : Ev → Stt → Res D} (hh : ∀ env s, h env s = (ev C ca env s).bind fun x s => (ev C cb env s).bind fun y s => f x y s)
    {r : R2} (k : ∀ {g : G} {st : Stt} {H H' : Hp} {d e : D} {x y : V} {σ : L2.St} {Q : VK}, StOk X.wd g st H → (∀ a, H' a ≠ none → H a ≠ none) → RepO X.wd g H d x → RepO X.wd g H e y → Pst X W σ g H (pF X H') (f d e st) Q → r x y H Q)
    {σ : L2.St} {H : Hp} {Q : VK} (hq : tN X W h σ H Q) : tOp r (tR X W (pO X) (ev C ca)) (tR X W (pO X) (ev C cb)) σ H Q := by
  obtain ⟨g, env, st, H0, R, p⟩ := hq
  rw [hh] at p
  refine ⟨g, env, st, H0, R, Pst.bind p fun d st1 v g1 H1 n1 r1 p1 => ⟨g1, env, st1, H0, R.next n1, Pst.bind p1 fun e st2 u g2 H2 n2 r2 p2 => ?_⟩⟩
  exact k n2.ok (fun a q => n2.keep a (n1.keep a q)) (r1.nxt n2) r2 p2
def BOp.of : Operator → Option BOp
  | .Add => some .add | .Sub => some .sub | .Mult => some .mul | .FloorDiv => some .fdv | .Mod => some .mod | .Pow => some .pow
  | _ => none
theorem BOp.of_op {op : Operator} {o : BOp} (h : BOp.of op = some o) : o.op = op := by
  cases op <;> cases h <;> rfl
theorem r_bin (o : BOp) (ha : DP X C W a ca) (hb : DP X C W b cb) : DN X C W (.BinOp a o.op b pos) (.bin o ca cb) := by
  refine PE.imp (pe_op (r := fun x y H Q => ∃ (g : G) (st : Stt) (d e z : D), StOk X.wd g st H ∧ Vw X.wd g H d x ∧ Vw X.wd g H e y ∧ binF o d e = some z ∧ Dn X g H st z Q)
    (fun pins s σ H x y v u Q I rx ry ⟨g, st, d, e, z, S, h1, h2, h3, h4⟩ => op_bin o I rx ry S h1 h2 h3 h4) ha hb) fun σ H Q hq => ?_
  refine r_two (C := C) (f := fun x y s => lift (binF o x y) s) (t := fun _ _ _ => True) (tg := fun _ _ _ => True) (fun env s => rfl) (fun {g st H H' d e x y σ Q} S k r1 r2 p => ?_) hq
  obtain ⟨z, hz, p⟩ := p.lift
  exact ⟨g, st, d, e, z, S, r1.vw, r2.vw, hz, p.dn k⟩
def COp.of : CmpOp → COp
  | .Eq => .eq | .NotEq => .ne | .Lt => .lt | .LtE => .le | .Gt => .gt | .GtE => .ge | .Is => .is | .IsNot => .isn | .In => .in_ | .NotIn => .nin
theorem COp.of_op (op : CmpOp) : (COp.of op).op = op := by cases op <;> rfl
theorem cmp_opR (hu : X.A.units + 70 < cLine) (o : COp) : OpR X (compareOp o.op) (fun x y H Q => ∃ (g : G) (st : Stt) (d e : D) (z : Bool), StOk X.wd g st H ∧ Vw X.wd g H d x ∧ Vw X.wd g H e y ∧ cmpF o d e = some z ∧ Q (.bl z) H) :=
  fun pins s σ H x y v u Q I rx ry ⟨g, st, d, e, z, S, h1, h2, h3, h4⟩ => op_cmp hu o I rx ry S h1 h2 h3 h4
theorem r_cmp (hu : X.A.units + 70 < cLine) (o : COp) (ha : DP X C W a ca) (hb : DP X C W b cb) (hm : behindInMarks o.op b = false) : DN X C W (.Compare a [o.op] [b] pos) (.cmp o ca cb) := by
  refine PE.imp (pe_cmpR (cmp_opR hu o) ha hb hm) fun σ H Q hq => ?_
  refine r_two (C := C) (f := fun x y s => match dr s x, dr s y with | some x, some y => lift ((cmpF o x y).map D.bl) s | _, _ => none) (t := fun _ _ _ => True) (tg := fun _ _ _ => True) (fun env s => rfl) (fun {g st H H' d e x y σ Q} S k r1 r2 p => ?_) hq
  cases hd1 : dr st d with
  | none => simp only [hd1] at p; exact p.elim
  | some d' =>
    cases hd : dr st e with
    | none => simp only [hd1, hd] at p; exact p.elim
    | some e' =>
      simp only [hd1, hd] at p
      obtain ⟨z, hz, p⟩ := p.lift
      cases hc : cmpF o d' e' with
      | none => rw [hc] at hz; cases hz
      | some k =>
        rw [hc] at hz; cases hz
        exact ⟨g, st, d', e', k, S, r1.dr S hd1, r2.dr S hd, hc, p.plain S rfl (.bl k)⟩
theorem r_cmp2 (hu : X.A.units + 70 < cLine) (o o' : COp) (ha : DP X C W a ca) (hb : DP X C W b cb) (hc : DP X C W c cc) (hm : lastMarks [o.op, o'.op] [b, c] = false) : DN X C W (.Compare a [o.op, o'.op] [b, c] pos) (.cmp2 o o' ca cb cc) := by
  refine PE.imp (pe_chain (cmp_opR hu o) (cmp_opR hu o') ha hb hc hm) fun σ H Q ⟨g, env, st, H0, R, p⟩ => ?_
  refine ⟨g, env, st, H0, R, Pst.bind (show Pst X W σ g H (pF X H) ((ev C ca env st).bind _) Q from p) fun d st1 v g1 H1 n1 r1 p1 => ⟨g1, env, st1, H0, R.next n1, Pst.bind p1 fun e st2 u g2 H2 n2 r2 p2 => ?_⟩⟩
  cases hc : cmpF o d e with
  | none => simp only [hc] at p2; exact p2.elim
  | some k =>
    refine ⟨g2, st2, d, e, k, n2.ok, (r1.nxt n2).vw, r2.vw, hc, k, rfl, ?_⟩
    cases k with
    | false =>
      simp only [hc] at p2
      exact p2.plain n2.ok rfl (.bl false)
    | true =>
      simp only [hc] at p2
      rw [if_pos rfl]
      refine ⟨g2, env, st2, H0, (R.next n1).next n2, Pst.bind p2 fun z st3 w g3 H3 n3 r3 p3 => ?_⟩
      obtain ⟨zz, hz, p3⟩ := p3.lift
      cases hc2 : cmpF o' e z with
      | none => rw [hc2] at hz; cases hz
      | some k2 =>
        rw [hc2] at hz; cases hz
        exact ⟨g3, st3, e, z, k2, n3.ok, (r2.nxt n3).vw, r3.vw, hc2, p3.plain n3.ok rfl (.bl k2)⟩
theorem r_neg (ha : DP X C W a ca) : DE X C W (.UnaryOp .USub a pos) (.neg ca) := by
  refine PE.imp (pe_un un_neg ha) fun σ H Q ⟨g, env, st, H0, R, p⟩ => ?_
  refine ⟨g, env, st, H0, R, Pst.bind (show Pst X W σ g H (pR X) ((ev C ca env st).bind _) Q from p) fun d st1 v g1 H1 n1 r1 p1 => ?_⟩
  cases d <;> first | exact p1.elim | skip
  rename_i i
  exact ⟨i, r1.vw.int, p1.okR n1.ok (.int _)⟩
theorem r_not (ha : DP X C W a ca) : DE X C W (.UnaryOp .Not a pos) (.not ca) := by
  refine PE.imp (pe_notT ha) fun σ H Q ⟨g, env, st, H0, R, p⟩ => ?_
  refine ⟨g, env, st, H0, R, Pst.bind (show Pst X W σ g H (pR X) ((ev C ca env st).bind _) Q from p) fun d st1 v g1 H1 n1 r1 p1 => ?_⟩
  obtain ⟨z, hz, p1⟩ := p1.lift
  cases ht : truth d with
  | none => unfold bnot at hz; rw [ht] at hz; cases hz
  | some k =>
    unfold bnot at hz; rw [ht] at hz; cases hz
    exact ⟨k, tru_of n1.ok r1.vw ht, p1.okR n1.ok (.bl _)⟩
theorem r_and {rest : List Expr} (ha : DE X C W a ca) (hb : DE X C W (.BoolOp .And (b :: rest) pos) cb) : DE X C W (.BoolOp .And (a :: b :: rest) pos) (.and ca cb) := by
  refine PE.imp (pe_andT ha hb) fun σ H Q ⟨g, env, st, H0, R, p⟩ => ?_
  refine ⟨g, env, st, H0, R, Pst.bind (show Pst X W σ g H (pR X) ((ev C ca env st).bind _) Q from p) fun d st1 v g1 H1 n1 r1 p1 => ?_⟩
  cases ht : truth d with
  | none => simp only [ht] at p1; exact p1.elim
  | some k =>
    refine ⟨k, tru_of n1.ok (.inl r1) ht, ?_⟩
    cases k with
    | true =>
      simp only [ht] at p1
      exact ⟨g1, env, st1, H0, R.next n1, p1⟩
    | false =>
      simp only [ht] at p1
      exact p1.okR n1.ok r1
theorem r_or {rest : List Expr} (ha : DE X C W a ca) (hb : DE X C W (.BoolOp .Or (b :: rest) pos) cb) : DE X C W (.BoolOp .Or (a :: b :: rest) pos) (.or ca cb) := by
  refine PE.imp (pe_orT ha hb) fun σ H Q ⟨g, env, st, H0, R, p⟩ => ?_
  refine ⟨g, env, st, H0, R, Pst.bind (show Pst X W σ g H (pR X) ((ev C ca env st).bind _) Q from p) fun d st1 v g1 H1 n1 r1 p1 => ?_⟩
  cases ht : truth d with
  | none => simp only [ht] at p1; exact p1.elim
  | some k =>
    refine ⟨k, tru_of n1.ok (.inl r1) ht, ?_⟩
    cases k with
    | true =>
      simp only [ht] at p1
      exact p1.okR n1.ok r1
    | false =>
      simp only [ht] at p1
      exact ⟨g1, env, st1, H0, R.next n1, p1⟩
theorem r_one {op : BoolOp} (ha : DE X C W a ca) : DE X C W (.BoolOp op [a] pos) ca := pe_one ha
/-! tests -/
def evB (C : Cfg) (c : E) : Ev → Stt → Res Bool := fun env s => (ev C c env s).bind fun x s => lift (truth x) s
def TB (X : Cx) (C : Cfg) (W : L2.WX) (e : Expr) (c : E) : Prop := PT X e (tR X W (fun _ _ (b b' : Bool) => b = b') (evB C c))
theorem t_val (ha : DP X C W a ca) (he : ∀ whole, isTrue a X.env whole = (do let v ← whole; standAt a.pos; holding [v] (truthy v))) : TB X C W a ca := by
  refine PT.imp (pt_truth ha he) fun σ H Q ⟨g, env, st, H0, R, p⟩ => ⟨g, env, st, H0, R, Pst.bind (show Pst X W σ g H _ ((ev C ca env st).bind _) Q from p) fun d st1 v g1 H1 n1 r1 p1 => ?_⟩
  obtain ⟨k, hk, p1⟩ := p1.lift
  exact ⟨k, tru_of n1.ok r1.vw hk, p1.okR n1.ok rfl⟩
theorem evB_not (c : E) (env : Ev) (s : Stt) : evB C (.not c) env s = (evB C c env s).bind fun b s => some (.ok (!b), s) := by
  show ((ev C c env s).bind fun x s => lift (bnot x) s).bind (fun x s => lift (truth x) s) = ((ev C c env s).bind fun x s => lift (truth x) s).bind _
  cases ev C c env s with
  | none => rfl
  | some r =>
    obtain ⟨o, s'⟩ := r
    cases o with
    | ex k v => rfl
    | ok d =>
      show (lift (bnot d) s').bind _ = (lift (truth d) s').bind _
      unfold bnot
      cases truth d <;> rfl
theorem t_not (ha : TB X C W a ca) : TB X C W (.UnaryOp .Not a pos) (.not ca) := by
  refine PT.imp (pt_not ha) fun σ H Q ⟨g, env, st, H0, R, p⟩ => ⟨g, env, st, H0, R, ?_⟩
  rw [evB_not] at p
  exact Pst.bind p fun b st1 b' g1 H1 n1 e p1 => by
    cases e
    exact p1.okR n1.ok rfl
theorem evB_and (c d : E) (env : Ev) (s : Stt) : evB C (.and c d) env s = (evB C c env s).bind fun b s => if b = true then evB C d env s else some (.ok false, s) := by
  show ((ev C c env s).bind fun x s => match truth x with | none => none | some true => ev C d env s | some false => some (.ok x, s)).bind (fun x s => lift (truth x) s) = ((ev C c env s).bind fun x s => lift (truth x) s).bind _
  cases ev C c env s with
  | none => rfl
  | some r =>
    obtain ⟨o, s'⟩ := r
    cases o with
    | ex k v => rfl
    | ok x =>
      show Res.bind (match truth x with | none => none | some true => ev C d env s' | some false => some (.ok x, s')) _ = (lift (truth x) s').bind _
      cases ht : truth x with
      | none => rfl
      | some k =>
        cases k with
        | true => rfl
        | false => show lift (truth x) s' = _; rw [ht]; rfl
theorem evB_or (c d : E) (env : Ev) (s : Stt) : evB C (.or c d) env s = (evB C c env s).bind fun b s => if b = true then some (.ok true, s) else evB C d env s := by
  show ((ev C c env s).bind fun x s => match truth x with | none => none | some true => some (.ok x, s) | some false => ev C d env s).bind (fun x s => lift (truth x) s) = ((ev C c env s).bind fun x s => lift (truth x) s).bind _
  cases ev C c env s with
  | none => rfl
  | some r =>
    obtain ⟨o, s'⟩ := r
    cases o with
    | ex k v => rfl
    | ok x =>
      show Res.bind (match truth x with | none => none | some true => some (.ok x, s') | some false => ev C d env s') _ = (lift (truth x) s').bind _
      cases ht : truth x with
      | none => rfl
      | some k =>
        cases k with
        | false => rfl
        | true => show lift (truth x) s' = _; rw [ht]; rfl
def TW (X : Cx) (C : Cfg) (W : L2.WX) (e : Expr) (c : E) : Prop := PW X e (tR X W (fun _ _ (b b' : Bool) => b = b') (evB C c))
theorem TW.tb (h : TW X C W a ca) : TB X C W a ca := PW.pt h
theorem PW.imp {X : Cx} {e : Expr} {t t' : TT} (h : PW X e t) (i : ∀ σ H Q, t' σ H Q → t σ H Q) : PW X e t' := ⟨fun w pins s σ H Q I q => h.run w pins s σ H Q I (i σ H Q q)⟩
theorem w_and1 (ha : TB X C W a ca) : TW X C W (.BoolOp .And [a] pos) ca := pw_and1 ha
theorem w_or1 (ha : TB X C W a ca) : TW X C W (.BoolOp .Or [a] pos) ca := pw_or1 ha
theorem w_and {rest : List Expr} (ha : TB X C W a ca) (hb : TW X C W (.BoolOp .And (b :: rest) pos) cb) : TW X C W (.BoolOp .And (a :: b :: rest) pos) (.and ca cb) := by
  refine PW.imp (pw_and ha hb) fun σ H Q ⟨g, env, st, H0, R, p⟩ => ⟨g, env, st, H0, R, ?_⟩
  rw [evB_and] at p
  refine Pst.bind p fun k st1 k' g1 H1 n1 e p1 => ?_
  cases e
  cases k with
  | true => exact ⟨g1, env, st1, H0, R.next n1, p1⟩
  | false => exact p1.okR n1.ok rfl
theorem w_or {rest : List Expr} (ha : TB X C W a ca) (hb : TW X C W (.BoolOp .Or (b :: rest) pos) cb) : TW X C W (.BoolOp .Or (a :: b :: rest) pos) (.or ca cb) := by
  refine PW.imp (pw_or ha hb) fun σ H Q ⟨g, env, st, H0, R, p⟩ => ⟨g, env, st, H0, R, ?_⟩
  rw [evB_or] at p
  refine Pst.bind p fun k st1 k' g1 H1 n1 e p1 => ?_
  cases e
  cases k with
  | true => exact p1.okR n1.ok rfl
  | false => exact ⟨g1, env, st1, H0, R.next n1, p1⟩
/-- a comparison's answer is its truth -/
theorem t_cmpE (h : DN X C W a ca) (hb : ∀ {t : TE}, PE X a t → PT X a (tTest t)) (hbl : ∀ env s d s', ev C ca env s = some (.ok d, s') → ∃ k, d = .bl k) : TB X C W a ca := by
  refine PT.imp (hb h) fun σ H Q ⟨g, env, st, H0, R, p⟩ => ⟨g, env, st, H0, R, ?_⟩
  refine Pst.bindR (show Pst X W σ g H _ ((ev C ca env st).bind _) Q from p) fun d st1 v g1 H1 er n1 r1 p1 => ?_
  obtain ⟨k, rfl⟩ := hbl _ _ _ _ er
  rcases r1 with ⟨c, _⟩ | ⟨_, r⟩
  · cases c
  · cases r
    exact ⟨k, rfl, p1.okR n1.ok rfl⟩
theorem t_cmp (hu : X.A.units + 70 < cLine) (o : COp) (ha : DP X C W a ca) (hb : DP X C W b cb) (hm : behindInMarks o.op b = false) : TB X C W (.Compare a [o.op] [b] pos) (.cmp o ca cb) := by
  refine PT.imp (pt_cmpR (cmp_opR hu o) ha hb hm) fun σ H Q ⟨g, env, st, H0, R, p⟩ => ?_
  refine ⟨g, env, st, H0, R, ?_⟩
  have p : Pst X W σ g H (fun _ _ (b b' : Bool) => b = b') (((ev C ca env st).bind fun x s => (ev C cb env s).bind fun y s => match dr s x, dr s y with | some x, some y => lift ((cmpF o x y).map D.bl) s | _, _ => none).bind fun x s => lift (truth x) s) Q := p
  rw [bind_bind] at p
  refine Pst.bind p fun d st1 v g1 H1 n1 r1 p1 => ⟨g1, env, st1, H0, R.next n1, ?_⟩
  rw [bind_bind] at p1
  refine Pst.bind p1 fun e st2 u g2 H2 n2 r2 p2 => ?_
  cases hd1 : dr st2 d with
  | none => simp only [hd1] at p2; exact p2.elim
  | some d' =>
    cases hd : dr st2 e with
    | none => simp only [hd1, hd] at p2; exact p2.elim
    | some e' =>
      simp only [hd1, hd] at p2
      cases hc : cmpF o d' e' with
      | none => rw [hc] at p2; exact p2.elim
      | some k =>
        rw [hc] at p2
        exact ⟨g2, st2, d', e', k, n2.ok, (r1.nxt n2).dr n2.ok hd1, r2.dr n2.ok hd, hc, k, rfl, (show Pst X W σ g2 H2 (fun _ _ (b b' : Bool) => b = b') (some (.ok k, st2)) Q from p2).okR n2.ok rfl⟩
theorem t_cmp2 (hu : X.A.units + 70 < cLine) (o o' : COp) (ha : DP X C W a ca) (hb : DP X C W b cb) (hc : DP X C W c cc) (hm : lastMarks [o.op, o'.op] [b, c] = false) : TB X C W (.Compare a [o.op, o'.op] [b, c] pos) (.cmp2 o o' ca cb cc) := by
  refine PT.imp (pt_chain (cmp_opR hu o) (cmp_opR hu o') ha hb hc hm) fun σ H Q ⟨g, env, st, H0, R, p⟩ => ?_
  refine ⟨g, env, st, H0, R, ?_⟩
  have p : Pst X W σ g H (fun _ _ (b b' : Bool) => b = b') (((ev C ca env st).bind fun x s => (ev C cb env s).bind fun y s => match cmpF o x y with | none => none | some false => some (.ok (.bl false), s) | some true => (ev C cc env s).bind fun z s => lift ((cmpF o' y z).map D.bl) s).bind fun x s => lift (truth x) s) Q := p
  rw [bind_bind] at p
  refine Pst.bind p fun d st1 v g1 H1 n1 r1 p1 => ⟨g1, env, st1, H0, R.next n1, ?_⟩
  rw [bind_bind] at p1
  refine Pst.bind p1 fun e st2 u g2 H2 n2 r2 p2 => ?_
  cases hc : cmpF o d e with
  | none => simp only [hc] at p2; exact p2.elim
  | some k =>
    refine ⟨g2, st2, d, e, k, n2.ok, (r1.nxt n2).vw, r2.vw, hc, k, rfl, ?_⟩
    simp only [hc] at p2
    cases k with
    | false => exact ⟨false, rfl, (show Pst X W σ g2 H2 (fun _ _ (b b' : Bool) => b = b') (some (.ok false, st2)) Q from p2).okR n2.ok rfl⟩
    | true =>
      rw [if_pos rfl]
      refine ⟨g2, env, st2, H0, (R.next n1).next n2, ?_⟩
      have p2 : Pst X W σ g2 H2 (fun _ _ (b b' : Bool) => b = b') (((ev C cc env st2).bind fun z s => lift ((cmpF o' e z).map D.bl) s).bind fun x s => lift (truth x) s) Q := p2
      rw [bind_bind] at p2
      refine Pst.bind p2 fun z st3 w g3 H3 n3 r3 p3 => ?_
      cases hc2 : cmpF o' e z with
      | none => rw [hc2] at p3; exact p3.elim
      | some k2 =>
        rw [hc2] at p3
        exact ⟨g3, st3, e, z, k2, n3.ok, (r2.nxt n3).vw, r3.vw, hc2, k2, rfl, (show Pst X W σ g3 H3 (fun _ _ (b b' : Bool) => b = b') (some (.ok k2, st3)) Q from p3).okR n3.ok rfl⟩
/-- a < b < c < d -/
def tCh3 (r r' r'' : R2) (ta tb tc td : TE) : TE := fun σ H Q => ta σ H fun x H1 => tb σ H1 fun y H2 => r x y H2 fun z H3 => ∃ k, z = .bl k ∧
  (if k = true then tc σ H3 fun u H4 => r' y u H4 fun z' H5 => ∃ k', z' = .bl k' ∧ (if k' = true then td σ H5 fun v H6 => r'' u v H6 Q else Q (.bl false) H5) else Q (.bl false) H3)
theorem pe_ch3 {d : Expr} {op op' op'' : CmpOp} {r r' r'' : R2} {ta tb tc td : TE} (ho : OpR X (compareOp op) r) (ho' : OpR X (compareOp op') r') (ho'' : OpR X (compareOp op'') r'') (ha : PE X a ta) (hb : PE X b tb) (hc : PE X c tc) (hd : PE X d td)
    (hm : lastMarks [op, op', op''] [b, c, d] = false) : PE X (.Compare a [op, op', op''] [b, c, d] pos) (tCh3 r r' r'' ta tb tc td) := by
  refine ⟨fun pins s σ H Q I h => ?_⟩
  refine Compare_chain (thn (ha.run pins s σ H _ I h) fun v s1 ⟨x, H1, I1, r1, q1⟩ => chain_link (thn (hb.run pins s1 σ H1 _ I1 q1) fun u s2 ⟨y, H2, I2, r2, q2⟩ =>
    thn (ho pins s2 σ H2 x y v u _ I2 r1 r2 q2) fun d s3 ⟨z, H3, I3, r3, k, e, q3⟩ => ?_)) hm
  subst e
  cases r3
  refine wpAny_truthy_bool ?_
  cases k with
  | false => exact ite_ff ⟨.bl false, H3, I3, rfl, q3⟩
  | true =>
    refine ite_tt (chain_link (thn (hc.run pins s3 σ H3 _ I3 q3) fun w' s4 ⟨z', H4, I4, r4, q4⟩ => thn (ho' pins s4 σ H4 y z' u w' _ I4 r2 r4 q4) fun d s5 ⟨z5, H5, I5, r5, k, e, q5⟩ => ?_))
    subst e
    cases r5
    refine wpAny_truthy_bool ?_
    cases k with
    | false => exact ite_ff ⟨.bl false, H5, I5, rfl, q5⟩
    | true => exact ite_tt (chain_last (thn (hd.run pins s5 σ H5 _ I5 q5) fun w6 s6 ⟨z6, H6, I6, r6, q6⟩ => ho'' pins s6 σ H6 z' z6 w' w6 Q I6 r4 r6 q6))
theorem pt_ch3 {d : Expr} {op op' op'' : CmpOp} {r r' r'' : R2} {ta tb tc td : TE} (ho : OpR X (compareOp op) r) (ho' : OpR X (compareOp op') r') (ho'' : OpR X (compareOp op'') r'') (ha : PE X a ta) (hb : PE X b tb) (hc : PE X c tc) (hd : PE X d td)
    (hm : lastMarks [op, op', op''] [b, c, d] = false) : PT X (.Compare a [op, op', op''] [b, c, d] pos) (tTest (tCh3 r r' r'' ta tb tc td)) := by
  refine ⟨fun pins s σ H Q I h => ?_⟩
  refine isTrue_chain (thn (ha.run pins s σ H _ I h) fun v s1 ⟨x, H1, I1, r1, q1⟩ => test_link (thn (hb.run pins s1 σ H1 _ I1 q1) fun u s2 ⟨y, H2, I2, r2, q2⟩ =>
    thn (ho pins s2 σ H2 x y v u _ I2 r1 r2 q2) fun d s3 ⟨z, H3, I3, r3, k, e, q3⟩ => ?_)) hm
  subst e
  cases r3
  refine wpAny_truthy_bool ?_
  cases k with
  | false =>
    obtain ⟨k', e', q'⟩ := q3
    cases e'
    exact ite_ff ⟨H3, I3, q'⟩
  | true =>
    refine ite_tt (test_link (thn (hc.run pins s3 σ H3 _ I3 q3) fun w' s4 ⟨z', H4, I4, r4, q4⟩ => thn (ho' pins s4 σ H4 y z' u w' _ I4 r2 r4 q4) fun d s5 ⟨z5, H5, I5, r5, k, e, q5⟩ => ?_))
    subst e
    cases r5
    refine wpAny_truthy_bool ?_
    cases k with
    | false =>
      obtain ⟨k', e', q'⟩ := q5
      cases e'
      exact ite_ff ⟨H5, I5, q'⟩
    | true =>
      refine ite_tt (test_last (thn (hd.run pins s5 σ H5 _ I5 q5) fun w6 s6 ⟨z6, H6, I6, r6, q6⟩ => thn (ho'' pins s6 σ H6 z' z6 w' w6 _ I6 r4 r6 q6) fun d' s7 ⟨z7, H7, I7, r7, k2, e2, q7⟩ => ?_))
      subst e2
      cases r7
      exact wpAny_truthy_bool ⟨H7, I7, q7⟩
/-- .. by the core language: how it goes on is told by K -/
theorem ch3_D {cd : E} {o o' o'' : COp} {σ : L2.St} {g : G} {H H0 H' : Hp} {env : Ev} {st : Stt} {Q : VK} (R : Rel X.wd g env st σ H H0) (k0 : ∀ a, H' a ≠ none → H a ≠ none)
    {β γ : Type} {P : G → Hp → β → γ → Prop} {K : D → Stt → Res β} {Q2 : γ → Hp → Prop} (p : Pst X W σ g H P ((ev C (.cmp3 o o' o'' ca cb cc cd) env st).bind K) Q2)
    (hK : ∀ k g st H, StOk X.wd g st H → Pst X W σ g H P (K (.bl k) st) Q2 → Q (.bl k) H) :
    tCh3 (fun x y H Q => ∃ (g : G) (st : Stt) (d e : D) (z : Bool), StOk X.wd g st H ∧ Vw X.wd g H d x ∧ Vw X.wd g H e y ∧ cmpF o d e = some z ∧ Q (.bl z) H) (fun x y H Q => ∃ (g : G) (st : Stt) (d e : D) (z : Bool), StOk X.wd g st H ∧ Vw X.wd g H d x ∧ Vw X.wd g H e y ∧ cmpF o' d e = some z ∧ Q (.bl z) H)
      (fun x y H Q => ∃ (g : G) (st : Stt) (d e : D) (z : Bool), StOk X.wd g st H ∧ Vw X.wd g H d x ∧ Vw X.wd g H e y ∧ cmpF o'' d e = some z ∧ Q (.bl z) H) (tR X W (pO X) (ev C ca)) (tR X W (pO X) (ev C cb)) (tR X W (pO X) (ev C cc)) (tR X W (pO X) (ev C cd)) σ H Q := by
  have p : Pst X W σ g H P (((ev C ca env st).bind fun x s => (ev C cb env s).bind fun y s => match cmpF o x y with | none => none | some false => some (.ok (.bl false), s) | some true => (ev C cc env s).bind fun z s => match cmpF o' y z with | none => none | some false => some (.ok (.bl false), s) | some true => (ev C cd env s).bind fun w s => lift ((cmpF o'' z w).map D.bl) s).bind K) Q2 := p
  rw [bind_bind] at p
  refine ⟨g, env, st, H0, R, Pst.bind p fun d st1 v g1 H1 n1 r1 p1 => ⟨g1, env, st1, H0, R.next n1, ?_⟩⟩
  rw [bind_bind] at p1
  refine Pst.bind p1 fun e st2 u g2 H2 n2 r2 p2 => ?_
  cases hc : cmpF o d e with
  | none => simp only [hc] at p2; exact p2.elim
  | some k =>
    refine ⟨g2, st2, d, e, k, n2.ok, (r1.nxt n2).vw, r2.vw, hc, k, rfl, ?_⟩
    cases k with
    | false =>
      simp only [hc] at p2
      exact hK false g2 st2 H2 n2.ok p2
    | true =>
      simp only [hc] at p2
      rw [if_pos rfl]
      rw [bind_bind] at p2
      refine ⟨g2, env, st2, H0, (R.next n1).next n2, Pst.bind p2 fun z st3 w g3 H3 n3 r3 p3 => ?_⟩
      cases hc2 : cmpF o' e z with
      | none => simp only [hc2] at p3; exact p3.elim
      | some k2 =>
        refine ⟨g3, st3, e, z, k2, n3.ok, (r2.nxt n3).vw, r3.vw, hc2, k2, rfl, ?_⟩
        cases k2 with
        | false =>
          simp only [hc2] at p3
          exact hK false g3 st3 H3 n3.ok p3
        | true =>
          simp only [hc2] at p3
          rw [if_pos rfl]
          rw [bind_bind] at p3
          refine ⟨g3, env, st3, H0, ((R.next n1).next n2).next n3, Pst.bind p3 fun zz st4 w4 g4 H4 n4 r4 p4 => ?_⟩
          cases hc3 : cmpF o'' z zz with
          | none => rw [hc3] at p4; exact p4.elim
          | some k3 =>
            rw [hc3] at p4
            exact ⟨g4, st4, z, zz, k3, n4.ok, (r3.nxt n4).vw, r4.vw, hc3, hK k3 g4 st4 H4 n4.ok p4⟩
theorem r_cmp3 {d : Expr} {cd : E} (hu : X.A.units + 70 < cLine) (o o' o'' : COp) (ha : DP X C W a ca) (hb : DP X C W b cb) (hc : DP X C W c cc) (hd : DP X C W d cd) (hm : lastMarks [o.op, o'.op, o''.op] [b, c, d] = false) : DN X C W (.Compare a [o.op, o'.op, o''.op] [b, c, d] pos) (.cmp3 o o' o'' ca cb cc cd) := by
  refine PE.imp (pe_ch3 (cmp_opR hu o) (cmp_opR hu o') (cmp_opR hu o'') ha hb hc hd hm) fun σ H Q ⟨g, env, st, H0, R, p⟩ => ?_
  refine ch3_D (P := pF X H) (K := fun d s => some (.ok d, s)) (Q2 := Q) R (fun _ q => q) ?_ fun k g st H' S q => (show Pst X W σ g H' (pF X H) (some (.ok (.bl k), st)) Q from q).plain S rfl (.bl k)
  have : ∀ r : Res D, r.bind (fun d s => some (.ok d, s)) = r := fun r => by
    cases r with
    | none => rfl
    | some r =>
      obtain ⟨o, s⟩ := r
      cases o <;> rfl
  rw [this]
  exact p
theorem t_cmp3 {d : Expr} {cd : E} (hu : X.A.units + 70 < cLine) (o o' o'' : COp) (ha : DP X C W a ca) (hb : DP X C W b cb) (hc : DP X C W c cc) (hd : DP X C W d cd) (hm : lastMarks [o.op, o'.op, o''.op] [b, c, d] = false) : TB X C W (.Compare a [o.op, o'.op, o''.op] [b, c, d] pos) (.cmp3 o o' o'' ca cb cc cd) := by
  refine PT.imp (pt_ch3 (cmp_opR hu o) (cmp_opR hu o') (cmp_opR hu o'') ha hb hc hd hm) fun σ H Q ⟨g, env, st, H0, R, p⟩ => ?_
  exact ch3_D (Q := fun x H' => ∃ k, x = .bl k ∧ Q k H') (P := fun _ _ (b b' : Bool) => b = b') (K := fun x s => lift (truth x) s) (Q2 := Q) R (fun _ q => q) p fun k g st H' S q => ⟨k, rfl, (show Pst X W σ g H' (fun _ _ (b b' : Bool) => b = b') (some (.ok k, st)) Q from q).okR S rfl⟩
theorem evB_ite (c d e : E) (env : Ev) (s : Stt) : ev C (.ite c d e) env s = (evB C c env s).bind fun b s => if b = true then ev C d env s else ev C e env s := by
  show ((ev C c env s).bind fun x s => match truth x with | none => none | some true => ev C d env s | some false => ev C e env s) = ((ev C c env s).bind fun x s => lift (truth x) s).bind _
  cases ev C c env s with
  | none => rfl
  | some r =>
    obtain ⟨o, s'⟩ := r
    cases o with
    | ex k v => rfl
    | ok x =>
      show (match truth x with | none => none | some true => ev C d env s' | some false => ev C e env s') = (lift (truth x) s').bind _
      cases ht : truth x with
      | none => rfl
      | some k => cases k <;> rfl
theorem r_ite (hc : TB X C W c cc) (ha : DE X C W a ca) (hb : DE X C W b cb) : DE X C W (.IfExp c a b pos) (.ite cc ca cb) := by
  refine PE.imp (pe_ifExp hc ha hb) fun σ H Q ⟨g, env, st, H0, R, p⟩ => ⟨g, env, st, H0, R, ?_⟩
  rw [evB_ite] at p
  refine Pst.bind p fun k st1 k' g1 H1 n1 e p1 => ?_
  cases e
  cases k <;> exact ⟨g1, env, st1, H0, R.next n1, p1⟩
/-! displays, arguments -/
def DD (X : Cx) (C : Cfg) (W : L2.WX) (es : List Expr) (cs : List (Bool × E)) : Prop := PA X es (tR X W (pL X) (evD C cs))
theorem d_nil : DD X C W [] [] := PA.imp pa_nil fun σ H Q ⟨g, env, st, H0, R, p⟩ => p.okR R.st .nil
theorem d_cons {es : List Expr} {cs : List (Bool × E)} (ha : DE X C W a ca) (hr : DD X C W es cs) (hs : starEach (a :: es) X.env = (false, eval a X.env) :: starEach es X.env) : DD X C W (a :: es) ((false, ca) :: cs) := by
  refine PA.imp (pa_cons ha hr hs) fun σ H Q ⟨g, env, st, H0, R, p⟩ => ⟨g, env, st, H0, R, ?_⟩
  refine Pst.bind (show Pst X W σ g H (pL X) ((ev C ca env st).bind _) Q from p) fun d st1 v g1 H1 n1 r1 p1 => ⟨g1, env, st1, H0, R.next n1, ?_⟩
  refine Pst.bind (show Pst X W σ g1 H1 (pL X) ((evD C cs env st1).bind _) Q from p1) fun ds st2 vs g2 H2 n2 r2 p2 => ?_
  exact p2.okR n2.ok (.cons (r1.nxt n2) r2)
theorem d_star {es : List Expr} {cs : List (Bool × E)} (ha : DE X C W a ca) (hr : DD X C W es cs) : DD X C W (.Starred a p2 :: es) ((true, ca) :: cs) := by
  refine PA.imp (StX.pa_star ha hr) fun σ H Q ⟨g, env, st, H0, R, p⟩ => ⟨g, env, st, H0, R, ?_⟩
  refine Pst.bind (show Pst X W σ g H (pL X) ((ev C ca env st).bind _) Q from p) fun d st1 v g1 H1 n1 r1 p1 => ?_
  cases d <;> first | exact p1.elim | skip
  · cases r1 with
    | tup hq hr =>
      refine ⟨_, _, rfl, .inl (SqT.sub n1.ok hq), g1, env, st1, H0, R.next n1, ?_⟩
      refine Pst.bind (show Pst X W σ g1 H1 (pL X) ((evD C cs env st1).bind _) Q from p1) fun ds st2 vs g2 H2 n2 r2 p2 => p2.okR n2.ok ((hr.le n2.le).append r2)
  · cases r1 with
    | lst hq hr =>
      refine ⟨_, _, rfl, .inr (SqL.sub n1.ok hq), g1, env, st1, H0, R.next n1, ?_⟩
      refine Pst.bind (show Pst X W σ g1 H1 (pL X) ((evD C cs env st1).bind _) Q from p1) fun ds st2 vs g2 H2 n2 r2 p2 => p2.okR n2.ok ((hr.le n2.le).append r2)
theorem r_tup {es : List Expr} {cs : List (Bool × E)} {k : Nat} (h : DD X C W es cs) : DN X C W (.Tuple es k pos) (.tup cs) := by
  refine PE.imp (pe_tup h) fun σ H Q ⟨g, env, st, H0, R, p⟩ => ⟨g, env, st, H0, R, ?_⟩
  refine Pst.bind (show Pst X W σ g H (pF X H) ((evD C cs env st).bind _) Q from p) fun ds st1 vs g1 H1 n1 r1 p1 => ?_
  by_cases hz : szOk ds.length = true
  · rw [if_pos hz] at p1
    exact ⟨by rw [← r1.length]; exact szOk_le hz, fun p np => (p1.dn n1.keep).tup n1.ok r1 np⟩
  · rw [if_neg hz] at p1; exact p1.elim
theorem r_lst {es : List Expr} {cs : List (Bool × E)} (h : DD X C W es cs) : DN X C W (.List es pos) (.lst cs) := by
  refine PE.imp (pe_lst h) fun σ H Q ⟨g, env, st, H0, R, p⟩ => ⟨g, env, st, H0, R, ?_⟩
  refine Pst.bind (show Pst X W σ g H (pF X H) ((evD C cs env st).bind _) Q from p) fun ds st1 vs g1 H1 n1 r1 p1 => ?_
  by_cases hz : szOk ds.length = true
  · rw [if_pos hz] at p1
    exact ⟨by rw [← r1.length]; exact szOk_le hz, fun p np => (p1.dn n1.keep).lst n1.ok r1 np⟩
  · rw [if_neg hz] at p1; exact p1.elim
theorem a_nil : DA X C W [] [] := PA.imp pa_nil fun σ H Q ⟨g, env, st, H0, R, p⟩ => p.okR R.st .nil
theorem a_cons {es : List Expr} {cs : List E} (ha : DE X C W a ca) (hr : DA X C W es cs) (hs : starEach (a :: es) X.env = (false, eval a X.env) :: starEach es X.env) : DA X C W (a :: es) (ca :: cs) := by
  refine PA.imp (pa_cons ha hr hs) fun σ H Q ⟨g, env, st, H0, R, p⟩ => ⟨g, env, st, H0, R, ?_⟩
  refine Pst.bind (show Pst X W σ g H (pL X) ((ev C ca env st).bind _) Q from p) fun d st1 v g1 H1 n1 r1 p1 => ⟨g1, env, st1, H0, R.next n1, ?_⟩
  refine Pst.bind (show Pst X W σ g1 H1 (pL X) ((evs C cs env st1).bind _) Q from p1) fun ds st2 vs g2 H2 n2 r2 p2 => ?_
  exact p2.okR n2.ok (.cons (r1.nxt n2) r2)
theorem ROL.nxt {B : Wd} {g g1 : G} {H H1 : Hp} {st1 : Stt} (n : Nxt B g H g1 st1 H1) : ∀ {ds : List D} {vs : List V}, ROL B g H ds vs → ROL B g1 H1 ds vs
  | [], [], _ => trivial
  | _ :: _, _ :: _, ⟨a, b⟩ => ⟨a.nxt n, ROL.nxt n b⟩
  | [], _ :: _, h => h.elim
  | _ :: _, [], h => h.elim
/-- arguments that are looked at -/
def DAo (X : Cx) (C : Cfg) (W : L2.WX) (es : List Expr) (cs : List E) : Prop := PA X es (tR X W (pOL X) (evs C cs))
theorem ao_nil : DAo X C W [] [] := PA.imp pa_nil fun σ H Q ⟨g, env, st, H0, R, p⟩ => p.okR R.st trivial
theorem ao_cons {es : List Expr} {cs : List E} (ha : DP X C W a ca) (hr : DAo X C W es cs) (hs : starEach (a :: es) X.env = (false, eval a X.env) :: starEach es X.env) : DAo X C W (a :: es) (ca :: cs) := by
  refine PA.imp (pa_cons ha hr hs) fun σ H Q ⟨g, env, st, H0, R, p⟩ => ⟨g, env, st, H0, R, ?_⟩
  refine Pst.bind (show Pst X W σ g H (pOL X) ((ev C ca env st).bind _) Q from p) fun d st1 v g1 H1 n1 r1 p1 => ⟨g1, env, st1, H0, R.next n1, ?_⟩
  refine Pst.bind (show Pst X W σ g1 H1 (pOL X) ((evs C cs env st1).bind _) Q from p1) fun ds st2 vs g2 H2 n2 r2 p2 => ?_
  exact p2.okR n2.ok ⟨r1.nxt n2, r2⟩
/-! subscripts -/
theorem r_idx (hu : X.A.units + 70 < cLine) (ha : DP X C W a ca) (hb : DP X C W b cb) (hs : PlainIx b) : DE X C W (.Subscript a b pos) (.idx ca cb) := by
  refine PE.imp (pe_ix (ix_D hu) ha hb hs) fun σ H Q ⟨g, env, st, H0, R, p⟩ => ⟨g, env, st, H0, R, ?_⟩
  refine Pst.bind (show Pst X W σ g H (pR X) ((ev C ca env st).bind _) Q from p) fun d st1 v g1 H1 n1 r1 p1 => ⟨g1, env, st1, H0, R.next n1, ?_⟩
  refine Pst.bind (show Pst X W σ g1 H1 (pR X) ((ev C cb env st1).bind _) Q from p1) fun e st2 u g2 H2 n2 r2 p2 => ?_
  cases hd : dr st2 d with
  | none => simp only [hd] at p2; exact p2.elim
  | some d' =>
    simp only [hd] at p2
    obtain ⟨z, hz, p2⟩ := p2.lift
    exact ⟨g2, st2, d', e, z, n2.ok, (r1.nxt n2).dr n2.ok hd, r2.vw, hz, fun v r => p2.okR n2.ok r⟩
/-- a slice's end -/
def DO (X : Cx) (C : Cfg) (W : L2.WX) (e : Option Expr) (c : E) : Prop := PO X e (tR X W (fun _ _ d o => partOf d = some o) (fun env s => (ev C c env s).bind fun y s => match endF c y with | none => none | some y => some (.ok y, s)))
theorem o_none : DO X C W none (.cst .non) := by
  refine ⟨fun pins s σ H Q I ⟨g, env, st, H0, R, p⟩ => po_none.run pins s σ H Q I ?_⟩
  exact (show Pst X W σ g H _ (some (.ok D.non, st)) Q from p).okR R.st (v := none) rfl
def isNoneE : E → Bool
  | .cst .non => true
  | _ => false
theorem endF_int {c : E} {d d' : D} (h : isNoneE c = false) (e : endF c d = some d') : ∃ i, d = .int i ∧ d' = .int i := by
  unfold endF at e
  split at e
  · cases h
  · cases e; exact ⟨_, rfl, rfl⟩
  · cases e
theorem o_some (ha : DP X C W a ca) (h : isNoneE ca = false) : DO X C W (some a) ca := by
  refine ⟨fun pins s σ H Q I ⟨g, env, st, H0, R, p⟩ => (po_some ha).run pins s σ H Q I ?_⟩
  refine ⟨g, env, st, H0, R, Pst.bind p fun d st1 v g1 H1 n1 r1 p1 => ?_⟩
  cases he : endF ca d with
  | none => simp only [he] at p1; exact p1.elim
  | some d' =>
    simp only [he] at p1
    obtain ⟨i, rfl, rfl⟩ := endF_int h he
    exact ⟨i, r1.vw.int, p1.okR n1.ok rfl⟩
theorem r_slc {lo hi : Option Expr} (ha : DP X C W a ca) (hl : DO X C W lo cb) (hh : DO X C W hi cc) : DN X C W (.Subscript a (.Slice lo hi none p2) pos) (.slc ca cb cc) := by
  refine PE.imp (pe_slice sl_D ha hl hh) fun σ H Q ⟨g, env, st, H0, R, p⟩ => ⟨g, env, st, H0, R, ?_⟩
  refine Pst.bind (show Pst X W σ g H (pF X H) ((ev C ca env st).bind _) Q from p) fun d st1 v g1 H1 n1 r1 p1 => ⟨g1, env, st1, H0, R.next n1, ?_⟩
  have e1 : ∀ {β : Type} (c : E) (k : D → Stt → Res β) (st : Stt), ((ev C c env st).bind fun y s => match endF c y with | none => none | some y => k y s) = ((ev C c env st).bind fun y s => match endF c y with | none => none | some y => (some (.ok y, s) : Res D)).bind k := fun c k st => by
    rw [bind_bind]
    congr 1
    funext y s
    cases endF c y <;> rfl
  have p1 : Pst X W σ g1 H1 (pF X H) ((ev C cb env st1).bind fun y s => match endF cb y with | none => none | some y => (ev C cc env s).bind fun z s => match endF cc z with | none => none | some z => lift (slcF d y z) s) Q := p1
  rw [e1] at p1
  refine Pst.bind p1 fun y st2 lo' g2 H2 n2 r2 p2 => ⟨g2, env, st2, H0, (R.next n1).next n2, ?_⟩
  rw [e1] at p2
  refine Pst.bind p2 fun z st3 hi' g3 H3 n3 r3 p3 => ?_
  obtain ⟨zz, hz, p3⟩ := p3.lift
  exact ⟨g3, st3, d, y, z, zz, n3.ok, ((r1.nxt n2).nxt n3).vw, r2, r3, hz, p3.dn fun a q => n3.keep a (n2.keep a (n1.keep a q))⟩
/-! built-ins -/
theorem ROL.drs {B : Wd} {g : G} {H : Hp} {st : Stt} (S : StOk B g st H) : ∀ {ds es : List D} {vs : List V}, ROL B g H ds vs → PyD.drs st ds = some es → VwL B g H es vs
  | [], es, [], _, h => by cases h; trivial
  | d :: ds, es, v :: vs, ⟨r, t⟩, h => by
    have h : (match dr st d, PyD.drs st ds with | some x, some xs => some (x :: xs) | _, _ => none) = some es := h
    cases h1 : dr st d with
    | none => rw [h1] at h; cases h
    | some x =>
      cases h2 : PyD.drs st ds with
      | none => rw [h1, h2] at h; cases h
      | some xs =>
        rw [h1, h2] at h
        cases h
        exact ⟨r.dr S h1, ROL.drs S t h2⟩
  | [], _, _ :: _, r, _ => r.elim
  | _ :: _, _, [], r, _ => r.elim
theorem r_biG {b : BI} {es : List Expr} {cs : List E} {r : List V → Hp → VK → Prop} (hr : r = fun xs H Q => ∃ (g : G) (st : Stt) (ds : List D) (z : D), StOk X.wd g st H ∧ VwL X.wd g H ds xs ∧ biF b ds = some z ∧ Dn X g H st z Q) (ha : DAo X C W es cs) {e : Expr}
    (h : ∀ {t : TA}, PA X es t → PE X e (tCB r t)) : DN X C W e (.bi b cs) := by
  subst hr
  refine PE.imp (h ha) fun σ H Q ⟨g, env, st, H0, R, p⟩ => ⟨g, env, st, H0, R, ?_⟩
  refine Pst.bind (show Pst X W σ g H (pF X H) ((evs C cs env st).bind fun xs s => match drs s xs with | some xs => lift (biF b xs) s | none => none) Q from p) fun ds st1 vs g1 H1 n1 r1 p1 => ?_
  cases hd : drs st1 ds with
  | none => simp only [hd] at p1; exact p1.elim
  | some es =>
    simp only [hd] at p1
    obtain ⟨z, hz, p1⟩ := p1.lift
    exact ⟨g1, st1, es, z, n1.ok, r1.drs n1.ok hd, hz, p1.dn n1.keep⟩
theorem r_biB {b : BI} {id : String} {es : List Expr} {cs : List E} (hu : X.A.units + 70 < cLine) (hc : X.calm = true) (hf : b.fn = .builtin id) (hg : Gl X x) (hm : X.mg x = none) (hv : bootBuiltins x = some (.builtin id)) (hn : x ≠ "__name__") (hdb : (x == ("__debug__" : Str)) = false)
    (ha : DAo X C W (e :: es) cs) (he : starEach (e :: es) X.env = (false, eval e X.env) :: starEach es X.env) (hpl : (backTo pos (starEach es X.env)).any (·.1) = false) : DN X C W (.Call (.Name x p) (e :: es) [] pos) (.bi b cs) := by
  have h := bi_D hu hc b
  rw [hf] at h
  exact r_biG rfl ha fun ht => pe_callB h hg hm hv ht hn hdb he hpl
theorem r_biT {b : BI} {id : String} {es : List Expr} {cs : List E} (hu : X.A.units + 70 < cLine) (hc : X.calm = true) (hf : b.fn = .type id) (hg : Gl X x) (hm : X.mg x = none) (hv : bootBuiltins x = some (.type id)) (hn : x ≠ "__name__") (hdb : (x == ("__debug__" : Str)) = false)
    (ha : DAo X C W (e :: es) cs) (he : starEach (e :: es) X.env = (false, eval e X.env) :: starEach es X.env) (hpl : (backTo pos (starEach es X.env)).any (·.1) = false) : DN X C W (.Call (.Name x p) (e :: es) [] pos) (.bi b cs) := by
  have h := bi_D hu hc b
  rw [hf] at h
  exact r_biG rfl ha fun ht => pe_callTy h hg hm hv ht hn hdb he hpl
theorem r_biM {b : BI} {id : String} {es : List Expr} {cs : List E} (hu : X.A.units + 70 < cLine) (hc : X.calm = true) (hf : b.fn = .builtin id) (hg : Gl X x) (hm : X.mg x = some (.builtin id)) (hdb : (x == ("__debug__" : Str)) = false)
    (ha : DAo X C W (e :: es) cs) (he : starEach (e :: es) X.env = (false, eval e X.env) :: starEach es X.env) (hpl : (backTo pos (starEach es X.env)).any (·.1) = false) : DN X C W (.Call (.Name x p) (e :: es) [] pos) (.bi b cs) := by
  have h := bi_D hu hc b
  rw [hf] at h
  exact r_biG rfl ha fun ht => pe_callBfun h hg hm ht hdb he hpl
end
end
end PyD

/-! PyDI: isinstance, methods, calls. -/
namespace PyD
open PySem PySem.Spec PyProof.Rows L2
section
variable {X : Cx} {C : Cfg} {W : L2.WX} {σ : L2.St} {g g1 : G} {H H1 H2 : Hp} {st st1 : Stt} {env : Ev}
variable {e a b c : Expr} {ca cb cc : E} {p p2 pos apos cpos : Pos} {i : Nat} {x : Str}
/-! isinstance -/
theorem ty_boot : ∀ t : Ty, bootBuiltins (t.nm : String) = some (.type t.nm) := by
  intro t
  cases t <;> exact (by decide +kernel)
theorem r_isi {t : Ty} (hg : Gl X "isinstance") (hm : X.mg "isinstance" = none) (hgt : Gl X (t.nm : String)) (hmt : X.mg (t.nm : String) = none) (ha : DP X C W a ca) (he : starEach [a, .Name (t.nm : String) p2] X.env = (false, eval a X.env) :: starEach [.Name (t.nm : String) p2] X.env) :
    DN X C W (.Call (.Name "isinstance" p) [a, .Name (t.nm : String) p2] [] pos) (.isi t ca) := by
  have hc : CallR X (.builtin "isinstance") (fun xs H Q => ∃ (g : G) (st : Stt) (d : D) (k : Bool) (x : V), xs = [x, .ty t.nm] ∧ StOk X.wd g st H ∧ Vw X.wd g H d x ∧ isiF t d = some k ∧ Q (.bl k) H) := fun pins s σ H xs us Q I r ⟨g, st, d, k, x, e, S, hx, hz, q⟩ => by
    subst e
    exact isi_D I r S hx hz q
  have hb : PE X (.Name (t.nm : String) p2) (tC (.ty t.nm)) := pe_bltn (u := .type t.nm) hgt hmt (ty_boot t) rfl (by cases t <;> decide +kernel) (by cases t <;> decide +kernel)
  refine PE.imp (pe_callB hc hg hm (by decide +kernel) (pa_cons ha (pa_cons hb pa_nil rfl) he) (by decide) (by decide) he rfl) fun σ H Q ⟨g, env, st, H0, R, p⟩ => ⟨g, env, st, H0, R, ?_⟩
  refine Pst.bind (show Pst X W σ g H (pF X H) ((ev C ca env st).bind _) Q from p) fun d st1 v g1 H1 n1 r1 p1 => ?_
  obtain ⟨z, hz, p1⟩ := p1.lift
  cases hk : isiF t d with
  | none => rw [hk] at hz; cases hz
  | some k =>
    rw [hk] at hz; cases hz
    exact ⟨g1, st1, d, k, v, rfl, n1.ok, r1.vw, hk, p1.plain n1.ok rfl (.bl k)⟩
/-! methods that tell -/
theorem okN_mono : ∀ (n : Nat) (d : D), D.okN n d = true → D.okN (n + 1) d = true
  | 0, _, h => by cases h
  | n + 1, d, h => by
    have all : ∀ xs : List D, xs.all (D.okN n) = true → xs.all (D.okN (n + 1)) = true := fun xs h => by
      rw [List.all_eq_true] at h ⊢
      exact fun x hx => okN_mono n x (h x hx)
    cases d with
    | tup xs => exact all xs h
    | lst xs => exact all xs h
    | _ => exact h
theorem mt_index_D (hu : X.A.units + 70 < cLine) : MtR X "list.index" (fun x xs H Q => ∃ (g : G) (st : Stt) (ds : List D) (y z : D), StOk X.wd g st H ∧ Vw X.wd g H (.lst ds) x ∧ VwL X.wd g H [y] xs ∧ mthF .index (.lst ds) [y] = some z ∧ Dn X g H st z Q) := by
  intro pins s σ H x xs v us Q I rx rs ⟨g, st, vs, y, z, S, hx, hy, hz, q⟩
  have hz : (if okD y && okD (.lst vs) then (findI y vs 0).map fun n => D.int n else none) = some z := hz
  split at hz
  · rename_i ho
    obtain ⟨o1, o2⟩ := Bool.and_eq_true_iff.mp ho
    cases hf : findI y vs 0 with
    | none => rw [hf] at hz; cases hz
    | some j =>
      rw [hf] at hz; cases hz
      obtain ⟨i, w, e1, e2, e3, e4⟩ := findI_at (n := 0) hf
      have e1 : j = i := by omega
      subst e1
      have o3 : ∀ w ∈ vs, D.okN 20 w = true := fun w hw => okN_mono 19 w (List.all_eq_true.mp (show vs.all (D.okN 19) = true from o2) w hw)
      cases xs with
      | nil => exact hy.elim
      | cons x2 xs =>
        cases xs with
        | cons _ _ => exact hy.2.elim
        | nil =>
          have dl := hx.dp S o2
          obtain ⟨a, ws, rfl, h1, r1⟩ := hx.lst S
          refine mt_indexD (by omega) pins s σ H (.ref a) [x2] v us Q I rx rs ⟨a, x2, pd y, pds vs, j, pd w, rfl, rfl, dl, hy.1.dp S o1, okD_shaped (d := .lst vs) o2, okD_shaped o1, ?_, ?_, fun m z' hm hz' => ?_, q.int S⟩
          · rw [pds_map, List.getElem?_map, e2]; rfl
          · rw [eqv_pd 20 w y (o3 w (List.mem_of_getElem? e2)) o1]; exact e3
          · rw [pds_map, List.getElem?_map] at hz'
            cases hw : vs[m]? with
            | none => rw [hw] at hz'; cases hz'
            | some w' =>
              rw [hw] at hz'; cases hz'
              rw [eqv_pd 20 w' y (o3 w' (List.mem_of_getElem? hw)) o1]
              exact e4 m w' hm hw
  · cases hz
theorem base_ok {o : Expr} {name : Str} {env : Env} {w : Sem Value} (h : (match o with | .Call _ _ _ _ => false | _ => true) = true) : attributeBase o name env w = w := by
  cases o <;> first | rfl | cases h
theorem r_index (hu : X.A.units + 70 < cLine) (ha : DP X C W a ca) (hb : DP X C W b cb) (hbase : attributeBase a "index" X.env (eval a X.env) = eval a X.env) (hline : (apos.endLine == cpos.line) = true) (hs : starEach [b] X.env = [(false, eval b X.env)]) :
    DN X C W (.Call (.Attribute a "index" apos) [b] [] cpos) (.mth .index ca [cb]) := by
  have hh : (backTo cpos (starEach [b] X.env)).all (fun x => !x.1) = true := by rw [hs]; rfl
  refine PE.imp (pe_bm PySem.F.plainAttrs_list PySem.F.slot_list_index PySem.F.type_list_index (mt_index_D hu) ha (pa_cons hb pa_nil hs) hbase (by rw [hh]; rfl) hline hs rfl) fun σ H Q ⟨g, env, st, H0, R, p⟩ => ⟨g, env, st, H0, R, ?_⟩
  refine Pst.bind (show Pst X W σ g H (pF X H) ((ev C ca env st).bind _) Q from p) fun d st1 v g1 H1 n1 r1 p1 => ?_
  by_cases hm : mthOk .index d = true
  · rw [if_pos hm] at p1
    cases d <;> first | cases hm | skip
    rename_i ds
    obtain ⟨l, vs, el, h1, r2⟩ := r1.vw.lst n1.ok
    subst el
    refine ⟨.inl ⟨rfl, vs, h1⟩, g1, env, st1, H0, R.next n1, ?_⟩
    have p1 : Pst X W σ g1 H1 (pF X H) (((ev C cb env st1).bind fun x s => (some (.ok [x], s) : Res (List D))).bind fun ys s => lift (mthF .index (.lst ds) ys) s) Q := p1
    rw [bind_bind] at p1
    refine Pst.bind p1 fun y st2 w g2 H2 n2 r3 p2 => ?_
    obtain ⟨z, hz, p2⟩ := (show Pst X W σ g2 H2 (pF X H) (lift (mthF .index (.lst ds) [y]) st2) Q from p2).lift
    exact ⟨g2, st2, ds, y, z, n2.ok, (r1.nxt n2).vw, ⟨r3.vw, trivial⟩, hz, p2.dn fun a q => n2.keep a (n1.keep a q)⟩
  · rw [if_neg hm] at p1; exact p1.elim
/-! calls -/
/-- what a def gives back: a value, or something new -/
def pT (B : Wd) (fr : Bool) (H0 : Hp) (g : G) (H : Hp) (d : D) (v : V) : Prop := match fr with
  | false => Rep B g d v
  | true => (canOwn d = true ∧ ∃ a, v = .ref a ∧ H0 a = none ∧ g.F a = none ∧ a ∉ g.ρ ∧ Cont B g H a d) ∨ (canOwn d = false ∧ Rep B g d v)
def PstF (B : Wd) (fr : Bool) (g : G) (H : Hp) (r : Res D) (Q : VK) (E : XK) : Prop := match r with
  | none => False
  | some (.ok d, st') => ∀ v g' H', Nxt B g H g' st' H' → pT B fr H g' H' d v → Q v H'
  | some (.ex c x, st') => ∀ cv dx g' H', Nxt B g H g' st' H' → ExR B g' H' c x cv dx → E cv dx H'
/-- what a def promises -/
def spF (B : Wd) (fr : Bool) (n : Nat) (F : List D → Stt → Res D) : Sp := fun vs H Q E => vs.length = n ∧ ∃ g ds st, StOk B g st H ∧ RepL B g ds vs ∧ PstF B fr g H (F ds st) Q E
theorem Pst.pstF {r : Res D} {Q : VK} {fr : Bool} (h : Pst X W σ g H (fun g' H' => pT X.wd fr H g' H') r Q) : PstF X.wd fr g H r Q (WE W σ) := by
  cases r with
  | none => exact h
  | some r =>
    obtain ⟨o, s⟩ := r
    cases o <;> exact h
def placeG {α : Type} (z : α) (n : Nat) (ps : List Nat) (xs : List α) : List α := (List.range n).map fun i => ((ps.zip xs).lookup i).getD z
theorem place_eq (n : Nat) (ps : List Nat) (xs : List D) : place n ps xs = placeG .non n ps xs := rfl
/-- a def that may be called -/
structure Fk (X : Cx) (k : Nat) (F : List D → Stt → Res D) (f : Str) (n : Nat) (fr : Bool) (kw : List Str → Option (List Nat)) : Prop where
  ln : ∀ xs s, xs.length ≠ n → F xs s = none
  ex : ∃ (a : Addr) (fd : FuncData) (ps : List Str), ps.length = n ∧ X.mg f = some (.ref a) ∧ PySem.W.keepIn X.K (.ref a) = true ∧ FnOk X.prog X.w X.K X.mg X.base (L2.CX X.prog X.w) k a fd ps (spF X.wd fr n F) ∧ Binds X.K fd ps [] ∧
    ∀ ks pl, kw ks = some pl → ks ≠ [] ∧ pl.length = ks.length ∧ ks.length = n ∧ ∀ (s : Shared) (ws : List Value), ws.length = ks.length → BindsTo s fd ⟨[], ks.zip ws⟩ (ps.zip (placeG .none ks.length pl ws))
/-- a result of the kind fr -/
def tF (X : Cx) (W : L2.WX) (fr : Bool) (f : Ev → Stt → Res D) : TE := fun σ H Q => ∃ g env st H0, Rel X.wd g env st σ H H0 ∧ Pst X W σ g H (fun g' H' => pT X.wd fr H g' H') (f env st) Q
def DF (X : Cx) (C : Cfg) (W : L2.WX) (fr : Bool) (e : Expr) (c : E) : Prop := PE X e (tF X W fr (ev C c))
theorem DF.dn (h : DF X C W true e ca) : DN X C W e ca := h
theorem DF.de {fr : Bool} (h : DF X C W fr e ca) : DE X C W e ca := by
  cases fr with
  | true => exact DN.de h
  | false => exact h
/-- a callee's promise, from what its caller wants -/
theorem pT.up {fr : Bool} {H' : Hp} {B : Wd} {d : D} {v : V} (k : ∀ a, H a ≠ none → H1 a ≠ none) (h : pT B fr H1 g H' d v) : pT B fr H g H' d v := by
  cases fr with
  | false => exact h
  | true =>
    rcases h with ⟨c, a, e, h0, r⟩ | h
    · refine .inl ⟨c, a, e, ?_, r⟩
      cases q : H a with
      | none => rfl
      | some o => exact absurd h0 (k a (by rw [q]; simp))
    · exact .inr h
theorem r_call {f : Str} {k n : Nat} {fr : Bool} {kw : List Str → Option (List Nat)} {es : List Expr} {cs : List E} (tk : Takes X W) (hr : Room k X.A) (F : Fk X k (C.fn f) f n fr kw) (hg : Gl X f) (hdb : (f == ("__debug__" : Str)) = false) (ha : DA X C W (e :: es) cs)
    (he : starEach (e :: es) X.env = (false, eval e X.env) :: starEach es X.env) (hpl : (backTo pos (starEach es X.env)).any (·.1) = false) : DF X C W fr (.Call (.Name f p) (e :: es) [] pos) (.call f cs []) := by
  obtain ⟨a, fd, ps, hn, hm, hk, FO, hb, _⟩ := F.ex
  refine PE.imp (pe_callS FO hr hg hm hk hb (E := WE W) (fun σ => passAt tk σ) ha hdb he hpl) fun σ H Q ⟨g, env, st, H0, R, p⟩ => ⟨g, env, st, H0, R, ?_⟩
  refine Pst.bind (show Pst X W σ g H (fun g' H' => pT X.wd fr H g' H') ((evs C cs env st).bind fun xs s => C.fn f xs s) Q from p) fun ds st1 vs g1 H1 n1 r1 p1 => ⟨?_, g1, ds, st1, n1.ok, r1, (p1.mono (fun _ _ _ _ q => pT.up n1.keep q) fun _ _ q => q).pstF⟩
  by_cases hl : ds.length = n
  · rw [← r1.length]; exact hl
  · rw [F.ln _ _ hl] at p1; exact p1.elim
def DK (X : Cx) (C : Cfg) (W : L2.WX) (es : List Keyword) (cs : List E) : Prop := PK X es (tR X W (pL X) (evs C cs))
theorem PK.imp {X : Cx} {e : List Keyword} {t t' : TA} (h : PK X e t) (i : ∀ σ H Q, t' σ H Q → t σ H Q) : PK X e t' := ⟨fun p pins s σ H Q I q => h.run p pins s σ H Q I (i σ H Q q)⟩
theorem k_nil : DK X C W [] [] := PK.imp pk_nil fun σ H Q ⟨g, env, st, H0, R, p⟩ => p.okR R.st .nil
theorem k_cons {nm : Option Str} {es : List Keyword} {cs : List E} (ha : DE X C W a ca) (hr : DK X C W es cs) : DK X C W (⟨nm, a, p⟩ :: es) (ca :: cs) := by
  refine PK.imp (pk_cons ha hr) fun σ H Q ⟨g, env, st, H0, R, p⟩ => ⟨g, env, st, H0, R, ?_⟩
  refine Pst.bind (show Pst X W σ g H (pL X) ((ev C ca env st).bind _) Q from p) fun d st1 v g1 H1 n1 r1 p1 => ⟨g1, env, st1, H0, R.next n1, ?_⟩
  refine Pst.bind (show Pst X W σ g1 H1 (pL X) ((evs C cs env st1).bind _) Q from p1) fun ds st2 vs g2 H2 n2 r2 p2 => ?_
  exact p2.okR n2.ok (.cons (r1.nxt n2) r2)
theorem lookup_zip_rel {B : Wd} {g : G} (i : Nat) : ∀ {ps : List Nat} {ds : List D} {vs : List V}, RepL B g ds vs → Rep B g (((ps.zip ds).lookup i).getD .non) (((ps.zip vs).lookup i).getD .non)
  | [], _, _, _ => .non
  | p :: ps, _, _, .nil => .non
  | p :: ps, d :: ds, v :: vs, .cons r t => by
    rw [List.zip_cons_cons, List.zip_cons_cons, List.lookup_cons, List.lookup_cons]
    cases h : i == p with
    | true => exact r
    | false => exact lookup_zip_rel i t
theorem lookup_zip_val (i : Nat) : ∀ {ps : List Nat} {vs : List V} {us : List Value}, Vals vs us → RelV (((ps.zip vs).lookup i).getD .non) (((ps.zip us).lookup i).getD .none)
  | [], _, _, _ => rfl
  | p :: ps, _, _, .nil => rfl
  | p :: ps, v :: vs, u :: us, .cons r t => by
    rw [List.zip_cons_cons, List.zip_cons_cons, List.lookup_cons, List.lookup_cons]
    cases h : i == p with
    | true => exact r
    | false => exact lookup_zip_val i t
theorem placeG_rel {B : Wd} {g : G} {ds : List D} {vs : List V} (n : Nat) (ps : List Nat) (r : RepL B g ds vs) : RepL B g (placeG .non n ps ds) (placeG .non n ps vs) := by
  unfold placeG
  induction List.range n with
  | nil => exact .nil
  | cons i l ih => exact .cons (lookup_zip_rel i r) ih
theorem placeG_val {vs : List V} {us : List Value} (n : Nat) (ps : List Nat) (r : Vals vs us) : Vals (placeG .non n ps vs) (placeG .none n ps us) := by
  unfold placeG
  induction List.range n with
  | nil => exact .nil
  | cons i l ih => exact .cons (lookup_zip_val i r) ih
theorem placeG_len {α : Type} (z : α) (n : Nat) (ps : List Nat) (xs : List α) : (placeG z n ps xs).length = n := by unfold placeG; simp
theorem evs_len {cs : List E} : ∀ {env : Ev} {s s' : Stt} {xs : List D}, evs C cs env s = some (.ok xs, s') → xs.length = cs.length := by
  induction cs with
  | nil => intro env s s' xs h; cases h; rfl
  | cons c cs ih =>
    intro env s s' xs h
    have h : ((ev C c env s).bind fun x s => (evs C cs env s).bind fun xs s => some (.ok (x :: xs), s)) = some (.ok xs, s') := h
    cases e1 : ev C c env s with
    | none => rw [e1] at h; cases h
    | some r =>
      obtain ⟨o, s1⟩ := r
      cases o with
      | ex k v => rw [e1] at h; cases h
      | ok d =>
        rw [e1] at h
        have h : ((evs C cs env s1).bind fun xs s => (some (.ok (d :: xs), s) : Res (List D))) = some (.ok xs, s') := h
        cases e2 : evs C cs env s1 with
        | none => rw [e2] at h; cases h
        | some r =>
          obtain ⟨o, s2⟩ := r
          cases o with
          | ex k v => rw [e2] at h; cases h
          | ok ds =>
            rw [e2] at h
            cases h
            rw [List.length_cons, List.length_cons, ih e2]
/-- f(k = v, ..) -/
theorem r_callK {f : Str} {k n : Nat} {fr : Bool} {kw : List Str → Option (List Nat)} {es : List Keyword} {cs : List E} {ks : List Str} {pl : List Nat} (tk : Takes X W) (hr : Room k X.A) (F : Fk X k (C.fn f) f n fr kw) (hg : Gl X f) (hdb : (f == ("__debug__" : Str)) = false) (ha : DK X C W es cs)
    (hkw : kw ks = some pl) (hne : pl ≠ []) (hall : (backToKw pos (keywordEach es X.env)).all (·.1.isSome) = true) (hks : (backToKw pos (keywordEach es X.env)).filterMap (·.1) = ks) (hlen : cs.length = ks.length)
    (hpl : ((backTo pos (starEach [] X.env)).any (·.1) || (backToKw pos (keywordEach es X.env)).any (·.1.isNone)) = false) : DF X C W fr (.Call (.Name f p) [] es pos) (.call f cs pl) := by
  obtain ⟨a, fd, ps, hn, hm, hk, FO, _, hb⟩ := F.ex
  obtain ⟨_, h2, h3, hb⟩ := hb ks pl hkw
  refine ⟨fun pins s σ H Q I ⟨g, env, st, H0, R, p⟩ => ?_⟩
  refine wpAny_Call_Name_kw (ld_glob I hg hm ?_ hdb)
  refine PySem.W.callWith_KW0 (h₀ := X.base) I.ok.mod.kin hk hall ?_ hpl
  have hp : (match pl with | [] => (fun xs s => C.fn f xs s : List D → Stt → Res D) | _ => fun xs s => C.fn f (place xs.length pl xs) s) = fun xs s => C.fn f (place xs.length pl xs) s := by
    cases pl with
    | nil => exact (hne rfl).elim
    | cons _ _ => rfl
  have p : Pst X W σ g H (fun g' H' => pT X.wd fr H g' H') ((evs C cs env st).bind fun xs s => C.fn f (place xs.length pl xs) s) Q := by
    cases pl with
    | nil => exact (hne rfl).elim
    | cons _ _ => exact p
  refine thn (ha.run pos pins s σ H (fun vs H1 => ∃ g1 ds st1, StOk X.wd g1 st1 H1 ∧ RepL X.wd g1 ds vs ∧ ds.length = ks.length ∧ Pst X W σ g1 H1 (fun g' H' => pT X.wd fr H1 g' H') (C.fn f (place ds.length pl ds) st1) Q) I ⟨g, env, st, H0, R, Pst.bindR p fun ds st1 vs g1 H1 er n1 r1 p1 => ⟨g1, ds, st1, n1.ok, r1, (evs_len er).trans hlen, p1.mono (fun _ _ _ _ q => pT.up n1.keep q) fun _ _ q => q⟩⟩) fun ws s2 ⟨vs, H2, I2, rz, g1, ds, st1, S, r1, hl, p1⟩ => ⟨I2.kIn, ?_⟩
  rw [hks]
  have rz2 := placeG_val ks.length pl rz
  have hw : ws.length = ks.length := by rw [← rz.length, ← r1.length, hl]
  have hsp : spF X.wd fr n (C.fn f) (placeG .non ks.length pl vs) H2 Q (WE W σ) := ⟨by rw [placeG_len]; exact h3, g1, place ds.length pl ds, st1, S, by rw [hl, place_eq]; exact placeG_rel _ _ r1, p1.pstF⟩
  show wpAny _ _ (call (.ref a) [] (ks.zip ws)) _ _ _
  refine wpAny_call (codeAny_mono (FO.run X.A X.stack s2 H2 ⟨[], ks.zip ws⟩ (placeG .none ks.length pl ws) (placeG .non ks.length pl vs) Q (WE W σ) hr I2.env0 (hb s2 ws hw) rz2 hsp) fun r s' hq => ?_)
  cases r with
  | error e => exact passAt tk σ pins H2 s2 e s' I2 hq
  | ok fl =>
    cases fl with
    | ret u => exact I2.after hq
    | next => exact False.elim hq
    | brk => exact False.elim hq
    | cont => exact False.elim hq
/-- nothing is raised -/
theorem Pst.noEx {α β : Type} {P : G → Hp → α → β → Prop} {r : Res α} {Q : β → Hp → Prop} {W' : L2.WX} (h : Pst X W σ g H P (noEx r) Q) : Pst X W' σ g H P r Q := by
  cases r with
  | none => exact h
  | some r =>
    obtain ⟨o, s⟩ := r
    cases o with
    | ok d => exact h
    | ex c v => exact h.elim
end
end PyD

/-! PyDJ: targets, what is walked, comprehensions. -/
namespace PyD
open PySem PySem.Spec PyProof.Rows L2
theorem slot_put : ∀ {env : Ev} {i j : Nat} {s : Slot}, slot (put env i s) j = if i = j ∧ i < env.length then s else slot env j
  | [], i, j, s => by
    have : ¬ (i = j ∧ i < 0) := fun h => absurd h.2 (Nat.not_lt_zero _)
    rw [show ([] : Ev).length = 0 from rfl, if_neg this]; rfl
  | x :: xs, 0, 0, s => by rw [if_pos ⟨rfl, Nat.zero_lt_succ _⟩]; rfl
  | x :: xs, 0, j + 1, s => by rw [if_neg fun h => by cases h.1]; rfl
  | x :: xs, i + 1, 0, s => by rw [if_neg fun h => by cases h.1]; rfl
  | x :: xs, i + 1, j + 1, s => by
    show slot (put xs i s) j = _
    rw [slot_put (env := xs)]
    by_cases h : i = j ∧ i < xs.length
    · rw [if_pos h, if_pos ⟨by omega, by rw [List.length_cons]; omega⟩]
    · rw [if_neg h, if_neg fun q => h ⟨by omega, by have := q.2; rw [List.length_cons] at this; omega⟩]; rfl
theorem put_length : ∀ (env : Ev) (i : Nat) (s : Slot), (put env i s).length = env.length
  | [], _, _ => rfl
  | _ :: _, 0, _ => rfl
  | x :: xs, i + 1, s => by
    show (put xs i s).length + 1 = xs.length + 1
    rw [put_length xs]
/-- the slots, but for those in E -/
structure EnvX (B : Wd) (g : G) (env : Ev) (σ : L2.St) (H H0 : Hp) (E : Nat → Prop) : Prop where
  len : env.length = σ.length
  at_ : ∀ (i : Nat) (o : Option V), ¬ E i → σ[i]? = some o → SlotOk B g H H0 (slot env i) o
  dis : ∀ (i j : Nat) (d e : D) (a : Addr), slot env i = .own d → slot env j = .own e → σ[i]? = some (some (.ref a)) → σ[j]? = some (some (.ref a)) → i = j
section
variable {B : Wd} {g : G} {env : Ev} {σ : L2.St} {H H0 : Hp} {E : Nat → Prop}
theorem EnvX.ok (h : EnvX B g env σ H H0 E) (n : ∀ i, ¬ E i) : EnvOk B g env σ H H0 := ⟨h.len, fun i o e => h.at_ i o (n i) e, h.dis⟩
theorem EnvOk.x (h : EnvOk B g env σ H H0) : EnvX B g env σ H H0 E := ⟨h.len, fun i o _ e => h.at_ i o e, h.dis⟩
theorem EnvX.imp {E' : Nat → Prop} (h : EnvX B g env σ H H0 E) (k : ∀ i, E i → E' i) : EnvX B g env σ H H0 E' := ⟨h.len, fun i o n e => h.at_ i o (fun z => n (k i z)) e, h.dis⟩
theorem EnvX.put (h : EnvX B g env σ H H0 E) {i : Nat} {d : D} {v : V} (r : Rep B g d v) : EnvX B g (put env i (.val d)) (σ.set i (some v)) H H0 (fun j => E j ∧ j ≠ i) := by
  refine ⟨by rw [put_length, List.length_set]; exact h.len, fun j o n e => ?_, fun j k d1 d2 a e1 e2 e3 e4 => ?_⟩
  · rw [slot_put]
    by_cases c : i = j ∧ i < env.length
    · rw [if_pos c]
      obtain ⟨rfl, c⟩ := c
      rw [List.getElem?_set_self (by rw [← h.len]; exact c)] at e
      cases e
      exact .val r
    · rw [if_neg c]
      by_cases c2 : i = j
      · subst c2
        have : σ.length ≤ i := by
          rw [← h.len]
          exact Nat.le_of_not_lt fun z => c ⟨rfl, z⟩
        rw [List.getElem?_eq_none (by rw [List.length_set]; exact this)] at e
        cases e
      · rw [List.getElem?_set_ne c2] at e
        exact h.at_ j o (fun z => n ⟨z, fun q => c2 q.symm⟩) e
  · rw [slot_put] at e1 e2
    split at e1
    · cases e1
    · split at e2
      · cases e2
      · rename_i c1 c2
        have ne : ∀ {m : Nat} {x : V}, ¬ (i = m ∧ i < env.length) → (σ.set i (some v))[m]? = some (some x) → σ[m]? = some (some x) := fun {m x} c q => by
          by_cases z : i = m
          · subst z
            have : σ.length ≤ i := by
              rw [← h.len]
              exact Nat.le_of_not_lt fun z => c ⟨rfl, z⟩
            rw [List.getElem?_eq_none (by rw [List.length_set]; exact this)] at q
            cases q
          · rwa [List.getElem?_set_ne z] at q
        exact h.dis j k d1 d2 a e1 e2 (ne c1 e3) (ne c2 e4)
theorem EnvX.un (h : EnvX B g env σ H H0 E) (i : Nat) : EnvX B g (PyD.put env i .un) σ H H0 (fun j => E j ∧ j ≠ i) := by
  refine ⟨by rw [put_length]; exact h.len, fun j o n e => ?_, fun j k d1 d2 a e1 e2 e3 e4 => ?_⟩
  · rw [slot_put]
    by_cases c : i = j ∧ i < env.length
    · rw [if_pos c]; exact .un
    · rw [if_neg c]
      by_cases c2 : i = j
      · subst c2
        have : σ.length ≤ i := by
          rw [← h.len]
          exact Nat.le_of_not_lt fun z => c ⟨rfl, z⟩
        rw [List.getElem?_eq_none this] at e
        cases e
      · exact h.at_ j o (fun z => n ⟨z, fun q => c2 q.symm⟩) e
  · rw [slot_put] at e1 e2
    split at e1
    · cases e1
    · split at e2
      · cases e2
      · exact h.dis j k d1 d2 a e1 e2 e3 e4
theorem EnvOk.wiped (h : EnvOk B g env σ H H0) (vs : List Nat) : EnvX B g env (wipe σ vs) H H0 (· ∈ vs) := by
  refine ⟨by rw [wipe_length]; exact h.len, fun i o n e => ?_, fun i j d e a e1 e2 e3 e4 => h.dis i j d e a e1 e2 (wipe_some e3).1 (wipe_some e4).1⟩
  rw [wipe_out n] at e
  exact h.at_ i o e
end
mutual
/-- the slots of a target -/
def tn : Tg → List Nat
  | .nm i => [i]
  | .tup ts => tns ts
def tns : List Tg → List Nat
  | [] => []
  | t :: ts => tn t ++ tns ts
end
mutual
theorem EnvX.wipeT {B : Wd} {g : G} {σ : L2.St} {H H0 : Hp} : ∀ {t : Tg} {env : Ev} {E : Nat → Prop}, EnvX B g env σ H H0 E → EnvX B g (PyD.wipeT t env) σ H H0 (fun j => E j ∧ j ∉ tn t)
  | .nm i, env, E, h => (h.un i).imp fun j q => ⟨q.1, fun z => q.2 (by simpa [tn] using z)⟩
  | .tup ts, env, E, h => EnvX.wipeTs (ts := ts) h
theorem EnvX.wipeTs {B : Wd} {g : G} {σ : L2.St} {H H0 : Hp} : ∀ {ts : List Tg} {env : Ev} {E : Nat → Prop}, EnvX B g env σ H H0 E → EnvX B g (PyD.wipeTs ts env) σ H H0 (fun j => E j ∧ j ∉ tns ts)
  | [], env, E, h => h.imp fun j q => ⟨q, fun z => by cases z⟩
  | t :: ts, env, E, h => (EnvX.wipeTs (ts := ts) (EnvX.wipeT (t := t) h)).imp fun j q => ⟨q.1.1, fun z => by
      rcases List.mem_append.mp (show j ∈ tn t ++ tns ts from z) with z | z
      · exact q.1.2 z
      · exact q.2 z⟩
end
/-- a target's reading -/
def gT (B : Wd) (t : Tg) : TG := fun v σ H Q => ∃ g env st H0 d E env', StOk B g st H ∧ EnvX B g env σ H H0 E ∧ Rep B g d v ∧ bindT t d env = some env' ∧
  ∀ σ', EnvX B g env' σ' H H0 (fun i => E i ∧ i ∉ tn t) → (∀ i, i ∉ tn t → σ'[i]? = σ[i]?) → σ'.length = σ.length → Q σ' H
def gTs (B : Wd) (ts : List Tg) : TGs := fun vs σ H Q => ∃ g env st H0 ds E env', StOk B g st H ∧ EnvX B g env σ H H0 E ∧ RepL B g ds vs ∧ bindTs ts ds env = some env' ∧
  ∀ σ', EnvX B g env' σ' H H0 (fun i => E i ∧ i ∉ tns ts) → (∀ i, i ∉ tns ts → σ'[i]? = σ[i]?) → σ'.length = σ.length → Q σ' H
def DG (X : Cx) (e : Expr) (t : Tg) : Prop := PG X e (gT X.wd t)
def DGs (X : Cx) (es : List Expr) (ts : List Tg) : Prop := PGs X es (gTs X.wd ts)
theorem PG.imp {X : Cx} {e : Expr} {t t' : TG} (h : PG X e t) (i : ∀ v σ H Q, t' v σ H Q → t v σ H Q) : PG X e t' := ⟨fun pins s σ H v u Q I r q => h.run pins s σ H v u Q I r (i v σ H Q q)⟩
theorem PGs.imp {X : Cx} {e : List Expr} {t t' : TGs} (h : PGs X e t) (i : ∀ v σ H Q, t' v σ H Q → t v σ H Q) : PGs X e t' := ⟨fun pins s σ H v u Q I r q => h.run pins s σ H v u Q I r (i v σ H Q q)⟩
section
variable {X : Cx} {C : Cfg} {W : L2.WX} {pos p : Pos}
theorem g_name {i : Nat} {x : Str} (hN : X.N.Nodup) (hi : X.N[i]? = some x) (hx : Loc X.env.scope x) (hf : X.fn x = true ∨ X.env.scope.names.lookup x = some .local) : DG X (.Name x pos) (.nm i) :=
  PG.imp (pg_name hN hi hx hf) fun v σ H Q ⟨g, env, st, H0, d, E, env', S, h1, h2, h3, h4⟩ => by
    cases h3
    exact h4 _ ((h1.put h2).imp fun j q => ⟨q.1, fun z => q.2 (by simpa [tn] using z)⟩) (fun j q => List.getElem?_set_ne fun z => q (by simp [tn, z])) (List.length_set ..)
theorem gs_nil : DGs X [] [] := PGs.imp pgs_nil fun v σ H Q ⟨g, env, st, H0, d, E, env', S, h1, h2, h3, h4⟩ => by
  cases d with
  | nil =>
    cases h2
    cases h3
    exact ⟨rfl, h4 σ (h1.imp fun j q => ⟨q, fun z => by cases z⟩) (fun _ _ => rfl) rfl⟩
  | cons _ _ => cases h3
theorem gs_cons {e : Expr} {es : List Expr} {t : Tg} {ts : List Tg} (h1 : DG X e t) (h2 : DGs X es ts) (hs : (assignEach (e :: es) X.env).map (·.2) = assign e X.env :: (assignEach es X.env).map (·.2)) : DGs X (e :: es) (t :: ts) :=
  PGs.imp (pgs_cons h1 h2 hs) fun v σ H Q ⟨g, env, st, H0, ds, E, env', S, h1, h2, h3, h4⟩ => by
    cases ds with
    | nil => cases h3
    | cons d ds =>
      cases h2 with
      | cons r rr =>
        have h3 : (match bindT t d env with | some env' => bindTs ts ds env' | none => none) = some env' := h3
        cases hb : bindT t d env with
        | none => rw [hb] at h3; cases h3
        | some env1 =>
          rw [hb] at h3
          refine ⟨_, _, rfl, g, env, st, H0, d, E, env1, S, h1, r, hb, fun σ1 k1 k2 k3 => ⟨g, env1, st, H0, ds, _, env', S, k1, rr, h3, fun σ2 m1 m2 m3 => h4 σ2 (m1.imp fun j q => ⟨q.1.1, fun z => ?_⟩) (fun j q => ?_) (m3.trans k3)⟩⟩
          · rcases List.mem_append.mp (show j ∈ tn t ++ tns ts from z) with z | z
            · exact q.1.2 z
            · exact q.2 z
          · rw [m2 j fun z => q (List.mem_append_right _ z), k2 j fun z => q (List.mem_append_left _ z)]
theorem bindTs_len : ∀ {ts : List Tg} {ds : List D} {env env' : Ev}, bindTs ts ds env = some env' → ds.length = ts.length
  | [], [], _, _, _ => rfl
  | [], _ :: _, _, _, h => by cases h
  | _ :: _, [], _, _, h => by cases h
  | t :: ts, d :: ds, env, env', h => by
    have h : (match bindT t d env with | some env' => bindTs ts ds env' | none => none) = some env' := h
    cases hb : bindT t d env with
    | none => rw [hb] at h; cases h
    | some env1 =>
      rw [hb] at h
      rw [List.length_cons, List.length_cons, bindTs_len h]
theorem PG.or {e : Expr} {t u : TG} (h : PG X e t) (k : PG X e u) : PG X e (fun v σ H Q => t v σ H Q ∨ u v σ H Q) := ⟨fun pins s σ H v w Q I r q => by
  rcases q with q | q
  · exact h.run pins s σ H v w Q I r q
  · exact k.run pins s σ H v w Q I r q⟩
theorem g_tup {es : List Expr} {ts : List Tg} {k : Nat} (hc : X.calm = true) (h : DGs X es ts) (hn : (assignEach es X.env).length = ts.length) (hst : (assignEach es X.env).findIdx? (·.1) = none) : DG X (.Tuple es k pos) (.tup ts) :=
  PG.imp (PG.or (pg_tup hc h hn hst) (pg_lst hc h hn hst)) fun v σ H Q ⟨g, env, st, H0, d, E, env', S, h1, h2, h3, h4⟩ => by
    have h3 : (match seqF d with | some ds => bindTs ts ds env | none => none) = some env' := h3
    cases d <;> first | cases h3 | skip
    · cases h2 with
      | tup hq hr => exact .inl ⟨_, _, rfl, SqT.sub S hq, by rw [← hr.length]; exact bindTs_len h3, g, env, st, H0, _, E, env', S, h1, hr, h3, h4⟩
    · cases h2 with
      | lst hq hr => exact .inr ⟨_, _, rfl, SqL.sub S hq, by rw [← hr.length]; exact bindTs_len h3, g, env, st, H0, _, E, env', S, h1, hr, h3, h4⟩
end
/-! ### what is walked -/
/-- J yields ds, so long as what was known is known -/
structure Yl (B : Wd) (J : It) (ds : List D) (g0 : G) (H0 : Hp) : Prop where
  go : ∀ {g : G} {st : Stt} {H : Hp} (i : Nat), Nxt B g0 H0 g st H → i < ds.length → J.go i H ∧ ∀ x H', J.yld i H x H' → ∃ g', Nxt B g H g' st H' ∧ ∀ d, ds[i]? = some d → Rep B g' d x
  stop : ∀ {g : G} {st : Stt} {H : Hp}, Nxt B g0 H0 g st H → J.stop ds.length H
/-- .. so long as what stands for ever stands -/
structure YlF (B : Wd) (J : It) (ds : List D) (g0 : G) : Prop where
  go : ∀ {g : G} {st : Stt} {H : Hp} (i : Nat), Le g0 g → StOk B g st H → i < ds.length → J.go i H ∧ ∀ x H', J.yld i H x H' → ∃ g', Nxt B g H g' st H' ∧ ∀ d, ds[i]? = some d → Rep B g' d x
  stop : ∀ {g : G} {st : Stt} {H : Hp}, Le g0 g → StOk B g st H → J.stop ds.length H
theorem YlF.yl {B : Wd} {J : It} {ds : List D} {g0 : G} {H0 : Hp} (h : YlF B J ds g0) : Yl B J ds g0 H0 := ⟨fun i n => h.go i n.le n.ok, fun n => h.stop n.le n.ok⟩
abbrev pI (X : Cx) : G → Hp → List D → It → Prop := fun g H ds J => Yl X.wd J ds g H
abbrev pIF (X : Cx) : G → Hp → List D → It → Prop := fun g _ ds J => YlF X.wd J ds g
def DI (X : Cx) (C : Cfg) (W : L2.WX) (tg e : Expr) (c : I) : Prop := PI X tg e (tR X W (pI X) (evI C c))
def DIF (X : Cx) (C : Cfg) (W : L2.WX) (tg e : Expr) (c : I) : Prop := PI X tg e (tR X W (pIF X) (evI C c))
theorem PI.imp {X : Cx} {tg e : Expr} {t t' : TI} (h : PI X tg e t) (i : ∀ σ H Q, t' σ H Q → t σ H Q) : PI X tg e t' := ⟨fun pins s σ H Q I q => h.run pins s σ H Q I (i σ H Q q)⟩
section
variable {X : Cx} {C : Cfg} {W : L2.WX} {tg e a b : Expr} {c : I} {ca cb : E} {p pos : Pos}
theorem DIF.di (h : DIF X C W tg e c) : DI X C W tg e c := PI.imp h fun σ H Q ⟨g, env, st, H0, R, p⟩ => ⟨g, env, st, H0, R, p.mono (fun _ _ _ _ r => YlF.yl r) fun _ _ q => q⟩
/-- a list or a tuple -/
theorem pi_seq {te : TE} (h : PE X e te) : PI X tg e (fun σ H R => te σ H fun x H1 => ∃ a, x = .ref a ∧ (((∃ xs, SqL X.K H1 a xs) ∧ R (Itl X.K a) H1) ∨ ((∃ xs, SqT X.K H1 a xs) ∧ R (Itt X.K a) H1))) := by
  refine ⟨fun pins s σ H R I hw => ?_⟩
  refine thn (h.run pins s σ H _ I hw) fun v s1 ⟨x, H1, I1, r1, a, e, q1⟩ => ?_
  subst e
  cases r1
  rcases q1 with ⟨⟨xs, hq⟩, q⟩ | ⟨⟨xs, hq⟩, q⟩
  · obtain ⟨its, rv, pl, hz⟩ := I1.list hq
    refine wpAny_pyIter_list pl.isList ?_
    refine ⟨s1.heap.objs.size, [s1.heap.objs.size], _, _, H1, rfl, I1.kept (t' := s1.toks) fun b o e => Heap.get?_push_of_some _ e, turn_list a _, ⟨_, Heap.get?_push_size _ rfl, rfl, rfl⟩, fun b hb => ?_, q⟩
    have e : b = s1.heap.objs.size := by simpa using hb
    subst e
    exact I1.fpOk (Nat.le_refl _) (I1.hok.fresh (Nat.le_refl _))
  · obtain ⟨its, rv, pl, hz⟩ := I1.tuple hq
    refine wpAny_pyIter_tuple (show s1.heap.IsTuple a its.toArray from pl) ?_
    refine ⟨s1.heap.objs.size, [s1.heap.objs.size], _, _, H1, rfl, I1.kept (t' := s1.toks) fun b o e => Heap.get?_push_of_some _ e, turn_tuple a _, ⟨_, Heap.get?_push_size _ rfl, rfl, rfl⟩, fun b hb => ?_, q⟩
    have e : b = s1.heap.objs.size := by simpa using hb
    subst e
    exact I1.fpOk (Nat.le_refl _) (I1.hok.fresh (Nat.le_refl _))
theorem RepL.at {B : Wd} {g : G} {ds : List D} {vs : List V} (r : RepL B g ds vs) {i : Nat} (h : i < ds.length) : ∃ v, vs[i]? = some v ∧ ∀ d, ds[i]? = some d → Rep B g d v := by
  have hl := r.length
  refine ⟨vs[i]'(by omega), List.getElem?_eq_getElem _, fun d e => ?_⟩
  obtain ⟨v, h1, h2⟩ := r.get (n := i) (d := d) (by rw [getS_eq]; exact e)
  rw [List.getElem?_eq_getElem (by omega)] at h1
  cases h1
  exact h2
/-- a list's items: wherever it is still that list -/
theorem yl_lst {B : Wd} {a : Addr} {ds : List D} {vs : List V} {g0 : G} {H0 : Hp} (r : RepL B g0 ds vs) (h : ∀ {g st H}, Nxt B g0 H0 g st H → SqL B.K H a vs) : Yl B (Itl B.K a) ds g0 H0 where
  go := fun {g st H} i n hi => by
    obtain ⟨v, h1, h2⟩ := r.at hi
    refine ⟨⟨vs, v, h n, h1⟩, fun x H' ⟨e, q⟩ => ?_⟩
    subst e
    have := q vs (h n)
    rw [h1] at this; cases this
    exact ⟨g, .refl n.ok, fun d e => (h2 d e).le n.le⟩
  stop := fun n => ⟨vs, h n, by rw [r.length]; exact Nat.le_refl _⟩
theorem ylF_lst {B : Wd} {a : Addr} {ds : List D} {vs : List V} {g0 : G} (r : RepL B g0 ds vs) (h : SqL B.K g0.F a vs) : YlF B (Itl B.K a) ds g0 where
  go := fun {g st H} i n S hi => by
    obtain ⟨v, h1, h2⟩ := r.at hi
    have hq : SqL B.K H a vs := SqL.sub S (SqL.le n h)
    refine ⟨⟨vs, v, hq, h1⟩, fun x H' ⟨e, q⟩ => ?_⟩
    subst e
    have := q vs hq
    rw [h1] at this; cases this
    exact ⟨g, .refl S, fun d e => (h2 d e).le n⟩
  stop := fun n S => ⟨vs, SqL.sub S (SqL.le n h), by rw [r.length]; exact Nat.le_refl _⟩
theorem ylF_tup {B : Wd} {a : Addr} {ds : List D} {vs : List V} {g0 : G} (r : RepL B g0 ds vs) (h : SqT B.K g0.F a vs) : YlF B (Itt B.K a) ds g0 where
  go := fun {g st H} i n S hi => by
    obtain ⟨v, h1, h2⟩ := r.at hi
    have hq : SqT B.K H a vs := SqT.sub S (SqT.le n h)
    refine ⟨⟨vs, v, hq, h1⟩, fun x H' ⟨e, q⟩ => ?_⟩
    subst e
    have := q vs hq
    rw [h1] at this; cases this
    exact ⟨g, .refl S, fun d e => (h2 d e).le n⟩
  stop := fun n S => ⟨vs, SqT.sub S (SqT.le n h), by rw [r.length]; exact Nat.le_refl _⟩
theorem i_seqF (ha : DE X C W e ca) : DIF X C W tg e (.seq ca) := PI.imp (pi_seq ha) fun σ H R' ⟨g, env, st, H0, R, p⟩ => ⟨g, env, st, H0, R, Pst.bind (show Pst X W σ g H (pIF X) ((ev C ca env st).bind _) R' from p) fun d st1 v g1 H1 n1 r1 p1 => by
  obtain ⟨ds, hd, p1⟩ := p1.lift
  cases d <;> first | cases hd | skip
  · cases r1 with
    | tup hq hr => exact ⟨_, rfl, .inr ⟨⟨_, SqT.sub n1.ok hq⟩, p1.okR n1.ok (ylF_tup hr hq)⟩⟩
  · cases r1 with
    | lst hq hr => exact ⟨_, rfl, .inl ⟨⟨_, SqL.sub n1.ok hq⟩, p1.okR n1.ok (ylF_lst hr hq)⟩⟩⟩
theorem i_seq (ha : DP X C W e ca) : DI X C W tg e (.seq ca) := PI.imp (pi_seq ha) fun σ H R' ⟨g, env, st, H0, R, p⟩ => ⟨g, env, st, H0, R, Pst.bind (show Pst X W σ g H (pI X) ((ev C ca env st).bind _) R' from p) fun d st1 v g1 H1 n1 r1 p1 => by
  obtain ⟨ds, hd, p1⟩ := p1.lift
  cases d <;> first | cases hd | skip
  · rcases r1 with r1 | ⟨_, _, _, _, c⟩
    · cases r1 with
      | tup hq hr => exact ⟨_, rfl, .inr ⟨⟨_, SqT.sub n1.ok hq⟩, p1.okR n1.ok (YlF.yl (ylF_tup hr hq))⟩⟩
    · exact c.elim
  · rcases r1 with r1 | ⟨a, rfl, h1, h2, vs, h3, h4⟩
    · cases r1 with
      | lst hq hr => exact ⟨_, rfl, .inl ⟨⟨_, SqL.sub n1.ok hq⟩, p1.okR n1.ok (YlF.yl (ylF_lst hr hq))⟩⟩
    · exact ⟨_, rfl, .inl ⟨⟨_, .inl (.inl h3)⟩, p1.okR n1.ok (yl_lst h4 fun n => .inl (.inl (n.fr _ _ h3 h2)))⟩⟩⟩
theorem upTo_at : ∀ (n : Nat) (lo : Int) (i : Nat), i < n → (upTo lo n)[i]? = some (.int (lo + i))
  | 0, _, _, h => absurd h (Nat.not_lt_zero _)
  | n + 1, lo, 0, _ => by
    show some (D.int lo) = _
    rw [show lo + ((0 : Nat) : Int) = lo by omega]
  | n + 1, lo, i + 1, h => by
    show (upTo (lo + 1) n)[i]? = _
    rw [upTo_at n (lo + 1) i (by omega)]
    have : lo + 1 + (i : Int) = lo + ((i + 1 : Nat) : Int) := by omega
    rw [this]
theorem upTo_len : ∀ (n : Nat) (lo : Int), (upTo lo n).length = n
  | 0, _ => rfl
  | n + 1, lo => by
    show (upTo (lo + 1) n).length + 1 = n + 1
    rw [upTo_len n]
theorem ylF_rng {B : Wd} (lo : Int) (n : Nat) {g0 : G} : YlF B (Itr lo n) (upTo lo n) g0 where
  go := fun {g st H} i l S hi => by
    rw [upTo_len] at hi
    refine ⟨hi, fun x H' ⟨e, q⟩ => ?_⟩
    subst e q
    refine ⟨g, .refl S, fun d e => ?_⟩
    rw [upTo_at n lo i hi] at e
    cases e
    exact .int _
  stop := fun l S => by rw [upTo_len]; exact Nat.le_refl _
theorem i_rng1 (hg : Gl X "range") (hm : X.mg "range" = none) (ha : DA X C W [a] [ca]) (hs : starEach [a] X.env = [(false, eval a X.env)]) : DIF X C W tg (.Call (.Name "range" p) [a] [] pos) (.rng [ca]) := PI.imp (pi_range1 hg hm ha hs) fun σ H R' ⟨g, env, st, H0, R, p⟩ =>
  ⟨g, env, st, H0, R, Pst.bindR (show Pst X W σ g H (pIF X) ((evs C [ca] env st).bind _) R' from p) fun ds st1 vs g1 H1 er n1 r1 p1 => by
    have hl := evs_len er
    obtain ⟨xs, hd, p1⟩ := p1.lift
    unfold rngF at hd
    split at hd
    · split at hd
      · rename_i j hj
        obtain ⟨j1, j2⟩ := Bool.and_eq_true_iff.mp hj
        have j1 := of_decide_eq_true j1
        have j2 := of_decide_eq_true j2
        unfold big at j1 j2
        cases hd
        cases r1 with
        | cons r t =>
          cases r
          cases t
          exact ⟨j, rfl, by omega, by omega, p1.okR n1.ok (ylF_rng 0 _)⟩
      · cases hd
    · cases hl
    · cases hd⟩
theorem i_rng2 (hg : Gl X "range") (hm : X.mg "range" = none) (ha : DA X C W [a, b] [ca, cb]) (hs : starEach [a, b] X.env = [(false, eval a X.env), (false, eval b X.env)]) (hs2 : starEach [b] X.env = [(false, eval b X.env)]) : DIF X C W tg (.Call (.Name "range" p) [a, b] [] pos) (.rng [ca, cb]) := PI.imp (pi_range2 hg hm ha hs hs2) fun σ H R' ⟨g, env, st, H0, R, p⟩ =>
  ⟨g, env, st, H0, R, Pst.bindR (show Pst X W σ g H (pIF X) ((evs C [ca, cb] env st).bind _) R' from p) fun ds st1 vs g1 H1 er n1 r1 p1 => by
    have hl := evs_len er
    obtain ⟨xs, hd, p1⟩ := p1.lift
    unfold rngF at hd
    split at hd
    · cases hl
    · split at hd
      · rename_i i j hj
        obtain ⟨h1, h2⟩ := Bool.and_eq_true_iff.mp hj
        obtain ⟨i1, i2⟩ := Bool.and_eq_true_iff.mp h1
        obtain ⟨j1, j2⟩ := Bool.and_eq_true_iff.mp h2
        have i1 := of_decide_eq_true i1
        have i2 := of_decide_eq_true i2
        have j1 := of_decide_eq_true j1
        have j2 := of_decide_eq_true j2
        unfold big at i1 i2 j1 j2
        cases hd
        cases r1 with
        | cons r t =>
          cases r
          cases t with
          | cons r t =>
            cases r
            cases t
            exact ⟨i, j, rfl, ⟨by omega, by omega, by omega, by omega⟩, p1.okR n1.ok (ylF_rng i _)⟩
      · cases hd
    · cases hd⟩
end
/-! ### comprehensions -/
theorem wipe_at {σ : L2.St} {vs : List Nat} (i : Nat) : (wipe σ vs)[i]? = if i ∈ vs then (if i < σ.length then some none else none) else σ[i]? := by
  by_cases h : i ∈ vs
  · rw [if_pos h]
    by_cases l : i < σ.length
    · rw [if_pos l]
      induction vs with
      | nil => cases h
      | cons v vs ih =>
        show ((wipe σ vs).set v none)[i]? = _
        by_cases e : v = i
        · subst e
          rw [List.getElem?_set_self (by rw [wipe_length]; exact l)]
        · rw [List.getElem?_set_ne e]
          exact ih ((List.mem_cons.mp h).resolve_left fun z => e z.symm)
    · rw [if_neg l, List.getElem?_eq_none (by rw [wipe_length]; omega)]
  · rw [if_neg h, wipe_out h]
theorem wipe_ext {σ σ' : L2.St} {vs : List Nat} (h : ∀ i, i ∉ vs → σ'[i]? = (wipe σ vs)[i]?) (hl : σ'.length = (wipe σ vs).length) : wipe σ' vs = wipe σ vs := by
  refine List.ext_getElem? fun i => ?_
  rw [wipe_at, wipe_at]
  by_cases m : i ∈ vs
  · rw [if_pos m, if_pos m, hl, wipe_length]
  · rw [if_neg m, if_neg m, h i m, wipe_out m]
def W0 : L2.WX := fun _ _ _ _ => False
def DTs (X : Cx) (C : Cfg) (W : L2.WX) (es : List Expr) (cs : List E) : Prop := PTs X es (tR X W (fun _ _ (b b' : Bool) => b = b') (evT C cs))
theorem evT_one {C : Cfg} (c : E) (env : Ev) (s : Stt) : evT C [c] env s = evB C c env s := by
  show ((ev C c env s).bind fun x s => match truth x with | none => none | some true => (some (.ok true, s) : Res Bool) | some false => some (.ok false, s)) = (ev C c env s).bind fun x s => lift (truth x) s
  congr 1
  funext x s
  cases truth x with
  | none => rfl
  | some k => cases k <;> rfl
theorem PTs.imp {X : Cx} {e : List Expr} {t t' : TT} (h : PTs X e t) (i : ∀ σ H Q, t' σ H Q → t σ H Q) : PTs X e t' := ⟨fun pins s σ H Q I q => h.run pins s σ H Q I (i σ H Q q)⟩
section
variable {X : Cx} {C : Cfg} {W : L2.WX} {tg e elt iter : Expr} {it : I} {ce : E} {p pos : Pos} {t : Tg} {cs : List E}
theorem ts_nil : DTs X C W [] [] := PTs.imp pts_nil fun σ H Q ⟨g, env, st, H0, R, p⟩ => p.okR R.st rfl
theorem ts_one (h : TB X C W e ce) : DTs X C W [e] [ce] := PTs.imp (pts_one h) fun σ H Q ⟨g, env, st, H0, R, p⟩ => ⟨g, env, st, H0, R, by rw [evT_one] at p; exact p⟩
theorem loopC_nil {α : Type} (step : D → Stt → Res (Option α)) (acc : List α) (s : Stt) : loopC step [] acc s = if szOk acc.length then some (.ok acc, s) else none := rfl
/-- a turn of a clause: the item stored, the tests, what is put in; then the rest -/
def stepC {α : Type} (C : Cfg) (t : Tg) (cs : List E) (put : Ev → Stt → Res α) (env : Ev) (d : D) (s : Stt) : Res (Option α) := match bindT t d env with
  | none => none
  | some env => (evT C cs env s).bind fun b s => match b with
    | false => some (.ok none, s)
    | true => (put env s).bind fun x s => some (.ok (some x), s)
theorem loopC_len {α : Type} {step : D → Stt → Res (Option α)} : ∀ {ds : List D} {acc ys : List α} {s s' : Stt}, loopC step ds acc s = some (.ok ys, s') → acc.length ≤ ys.length ∧ szOk ys.length = true
  | [], acc, ys, s, s', h => by
    rw [loopC_nil] at h
    split at h
    · rename_i hz
      cases h
      exact ⟨Nat.le_refl _, hz⟩
    · cases h
  | d :: ds, acc, ys, s, s', h => by
    have h : ((step d s).bind fun o s => match o with | none => loopC step ds acc s | some x => loopC step ds (acc ++ [x]) s) = some (.ok ys, s') := h
    cases e : step d s with
    | none => rw [e] at h; cases h
    | some r =>
      obtain ⟨o, s1⟩ := r
      cases o with
      | ex k v => rw [e] at h; cases h
      | ok o =>
        rw [e] at h
        cases o with
        | none => exact loopC_len (ds := ds) h
        | some x =>
          obtain ⟨a, b⟩ := loopC_len (ds := ds) (acc := acc ++ [x]) h
          rw [List.length_append] at a
          exact ⟨by omega, b⟩
end
end PyD

/-! PyDK: list comprehensions. -/
namespace PyD
open PySem PySem.Spec PyProof.Rows L2
section
variable {X : Cx} {C : Cfg} {W : L2.WX} {σ : L2.St} {g g1 : G} {H H1 : Hp}
theorem Pst.bindN {W' : L2.WX} {σ' : L2.St} {g2 : G} {H2 : Hp} {st2 : Stt} {α β γ δ : Type} {P : G → Hp → α → β → Prop} {P2 : G → Hp → γ → δ → Prop} {r : Res α} {f : α → Stt → Res γ} {Q : δ → Hp → Prop} {Q1 : β → Hp → Prop}
    (h : Pst X W σ g H P2 (PyD.noEx (r.bind f)) Q) (n : Nxt X.wd g H g2 st2 H2)
    (k : ∀ d st1 v g3 H3, r = some (.ok d, st1) → Nxt X.wd g2 H2 g3 st1 H3 → P g3 H3 d v → Pst X W σ g H P2 (PyD.noEx (f d st1)) Q → Q1 v H3) : Pst X W' σ' g2 H2 P r Q1 := by
  cases r with
  | none => exact h
  | some r =>
    obtain ⟨o, st'⟩ := r
    cases o with
    | ok d => exact fun v g' H' n' p => k d st' v g' H' rfl n' p h
    | ex c x => exact h.elim
theorem Pst.isOk {α β : Type} {P : G → Hp → α → β → Prop} {r : Res α} {Q : β → Hp → Prop} (h : Pst X W σ g H P (PyD.noEx r) Q) : ∃ d s, r = some (.ok d, s) := by
  cases r with
  | none => exact h.elim
  | some r =>
    obtain ⟨o, s⟩ := r
    cases o with
    | ok d => exact ⟨d, s, rfl⟩
    | ex c v => exact h.elim
theorem Res.bind_ok {α β : Type} {r : Res α} {f : α → Stt → Res β} {d : β} {s : Stt} (h : r.bind f = some (.ok d, s)) : ∃ x s1, r = some (.ok x, s1) ∧ f x s1 = some (.ok d, s) := by
  cases r with
  | none => cases h
  | some r =>
    obtain ⟨o, s1⟩ := r
    cases o with
    | ok x => exact ⟨x, s1, rfl, h⟩
    | ex c v => cases h
/-- a new list that fills: what it holds, beside the rest -/
structure Acc (B : Wd) (g : G) (H : Hp) (A : Addr) (acc : List D) : Prop where
  nF : g.F A = none
  nr : A ∉ g.ρ
  at_ : ∃ vs, H A = some (.lst vs) ∧ RepL B g acc vs
theorem Acc.nxt {B : Wd} {st1 : Stt} {A : Addr} {acc : List D} (n : Nxt B g H g1 st1 H1) (a : Acc B g H A acc) : Acc B g1 H1 A acc := by
  obtain ⟨vs, h1, h2⟩ := a.at_
  refine ⟨?_, fun m => ?_, vs, n.fr A _ h1 a.nr, h2.le n.le⟩
  · cases e : g1.F A with
    | none => rfl
    | some o =>
      rcases n.new A (by rw [e]; simp) with q | q
      · exact absurd a.nF q
      · rw [h1] at q; cases q
  · rcases n.cnew A m with q | q
    · exact a.nr q
    · rw [h1] at q; cases q
/-- an item put in -/
theorem Acc.put {B : Wd} {st : Stt} {A : Addr} {acc : List D} {d : D} {v : V} (S : StOk B g st H) (a : Acc B g H A acc) (r : Rep B g d v) : ∃ vs, H A = some (.lst vs) ∧ vs.length = acc.length ∧ StOk B g st (upd H A (.lst (vs ++ [v]))) ∧ Acc B g (upd H A (.lst (vs ++ [v]))) A (acc ++ [d]) := by
  obtain ⟨vs, h1, h2⟩ := a.at_
  refine ⟨vs, h1, h2.length.symm, ⟨fun b o e => ?_, S.len, S.nd, fun n b d e1 e2 => ?_⟩, a.nF, a.nr, _, upd_same, h2.append (.cons r .nil)⟩
  · rw [upd_ne (fun z => by rw [z, a.nF] at e; cases e)]
    exact S.sub b o e
  · obtain ⟨c1, c2⟩ := S.cel n b d e1 e2
    refine ⟨c1, c2.le (.refl g) fun o e => ?_⟩
    rw [upd_ne (fun z : b = A => a.nr (z ▸ List.mem_of_getElem? e1))]
    exact e
/-- .. seen from where the list was not yet -/
theorem Nxt.acc {B : Wd} {g0 g : G} {H0 H : Hp} {st : Stt} {A : Addr} {o : HO} (n : Nxt B g0 H0 g st H) (h0 : H0 A = none) (S : StOk B g st (upd H A o)) : Nxt B g0 H0 g st (upd H A o) :=
  ⟨n.le, n.new, n.cnew, fun b u e m => by rw [upd_ne (ne_of_none e h0)]; exact n.fr b u e m, fun b e => by
    by_cases z : b = A
    · subst z; rw [upd_same]; simp
    · rw [upd_ne z]; exact n.keep b e, S⟩
end
section
variable {X : Cx} {C : Cfg} {W : L2.WX} {tg elt iter tg' iter' : Expr} {it it' : I} {ce : E} {pos : Pos} {t t' : Tg} {cs cs' : List E} {ifs ifs' : List Expr} {scope : Scope} {own : List (Str × Nat)}
/-- one turn of a clause -/
theorem turn_C {σ σ0 : L2.St} {g0 g : G} {H00 H H0 : Hp} {st : Stt} {env : Ev} {d : D} {x : V} {E : Nat → Prop} {α : Type} {P2 : G → Hp → D → V → Prop} {f : Option α → Stt → Res D} {Q : VK} {put : Ev → Stt → Res α}
    {goOn skip : L2.St → Hp → Prop} (n : Nxt X.wd g0 H00 g st H) (R : EnvX X.wd g env σ0 H H0 E) (r : Rep X.wd g d x) (p : Pst X W σ g0 H00 P2 (noEx ((stepC C t cs put env d st).bind f)) Q) (hE : ∀ i, E i → i ∈ tn t)
    (hgo : ∀ σ2 env2 g2 st2 H2, Rel X.wd g2 env2 st2 σ2 H2 H0 → Nxt X.wd g H g2 st2 H2 → bindT t d env = some env2 → Pst X W σ g0 H00 P2 (noEx ((put env2 st2).bind fun x s => f (some x) s)) Q → goOn σ2 H2)
    (hsk : ∀ σ2 g2 st2 H2, Nxt X.wd g H g2 st2 H2 → Pst X W σ g0 H00 P2 (noEx (f none st2)) Q → skip σ2 H2) :
    gT X.wd t x σ0 H fun σ2 H2 => (∀ i, i ∉ tn t → σ2[i]? = σ0[i]?) ∧ σ2.length = σ0.length ∧ tR X W0 (fun _ _ (b b' : Bool) => b = b') (evT C cs) σ2 H2 fun b H3 => if b = true then goOn σ2 H3 else skip σ2 H3 := by
  cases hb : bindT t d env with
  | none => unfold stepC at p; rw [hb] at p; exact p.elim
  | some env2 =>
    unfold stepC at p
    rw [hb] at p
    refine ⟨g, env, st, H0, d, E, env2, n.ok, R, r, hb, fun σ2 k1 k2 k3 => ⟨k2, k3, ?_⟩⟩
    have ok : EnvOk X.wd g env2 σ2 H H0 := k1.ok fun i q => q.2 (hE i q.1)
    simp only [bind_bind] at p
    refine ⟨g, env2, st, H0, ⟨n.ok, ok⟩, Pst.bindN p n fun b st3 b' g3 H3 er n3 e p3 => ?_⟩
    cases e
    cases b with
    | false => exact hsk σ2 g3 st3 H3 n3 p3
    | true =>
      refine hgo σ2 env2 g3 st3 H3 (Rel.next ⟨n.ok, ok⟩ n3) n3 hb ?_
      simp only [bind_bind] at p3
      exact p3
theorem wipe_idem (σ : L2.St) (vs : List Nat) : wipe (wipe σ vs) vs = wipe σ vs := by
  refine List.ext_getElem? fun i => ?_
  rw [wipe_at, wipe_at, wipe_length]
  by_cases m : i ∈ vs
  · rw [if_pos m, if_pos m]
  · rw [if_neg m, if_neg m]
theorem loopC_cons {α : Type} (step : D → Stt → Res (Option α)) (d : D) (ds : List D) (acc : List α) (s : Stt) :
    loopC step (d :: ds) acc s = (step d s).bind fun o s => loopC step ds (match o with | none => acc | some x => acc ++ [x]) s := by
  show ((step d s).bind fun o s => match o with | none => loopC step ds acc s | some x => loopC step ds (acc ++ [x]) s) = _
  congr 1
  funext o s
  cases o <;> rfl
theorem lc_logic (hown : own.map (·.2) = tn t) {σ : L2.St} {H : Hp} {Q : VK} (h : tN X W (ev C (.comp ce t it cs)) σ H Q) :
    tLc (tR X W (pI X) (evI C it)) (gT X.wd t) (tR X W0 (fun _ _ (b b' : Bool) => b = b') (evT C cs)) (tR X W0 (pR X) (ev C ce)) (own.map (·.2)) σ H Q := by
  obtain ⟨g, env, st, H0, R, p⟩ := h
  refine ⟨g, env, st, H0, R, Pst.bind (show Pst X W σ g H (pF X H) ((evI C it env st).bind fun xs s => noEx ((loopC (stepC C t cs (ev C ce) env) xs [] s).bind fun ys s => some (.ok (.lst ys), s))) Q from p) fun ds st1 J g1 H1 n1 y p1 => ?_⟩
  intro A hA
  have kp : ∀ a, H a ≠ none → H1 a ≠ none := n1.keep
  have N1 : Nxt X.wd g1 H1 g1 st1 (upd H1 A (.lst [])) := Nxt.own n1.ok hA
  rw [hown]
  refine ⟨fun i m H' => m = ds.length - i ∧ i ≤ ds.length ∧ ∃ g' st' acc, Nxt X.wd g1 H1 g' st' H' ∧ Acc X.wd g' H' A acc ∧ Pst X W σ g1 H1 (pF X H) (noEx ((loopC (stepC C t cs (ev C ce) env) (ds.drop i) acc st').bind fun ys s => some (.ok (.lst ys), s))) Q,
    ⟨_, rfl, Nat.zero_le _, g1, st1, [], N1, ⟨n1.ok.nF hA, n1.ok.fresh hA, [], upd_same, .nil⟩, p1⟩, ?_⟩
  rintro i m H2 ⟨rfl, hi, g2, st2, acc, n2, ac, p2⟩
  by_cases hlt : i < ds.length
  · right
    obtain ⟨hgo, hy⟩ := y.go i n2 hlt
    refine ⟨hgo, fun H' => ∃ g' st' acc, Nxt X.wd g1 H1 g' st' H' ∧ Acc X.wd g' H' A acc ∧ Pst X W σ g1 H1 (pF X H) (noEx ((loopC (stepC C t cs (ev C ce) env) (ds.drop (i + 1)) acc st').bind fun ys s => some (.ok (.lst ys), s))) Q,
      fun H' q => ⟨ds.length - (i + 1), by omega, rfl, hlt, q⟩, fun x H3 hx => ?_⟩
    obtain ⟨g3, n3, r3⟩ := hy x H3 hx
    have r3 := r3 _ (List.getElem?_eq_getElem hlt)
    rw [List.drop_eq_getElem_cons hlt, loopC_cons, bind_bind] at p2
    have R3 : EnvOk X.wd g3 env σ H3 H0 := ((R.next n1).next (n2.trans n3)).env
    obtain ⟨g', env', st', H0', d', E', env2', a1, a2, a3, a4, a5⟩ := turn_C (x := x)
      (goOn := fun σ2 H4 => tR X W0 (pR X) (ev C ce) σ2 H4 fun z H5 => ∃ vs, H5 A = some (.lst vs) ∧ vs.length < sizeLine ∧ ∃ g' st' acc, Nxt X.wd g1 H1 g' st' (upd H5 A (.lst (vs ++ [z]))) ∧ Acc X.wd g' (upd H5 A (.lst (vs ++ [z]))) A acc ∧ Pst X W σ g1 H1 (pF X H) (noEx ((loopC (stepC C t cs (ev C ce) env) (ds.drop (i + 1)) acc st').bind fun ys s => some (.ok (.lst ys), s))) Q)
      (skip := fun σ2 H4 => ∃ g' st' acc, Nxt X.wd g1 H1 g' st' H4 ∧ Acc X.wd g' H4 A acc ∧ Pst X W σ g1 H1 (pF X H) (noEx ((loopC (stepC C t cs (ev C ce) env) (ds.drop (i + 1)) acc st').bind fun ys s => some (.ok (.lst ys), s))) Q)
      (n2.trans n3) (R3.wiped (tn t)) r3 p2 (fun i h => h)
      (fun σ2 env2 g4 st4 H4 R4 n4 _ p4 => by
        refine ⟨g4, env2, st4, H0, R4, ?_⟩
        refine Pst.bindN p4 (n2.trans (n3.trans n4)) fun z st5 v g5 H5 er n5 r5 p5 => ?_
        have ac5 := ((ac.nxt n3).nxt n4).nxt n5
        obtain ⟨vs, h1, h2, S5, ac6⟩ := ac5.put n5.ok r5
        have N5 := (n2.trans (n3.trans (n4.trans n5))).acc hA S5
        obtain ⟨dd, ss, ed⟩ := Pst.isOk p5
        obtain ⟨ys, s6, e6, _⟩ := Res.bind_ok ed
        have hl := loopC_len e6
        have hl1 : acc.length + 1 ≤ ys.length := by
          have := hl.1
          rw [List.length_append] at this
          exact this
        have := szOk_le hl.2
        exact ⟨vs, h1, by rw [h2]; omega, g5, st5, acc ++ [z], N5, ac6, p5⟩)
      (fun σ2 g4 st4 H4 n4 p4 => ⟨g4, st4, acc, n2.trans (n3.trans n4), (ac.nxt n3).nxt n4, p4⟩)
    refine ⟨g', env', st', H0', d', E', env2', a1, a2, a3, a4, fun σ2 b1 b2 b3 => ?_⟩
    obtain ⟨c1, c2, c3⟩ := a5 σ2 b1 b2 b3
    exact ⟨wipe_ext c1 c2, c3⟩
  · left
    have e : i = ds.length := by omega
    subst e
    refine ⟨y.stop n2, ?_⟩
    rw [List.drop_length, loopC_nil] at p2
    split at p2
    · obtain ⟨vs, h1, h2⟩ := ac.at_
      refine (show Pst X W σ g1 H1 (pF X H) (some (.ok (.lst acc), st2)) Q from p2) (.ref A) g2 H2 n2 (.inl ⟨rfl, A, rfl, ?_, ac.nF, ac.nr, vs, h1, h2⟩)
      cases q : H A with
      | none => rfl
      | some o => exact absurd hA (kp A (by rw [q]; simp))
    · exact p2.elim
theorem r_comp (hc : X.calm = true) (hN : X.N.Nodup) (hi : DI X C W tg iter it) (ok : BlkOk X.N X.env.scope scope own) (hown : own.map (·.2) = tn t)
    (hg : ∀ (s : Shared) (H : Hp) (A : Addr) (cl : List (Str × Addr)) (fp : List Addr), DG (X.blk s H scope (compEnvC scope cl A X.env) fp) tg t) (ht : ∀ (s : Shared) (H : Hp) (A : Addr) (cl : List (Str × Addr)) (fp : List Addr), DTs (X.blk s H scope (compEnvC scope cl A X.env) fp) C W0 ifs cs)
    (he : ∀ (s : Shared) (H : Hp) (A : Addr) (cl : List (Str × Addr)) (fp : List Addr), DE (X.blk s H scope (compEnvC scope cl A X.env) fp) C W0 elt ce) (hs : ∀ x, foldedSetIterable iter X.env x = pure x) :
    DN X C W (.ListComp elt [⟨tg, iter, ifs, 0⟩] scope pos) (.comp ce t it cs) :=
  PE.imp (pe_lc (g := gT X.wd t) (tt := tR X W0 (fun _ _ (b b' : Bool) => b = b') (evT C cs)) (te := tR X W0 (pR X) (ev C ce)) hc hN hi ok hg ht he hs) fun σ H Q h => lc_logic hown h
end
end PyD

/-! PyDL: enumerate, zip, list(range()), dict comprehensions, comprehensions of two clauses. -/
namespace PySem
open Sem (wp)
set_option maxHeartbeats 1000000 in
theorem PyDmeets_enum {v : Value} {o : Obj} {H : Heap → Prop} (B : Begins v o H) :
    Meets (Builtin.«enumerate.__new__» ⟨[.type "enumerate", v], []⟩) (fun _ R s => H s.heap ∧
      R (.ok (.ret (.ref (s.heap.push o).objs.size))) { s with heap := (s.heap.push o).push { cls := .type "enumerate", data := .fields #[.none, .bool false, .ref s.heap.objs.size, rawInt 0, .none, .none] } }) :=
  .of_wp fun prog w A R s h => by
    obtain ⟨hp, gg, dd, tk, oss⟩ := s
    obtain ⟨h1, h⟩ := h
    have hsub := sub_enumerate
    have q1 : ∀ {A' : Around} {E : Value → Shared → Prop} {Q : Value → Shared → Prop}, Q (.ref hp.objs.size) ⟨hp.push o, gg, dd, tk, oss⟩ → wpAny (model prog w) A' (pyIter v) Q E ⟨hp, gg, dd, tk, oss⟩ :=
      fun q => B.iter prog w _ _ ⟨hp, gg, dd, tk, oss⟩ _ h1 q
    wp_walk using q1
    refine wpAny_stack_any fun st => wpAny_pure ?_
    split
    · rename_i c _ _ _ _ _
      cases (c == Value.type "enumerate") <;> (wp_walk using q1; exact ⟨_, rfl, h⟩)
    · wp_walk using q1
      exact ⟨_, rfl, h⟩
theorem PyDcall_enum {prog : Program} {w : World} {A : Around} {E : Value → Shared → Prop} {s : Shared} {v : Value} {o : Obj} {H : Heap → Prop} {Q : Value → Shared → Prop} (B : Begins v o H) (h1 : H s.heap)
    (h : ∀ h', IsEnum h' (s.heap.objs.size + 1) s.heap.objs.size 0 .none → h'.get? s.heap.objs.size = some o → h'.objs.size = s.heap.objs.size + 2 → (∀ b o, s.heap.get? b = some o → h'.get? b = some o) → Q (.ref (s.heap.objs.size + 1)) { s with heap := h' }) :
    wpAny (model prog w) A (call (.type "enumerate") [v]) Q E s := by
  refine callType_new F.called_enumerate (by decide) (F.typeCall_enumerate_1 _) (F.newCall_enumerate_1 _) (fun obj => F.args_object_init_2 obj _) F.entry_enumerate_new (PyDmeets_enum B) ⟨h1, ?_⟩
  have hz : (s.heap.push o).objs.size = s.heap.objs.size + 1 := Heap.size_push ..
  show _ ∧ _
  rw [hz]
  have he : IsEnum ((s.heap.push o).push { cls := .type "enumerate", data := .fields #[.none, .bool false, .ref s.heap.objs.size, rawInt 0, .none, .none] }) (s.heap.objs.size + 1) s.heap.objs.size 0 .none := by
    have q := Heap.get?_push_size (s.heap.push o) (o := { cls := .type "enumerate", data := .fields #[.none, .bool false, .ref s.heap.objs.size, rawInt 0, .none, .none] }) rfl
    rw [hz] at q
    exact q
  exact ⟨⟨_, he, rfl⟩, h _ he (Heap.get?_push_of_some _ (Heap.get?_push_size _ B.free)) (by rw [Heap.size_push, hz]) fun b o x => Heap.get?_push_of_some _ (Heap.get?_push_of_some _ x)⟩
end PySem
namespace PyD
open PySem PySem.Spec PyProof.Rows L2
/-- the tuple at a, each item in a new pair with its number -/
def IteT (K : PySem.W.Frag) (a : Addr) : It :=
  ⟨fun i H => ∃ (xs : List V) (x : V), SqT K H a xs ∧ xs[i]? = some x, fun i H v H' => ∃ T x, v = .ref T ∧ H T = none ∧ H' = upd H T (.tup [.int (i : Nat), x]) ∧ ∀ xs, SqT K H a xs → xs[i]? = some x, fun i H => ∃ xs : List V, SqT K H a xs ∧ xs.length ≤ i⟩
theorem turn_enumT {P : Program} {w : World} {K : PySem.W.Frag} {elts : List Expr} {kk : Nat} {tpos : Pos} (a e it : Addr) :
    Turn P w K (.Tuple elts kk tpos) (IteT K a) [e, it] e (fun i h => (∃ old, IsEnum h e it ((i : Nat) : Int) old) ∧ h.IsTupleIter it a i ∧ e ≠ it) where
  mem := by simp
  obj := fun i h st b hb => by
    obtain ⟨⟨old, he⟩, ⟨o, ho, _, hd⟩, _⟩ := st
    have e' : b = e ∨ b = it := by simpa using hb
    rcases e' with z | z
    · rw [z]
      exact ⟨_, he, fun v q => nomatch q⟩
    · rw [z]
      exact ⟨o, ho, fun v q => by rw [hd] at q; cases q⟩
  keep := fun i h h' ⟨⟨old, he⟩, hi, hne⟩ k => ⟨⟨old, k e (by simp) _ he⟩, hi.at fun o q => k it (by simp) o q, hne⟩
  item := by
    intro X hP hw hK hc i pins s σ H E I hf st hg
    subst hP hw hK
    obtain ⟨⟨old, he⟩, hit, hne⟩ := st
    obtain ⟨xs, x, hq, hx⟩ := hg
    obtain ⟨its, rv, pt, hz⟩ := I.tuple hq
    obtain ⟨u, hu, ru⟩ := rv.get hx
    have hel : e < s.heap.objs.size := Heap.lt_size he
    have hil : it < s.heap.objs.size := by
      obtain ⟨_, q, _⟩ := hit
      exact Heap.lt_size q
    obtain ⟨ot, hot, hct, _⟩ := id pt
    have ai : a ≠ it := fun z => by
      obtain ⟨o2, q2, c2, _⟩ := id hit
      rw [z, q2] at hot
      cases hot
      rw [hct] at c2
      injection c2 with q
      exact absurd q (by decide)
    have ae : e ≠ a := fun z => by
      have he2 := he
      rw [z] at he2
      have he3 : s.heap.get? a = some _ := he2
      rw [he3] at hot
      cases hot
      injection hct with q
      exact absurd q (by decide)
    have D := Draws.tuple (prog := X.prog) (w := X.w) (A := X.A.in1) (I.ok.hd hc) it a ai its.toArray
    have hlt : i < its.toArray.size := by
      obtain ⟨q, _⟩ := List.getElem?_eq_some_iff.mp hu
      simpa using q
    refine wpAny_pyNext_enum_itemD D he ⟨hit, pt⟩ hlt hne (by simp [hne, ae]) fun x' h' tk hx' ho hst' hT hsz hk => ?_
    have ex : x' = u := by
      rw [show its.toArray[i]? = some u by simpa using hu] at hx'
      cases hx'; rfl
    subst ex
    refine ⟨_, rfl, wpAny_letOwnedTupleGo_enum (s := { s with heap := h', toks := tk + 1 }) ho fun h'' he' sb => ?_⟩
    have hT2 : h''.get? s.heap.objs.size = some { cls := .type "tuple", data := .seq #[.int i tk, x'] } := (sb.2 _ (Nat.ne_of_gt hel)).trans hT
    have new : ObjOk X.prog X.w (upd H s.heap.objs.size (.tup [.int (i : Nat), x])) h'' s.heap.objs.size (.tup [.int (i : Nat), x]) :=
      ⟨by show 2 ≤ sizeLine; decide, [.int i tk, x'], .cons ⟨_, rfl⟩ (.cons ru .nil), ⟨_, hT2, rfl, _, rfl⟩⟩
    have I1 : Inv X pins σ (upd H s.heap.objs.size (.tup [.int (i : Nat), x])) { s with heap := h'', toks := tk + 1 } :=
      I.turnedNew (ch := [e, it]) (fun b ob hb q => (sb.2 b (fun z => hb (by simp [z]))).trans (hk b ob (fun z => hb (by simp [z])) (fun z => hb (by simp [z])) q)) hf (Nat.le_refl _) new
    refine ⟨.ref s.heap.objs.size, _, I1, rfl, ⟨_, x, rfl, I.hok.fresh (Nat.le_refl _), rfl, fun ys hy => by rw [I.tuple_inj hy hq]; exact hx⟩, ⟨⟨x', ?_⟩, hst'.1.at fun o q => (sb.2 it (Ne.symm hne)).trans q, hne⟩, fun b hb => ?_⟩
    · have e1 : ((i + 1 : Nat) : Int) = (i : Int) + 1 := by omega
      rw [e1]
      exact he'
    · have hb' : b < s.heap.objs.size := by
        have e' : b = e ∨ b = it := by simpa using hb
        rcases e' with z | z <;> rw [z] <;> assumption
      rw [upd_ne (Nat.ne_of_lt hb')]
      exact (hf b hb).1
  done := by
    intro X hP hw hK hc i pins s σ H E I hf st hg
    subst hP hw hK
    obtain ⟨⟨old, he⟩, hit, hne⟩ := st
    obtain ⟨xs, hq, hx⟩ := hg
    obtain ⟨its, rv, pt, hz⟩ := I.tuple hq
    obtain ⟨f0, f1, f2, f3, f4, f5⟩ := hf it (by simp)
    have hl := rv.length
    have hT : s.TypeIs (.ref e) "enumerate" := ⟨_, he, rfl⟩
    unfold pyNext
    refine wpAny_bind (wpAny_attempt (wpAny_callSpecial?_slot (name := Str.ofString "__next__") hT F.slot_enumerate_next
      (wpAny_call_entry F.slot_enumerate_next hT F.entry_enumerate_next ?_ (F.args_enumerate_next_1 _))))
    show wpAny _ _ (field (.ref e) 2 >>= _) _ _ _
    refine wpAny_bind (wpAny_field he rfl (x := .ref it) rfl ?_)
    refine wpAny_bind (wpAny_nextOf_tuple_end (I.ok.hd hc) hit (show s.heap.IsTuple a its.toArray from pt) (by simp; omega) fun h' x he' hx' => ?_)
    obtain ⟨o, ho, hcl⟩ := hx'
    refine wpAny_bind (wpAny_isInstance (T := "StopIteration") (b := true) ⟨o, ho, hcl⟩ isSubtype_stop ?_)
    exact wpAny_pure ⟨rfl, I.turned (t' := s.toks) (fun b o hb q => he' b o hb q) f0 f1 f3 f4 f5⟩
  self := fun A i s Q E ⟨⟨_, he⟩, _⟩ h => wpAny_pyIter_enum he h
theorem pi_enumT {X : Cx} {e : Expr} {ta : TA} {p pos tpos : Pos} {elts : List Expr} {kk : Nat} (hg : Gl X "enumerate") (hm : X.mg "enumerate" = none) (ha : PA X [e] ta) (hs : starEach [e] X.env = [(false, eval e X.env)]) :
    PI X (.Tuple elts kk tpos) (.Call (.Name "enumerate" p) [e] [] pos) (fun σ H R => ta σ H fun vs H1 => ∃ a xs, vs = [.ref a] ∧ ((SqL X.K H1 a xs ∧ R (Ite X.K a) H1) ∨ (SqT X.K H1 a xs ∧ R (IteT X.K a) H1))) := by
  refine ⟨fun pins s σ H R I h => ?_⟩
  refine Call_ (ld_blt I hg hm boot_enumerate (PyProof.Rows.callWith_type1 (thn (ha.run pos pins s σ H _ I h) fun us s1 ⟨vs, H1, I1, r1, q1⟩ => ?_) hs rfl))
  obtain ⟨a, xs, ex, q⟩ := q1
  subst ex
  cases r1 with
  | cons r rr =>
    cases rr
    cases r
    have fp : ∀ b ∈ [s1.heap.objs.size + 1, s1.heap.objs.size], FpOk X pins H1 b := fun b hb => by
      have e' : b = s1.heap.objs.size + 1 ∨ b = s1.heap.objs.size := by simpa using hb
      have hle : s1.heap.objs.size ≤ b := by omega
      exact I1.fpOk hle (I1.hok.fresh hle)
    rcases q with ⟨hq, q⟩ | ⟨hq, q⟩
    · obtain ⟨its, rv, p', hz⟩ := I1.list hq
      refine call_enumerate_list p'.isList fun h' he hit hsz hk => wpAny_pyIter_enum he ?_
      exact ⟨s1.heap.objs.size + 1, [s1.heap.objs.size + 1, s1.heap.objs.size], _, _, H1, rfl, I1.kept (t' := s1.toks) hk, turn_enum a (s1.heap.objs.size + 1) s1.heap.objs.size, ⟨⟨.none, he⟩, hit, Nat.succ_ne_self _⟩, fp, q⟩
    · obtain ⟨its, rv, p', hz⟩ := I1.tuple hq
      refine PyDcall_enum (begins_tuple a its.toArray) p' fun h' he hit hsz hk => wpAny_pyIter_enum he ?_
      exact ⟨s1.heap.objs.size + 1, [s1.heap.objs.size + 1, s1.heap.objs.size], _, _, H1, rfl, I1.kept (t' := s1.toks) hk, turn_enumT a (s1.heap.objs.size + 1) s1.heap.objs.size, ⟨⟨.none, he⟩, ⟨_, hit, rfl, rfl⟩, Nat.succ_ne_self _⟩, fp, q⟩

theorem number_at : ∀ (xs : List D) (n i : Nat), (number n xs)[i]? = xs[i]?.map fun x => D.tup [.int ((n + i : Nat) : Int), x]
  | [], _, _ => by simp [number]
  | x :: xs, n, 0 => rfl
  | x :: xs, n, i + 1 => by
    show (number (n + 1) xs)[i]? = _
    rw [number_at xs (n + 1) i, List.getElem?_cons_succ, show n + 1 + i = n + (i + 1) by omega]
theorem number_len : ∀ (xs : List D) (n : Nat), (number n xs).length = xs.length
  | [], _ => rfl
  | _ :: xs, n => congrArg Nat.succ (number_len xs (n + 1))
section
variable {X : Cx} {C : Cfg} {W : L2.WX} {tg e a b : Expr} {c : I} {ca cb : E} {p pos : Pos} {g : G} {H : Hp} {st : Stt}
/-- a new pair that stands for ever -/
theorem pair_new {B : Wd} {g : G} {H : Hp} {st : Stt} {T : Addr} {d1 d2 : D} {v1 v2 : V} (S : StOk B g st H) (h : H T = none) (r1 : Rep B g d1 v1) (r2 : Rep B g d2 v2) : ∃ g', Nxt B g H g' st (upd H T (.tup [v1, v2])) ∧ Rep B g' (.tup [d1, d2]) (.ref T) := by
  refine ⟨g.add T (.tup [v1, v2]), .add S h, .tup (.inl (.inl ?_)) (.cons (r1.le (.add (S.nF h))) (.cons (r2.le (.add (S.nF h))) .nil))⟩
  show upd g.F T _ T = _
  rw [upd_same]
theorem yl_enum {B : Wd} {J : It} {ds : List D} {vs : List V} {g0 : G} {H0 : Hp} (r : RepL B g0 ds vs) {ok : Hp → Prop} (hk : ∀ {g st H}, Nxt B g0 H0 g st H → ok H)
    (go : ∀ {H i v}, ok H → vs[i]? = some v → J.go i H) (yl : ∀ {H i x H'}, ok H → J.yld i H x H' → ∃ T v, x = .ref T ∧ H T = none ∧ H' = upd H T (.tup [.int (i : Nat), v]) ∧ vs[i]? = some v) (stop : ∀ {H}, ok H → J.stop vs.length H) : Yl B J (number 0 ds) g0 H0 where
  go := fun {g st H} i n hi => by
    rw [number_len] at hi
    obtain ⟨v, h1, h2⟩ := r.at hi
    refine ⟨go (hk n) h1, fun x H' y => ?_⟩
    obtain ⟨T, v', rfl, hT, rfl, hv⟩ := yl (hk n) y
    rw [h1] at hv; cases hv
    obtain ⟨g', n', r'⟩ := pair_new n.ok hT (.int (i : Nat)) ((h2 _ (List.getElem?_eq_getElem hi)).le n.le)
    refine ⟨g', n', fun d e => ?_⟩
    rw [number_at, List.getElem?_eq_getElem hi] at e
    cases e
    rw [Nat.zero_add]
    exact r'
  stop := fun n => by
    rw [number_len, r.length]
    exact stop (hk n)
theorem ylF_enum {B : Wd} {J : It} {ds : List D} {vs : List V} {g0 : G} (r : RepL B g0 ds vs) {ok : Hp → Prop} (hk : ∀ {g st H}, Le g0 g → StOk B g st H → ok H)
    (go : ∀ {H i v}, ok H → vs[i]? = some v → J.go i H) (yl : ∀ {H i x H'}, ok H → J.yld i H x H' → ∃ T v, x = .ref T ∧ H T = none ∧ H' = upd H T (.tup [.int (i : Nat), v]) ∧ vs[i]? = some v) (stop : ∀ {H}, ok H → J.stop vs.length H) : YlF B J (number 0 ds) g0 where
  go := fun {g st H} i n S hi => by
    rw [number_len] at hi
    obtain ⟨v, h1, h2⟩ := r.at hi
    refine ⟨go (hk n S) h1, fun x H' y => ?_⟩
    obtain ⟨T, v', rfl, hT, rfl, hv⟩ := yl (hk n S) y
    rw [h1] at hv; cases hv
    obtain ⟨g', n', r'⟩ := pair_new S hT (.int (i : Nat)) ((h2 _ (List.getElem?_eq_getElem hi)).le n)
    refine ⟨g', n', fun d e => ?_⟩
    rw [number_at, List.getElem?_eq_getElem hi] at e
    cases e
    rw [Nat.zero_add]
    exact r'
  stop := fun n S => by
    rw [number_len, r.length]
    exact stop (hk n S)
theorem i_enm {elts : List Expr} {kk : Nat} {tpos : Pos} (hg : Gl X "enumerate") (hm : X.mg "enumerate" = none) (ha : DE X C W e ca) (hs : starEach [e] X.env = [(false, eval e X.env)]) :
    DIF X C W (.Tuple elts kk tpos) (.Call (.Name "enumerate" p) [e] [] pos) (.enm ca) := PI.imp (pi_enumT hg hm (pa_cons ha pa_nil hs) hs) fun σ H R' ⟨g, env, st, H0, R, p⟩ =>
  ⟨g, env, st, H0, R, Pst.bind (show Pst X W σ g H (pIF X) ((ev C ca env st).bind _) R' from p) fun d st1 v g1 H1 n1 r1 p1 => by
    cases d <;> first | exact p1.elim | skip
    · cases r1 with
      | tup hq hr =>
        rename_i vs
        refine ⟨_, _, rfl, .inr ⟨SqT.sub n1.ok hq, (show Pst X W σ g1 H1 (pIF X) (some (.ok _, st1)) R' from p1).okR n1.ok (ylF_enum hr (ok := fun H => SqT X.K H _ vs) (fun l S => SqT.sub S (SqT.le l hq)) (fun h e => ⟨vs, _, h, e⟩) (fun h ⟨T, x, e1, e2, e3, e4⟩ => ⟨T, x, e1, e2, e3, e4 vs h⟩) fun h => ⟨vs, h, Nat.le_refl _⟩)⟩⟩
    · cases r1 with
      | lst hq hr =>
        rename_i vs
        refine ⟨_, _, rfl, .inl ⟨SqL.sub n1.ok hq, (show Pst X W σ g1 H1 (pIF X) (some (.ok _, st1)) R' from p1).okR n1.ok (ylF_enum hr (ok := fun H => SqL X.K H _ vs) (fun l S => SqL.sub S (SqL.le l hq)) (fun h e => ⟨vs, _, h, e⟩) (fun h ⟨T, x, e1, e2, e3, e4⟩ => ⟨T, x, e1, e2, e3, e4 vs h⟩) fun h => ⟨vs, h, Nat.le_refl _⟩)⟩⟩⟩
end
end PyD

/-! PyDM: statements by the core language. -/
namespace PyD
open PySem PySem.Spec PyProof.Rows L2
def PstS (B : Wd) (E : XK) (fr : Bool) (g0 : G) (H0 : Hp) (g : G) (r : Res Fl) (D : Ends) : Prop := match r with
  | none => False
  | some (.ok (.nx env), st') => ∀ g' σ' H', Nxt B g0 H0 g' st' H' → Le g g' → Rel B g' env st' σ' H' H0 → D.nx σ' H'
  | some (.ok (.bk env), st') => ∀ g' σ' H', Nxt B g0 H0 g' st' H' → Le g g' → Rel B g' env st' σ' H' H0 → D.bk σ' H'
  | some (.ok (.ct env), st') => ∀ g' σ' H', Nxt B g0 H0 g' st' H' → Le g g' → Rel B g' env st' σ' H' H0 → D.ct σ' H'
  | some (.ok (.rt d), st') => ∀ v g' H', Nxt B g0 H0 g' st' H' → pT B fr H0 g' H' d v → D.rt v H'
  | some (.ex c x, st') => ∀ cv dx g' H', Nxt B g0 H0 g' st' H' → ExR B g' H' c x cv dx → E cv dx H'
def tS (X : Cx) (E : XK) (fr : Bool) (f : Ev → Stt → Res Fl) : TS := fun D σ H => ∃ g0 H0 g env st, Nxt X.wd g0 H0 g st H ∧ Rel X.wd g env st σ H H0 ∧ PstS X.wd E fr g0 H0 g (f env st) D
abbrev WofE (E : XK) : L2.WX := fun c d _ H => E c d H
def DS (X : Cx) (C : Cfg) (E : XK) (fr : Bool) (s : Stmt) (c : S) : Prop := PS X s (tS X E fr (exS C c))
def DSs (X : Cx) (C : Cfg) (E : XK) (fr : Bool) (s : List Stmt) (c : List S) : Prop := PSs X s (tS X E fr (exSs C c))
section
variable {B : Wd} {E : XK} {fr : Bool} {g0 g g1 : G} {H0 H H1 : Hp} {st st1 : Stt} {env : Ev} {σ : L2.St} {D : Ends}
theorem PstS.le {r : Res Fl} (h : PstS B E fr g0 H0 g r D) (l : Le g g1) : PstS B E fr g0 H0 g1 r D := by
  cases r with
  | none => exact h
  | some r =>
    obtain ⟨o, st'⟩ := r
    cases o with
    | ok f =>
      cases f with
      | nx env => exact fun g' σ' H' n l' R => h g' σ' H' n (l.trans l') R
      | bk env => exact fun g' σ' H' n l' R => h g' σ' H' n (l.trans l') R
      | ct env => exact fun g' σ' H' n l' R => h g' σ' H' n (l.trans l') R
      | rt d => exact h
    | ex c x => exact h
/-- an expression, then the rest -/
theorem PstS.bind {X : Cx} {α β : Type} {P : G → Hp → α → β → Prop} {r : Res α} {f : α → Stt → Res Fl} {Q1 : β → Hp → Prop} (h : PstS X.wd E fr g0 H0 g (r.bind f) D) (n : Nxt X.wd g0 H0 g st H)
    (k : ∀ d st1 v g1 H1, r = some (.ok d, st1) → Nxt X.wd g H g1 st1 H1 → P g1 H1 d v → PstS X.wd E fr g0 H0 g1 (f d st1) D → Q1 v H1) : Pst X (WofE E) σ g H P r Q1 := by
  cases r with
  | none => exact h
  | some r =>
    obtain ⟨o, st'⟩ := r
    cases o with
    | ok d => exact fun v g' H' n' p => k d st' v g' H' rfl n' p (PstS.le h n'.le)
    | ex c x => exact fun cv dx g' H' n' e => h cv dx g' H' (n.trans n') e
theorem PstS.lift {α : Type} {o : Option α} {f : α → Stt → Res Fl} {s : Stt} (h : PstS B E fr g0 H0 g ((PyD.lift o s).bind f) D) : ∃ d, o = some d ∧ PstS B E fr g0 H0 g (f d s) D := by
  cases o with
  | none => exact h.elim
  | some d => exact ⟨d, rfl, h⟩
theorem PstS.lift1 {o : Option Fl} {s : Stt} (h : PstS B E fr g0 H0 g (PyD.lift o s) D) : ∃ d, o = some d ∧ PstS B E fr g0 H0 g (some (.ok d, s)) D := by
  cases o with
  | none => exact h.elim
  | some d => exact ⟨d, rfl, h⟩
/-- one statement after another -/
theorem PstS.seq {r : Res Fl} {k : Ev → Stt → Res Fl} {u : Ends → L2.St → Hp → Prop} (h : PstS B E fr g0 H0 g (r.bind fun f s => match f with | .nx env => k env s | .rt d => some (.ok (.rt d), s) | .bk env => some (.ok (.bk env), s) | .ct env => some (.ok (.ct env), s)) D)
    (hk : ∀ env st' g' σ' H', Nxt B g0 H0 g' st' H' → Le g g' → Rel B g' env st' σ' H' H0 → PstS B E fr g0 H0 g' (k env st') D → u D σ' H') : PstS B E fr g0 H0 g r { D with nx := u D } := by
  cases r with
  | none => exact h
  | some r =>
    obtain ⟨o, st'⟩ := r
    cases o with
    | ok f =>
      cases f with
      | nx env => exact fun g' σ' H' n l R => hk env st' g' σ' H' n l R (PstS.le h l)
      | bk env => exact h
      | ct env => exact h
      | rt d => exact h
    | ex c x => exact h
end
section
variable {X : Cx} {C : Cfg} {EX : XK} {fr : Bool} {g0 g g1 : G} {H0 H H1 : Hp} {st st1 : Stt} {env : Ev} {σ : L2.St} {D : Ends}
variable {e a b : Expr} {ce ca cb : E} {pos p : Pos}
theorem s_nil : DSs X C EX fr [] [] := PSs.imp pss_nil fun D σ H ⟨g0, H0, g, env, st, n, R, p⟩ => p g σ H n (.refl g) R
theorem s_cons {s : Stmt} {ss : List Stmt} {c : S} {cs : List S} (h1 : DS X C EX fr s c) (h2 : DSs X C EX fr ss cs) : DSs X C EX fr (s :: ss) (c :: cs) := PSs.imp (pss_cons h1 h2) fun D σ H ⟨g0, H0, g, env, st, n, R, p⟩ =>
  ⟨g0, H0, g, env, st, n, R, PstS.seq (u := tS X EX fr (exSs C cs)) p fun env st' g' σ' H' n' l R' p' => ⟨g0, H0, g', env, st', n', R', p'⟩⟩
theorem s_skip {s : Stmt} {ss : List Stmt} {cs : List S} (h1 : PS X s tNext) (h2 : DSs X C EX fr ss cs) : DSs X C EX fr (s :: ss) cs := PSs.imp (pss_cons h1 h2) fun D σ H q => q
theorem s_pass : DS X C EX fr (.Pass pos) .pass := PS.imp ps_pass fun D σ H ⟨g0, H0, g, env, st, n, R, p⟩ => p g σ H n (.refl g) R
theorem s_brk : DS X C EX fr (.Break pos) .brk := PS.imp ps_break fun D σ H ⟨g0, H0, g, env, st, n, R, p⟩ => p g σ H n (.refl g) R
theorem s_cnt : DS X C EX fr (.Continue pos) .cnt := PS.imp ps_continue fun D σ H ⟨g0, H0, g, env, st, n, R, p⟩ => p g σ H n (.refl g) R
theorem s_stuck {s : Stmt} : DS X C EX fr s .stuck := ⟨fun _ _ _ _ _ _ ⟨_, _, _, _, _, _, _, p⟩ => p.elim⟩
theorem ss_stuck {s : List Stmt} {cs : List S} : DSs X C EX fr s (.stuck :: cs) := ⟨fun _ _ _ _ _ _ ⟨_, _, _, _, _, _, _, p⟩ => p.elim⟩
theorem s_exp {ce : E} (he : DE X C (WofE EX) e ce) (hs : swapsWith e none pos.line X.env = pure false) : DS X C EX fr (.Expr e pos) (.exp ce) := PS.imp (ps_expr he hs) fun D σ H ⟨g0, H0, g, env, st, n, R, p⟩ =>
  ⟨g, env, st, H0, R, PstS.bind (X := X) p n fun d st1 v g1 H1 _ n1 r1 p1 => p1 g1 σ H1 (n.trans n1) (.refl _) (R.next n1)⟩
theorem s_ret {ce : E} (he : DE X C (WofE EX) e ce) : DS X C EX false (.Return (some e) pos) (.ret none ce) := PS.imp (ps_ret he) fun D σ H ⟨g0, H0, g, env, st, n, R, p⟩ =>
  ⟨g, env, st, H0, R, PstS.bind (X := X) p n fun d st1 v g1 H1 _ n1 r1 p1 => p1 v g1 H1 (n.trans n1) r1⟩
theorem Nxt.none {B : Wd} (n : Nxt B g0 H0 g st H) {a : Addr} (h : H a = none) : H0 a = none := by
  cases q : H0 a with
  | none => rfl
  | some o => exact absurd h (n.keep a (by rw [q]; simp))
theorem s_retN {ce : E} (he : DN X C (WofE EX) e ce) : DS X C EX true (.Return (some e) pos) (.ret none ce) := PS.imp (ps_ret he) fun D σ H ⟨g0, H0, g, env, st, n, R, p⟩ =>
  ⟨g, env, st, H0, R, PstS.bind (X := X) p n fun d st1 v g1 H1 _ n1 r1 p1 => p1 v g1 H1 (n.trans n1) (by
    rcases r1 with ⟨c, a, e, h0, h1⟩ | r1
    · exact .inl ⟨c, a, e, n.none h0, h1⟩
    · exact .inr r1)⟩
theorem s_retO {i : Nat} {x : Str} {ce : E} (hN : X.N[i]? = some x) (hv : Vis X.env.scope x) (hd : (x == ("__debug__" : Str)) = false) (hcd : (x == ("__classdict__" : Str)) = false) : DS X C EX fr (.Return (some (.Name x p)) pos) (.ret (some i) ce) :=
  PS.imp (ps_ret (pe_var hN hv hd hcd)) fun D σ H ⟨g0, H0, g, env, st, n, R, p⟩ => by
    have p : PstS X.wd EX fr g0 H0 g (match slot env i with | .own d => some (.ok (.rt d), st) | _ => none) D := p
    cases q : slot env i with
    | un => rw [q] at p; exact p.elim
    | val d => rw [q] at p; exact p.elim
    | own d =>
      rw [q] at p
      obtain ⟨a, h1, h2, h3, h4, h5⟩ := R.env.own q
      refine ⟨_, h1, ?_⟩
      cases fr with
      | true => exact p _ g H n (.inl ⟨by cases d <;> first | rfl | exact h5.elim, a, rfl, h4, h2, h3, h5⟩)
      | false =>
        obtain ⟨g2, n2, _, r2⟩ := froze n h4 h2 h3 h5
        exact p _ g2 H n2 r2
theorem s_ret0 : DS X C EX fr (.Return none pos) (.ret none (.cst .non)) := PS.imp ps_retN fun D σ H ⟨g0, H0, g, env, st, n, R, p⟩ => by
  refine (show PstS X.wd EX fr g0 H0 g (some (.ok (.rt .non), st)) D from p) .non g H n ?_
  cases fr with
  | true => exact .inr ⟨rfl, .non⟩
  | false => exact .non
theorem evB_iteS (c : E) (x y : List S) (env : Ev) (s : Stt) : exS C (.ite c x y) env s = (evB C c env s).bind fun b s => if b = true then exSs C x env s else exSs C y env s := by
  show ((ev C c env s).bind fun v s => match truth v with | none => none | some true => exSs C x env s | some false => exSs C y env s) = ((ev C c env s).bind fun v s => lift (truth v) s).bind _
  rw [bind_bind]
  congr 1
  funext v s
  cases truth v with
  | none => rfl
  | some k => cases k <;> rfl
theorem s_ite {c : Expr} {xs ys : List Stmt} {cc : E} {cx cy : List S} (hc : TB X C (WofE EX) c cc) (hx : DSs X C EX fr xs cx) (hy : DSs X C EX fr ys cy) : DS X C EX fr (.If c xs ys pos) (.ite cc cx cy) := PS.imp (ps_if hc hx hy) fun D σ H ⟨g0, H0, g, env, st, n, R, p⟩ => by
  rw [evB_iteS] at p
  refine ⟨g, env, st, H0, R, PstS.bind (X := X) p n fun k st1 k' g1 H1 _ n1 e p1 => ?_⟩
  cases e
  cases k with
  | true => exact ⟨g0, H0, g1, env, st1, n.trans n1, R.next n1, p1⟩
  | false => exact ⟨g0, H0, g1, env, st1, n.trans n1, R.next n1, p1⟩
/-- an own thing is a value from here on -/
theorem Rel.freeze {B : Wd} {i : Nat} {d : PyD.D} (n : Nxt B g0 H0 g st H) (R : Rel B g env st σ H H0) (e : slot env i = .own d) : ∃ g2, Nxt B g0 H0 g2 st H ∧ Le g g2 ∧ Rel B g2 (put env i (.val d)) st σ H H0 := by
  obtain ⟨a, h1, h2, h3, h4, h5⟩ := R.env.own e
  obtain ⟨o, eo⟩ := h5.some
  have l : Le g (g.add a o) := .add h2
  have S2 : StOk B (g.add a o) st H := by
    refine ⟨fun x y q => ?_, R.st.len, R.st.nd, fun m x y q1 q2 => ?_⟩
    · by_cases z : x = a
      · subst z
        have q2 : upd g.F x o x = some y := q
        rw [upd_same] at q2; cases q2; exact eo
      · have q2 : upd g.F a o x = some y := q
        rw [upd_ne z] at q2; exact R.st.sub x y q2
    · obtain ⟨c1, c2⟩ := R.st.cel m x y q1 q2
      have z : x ≠ a := fun z => h3 (z ▸ List.mem_of_getElem? q1)
      exact ⟨by show upd g.F a o x = none; rw [upd_ne z]; exact c1, c2.le l fun _ q => q⟩
  have rep : Rep B (g.add a o) d (.ref a) := by
    cases d with
    | lst ds =>
      obtain ⟨vs, q1, q2⟩ := h5
      rw [eo] at q1; cases q1
      exact .lst (.inl (.inl (by show upd g.F a _ a = _; rw [upd_same]))) (q2.le l)
    | dic ds =>
      obtain ⟨vs, q1, q2⟩ := h5
      rw [eo] at q1; cases q1
      exact .dK (by show upd g.F a _ a = _; rw [upd_same]) (q2.le l)
    | _ => exact h5.elim
  refine ⟨g.add a o, ⟨n.le.trans l, fun x q => ?_, n.cnew, n.fr, n.keep, S2⟩, l, S2, ?_⟩
  · by_cases z : x = a
    · subst z; exact .inr h4
    · refine n.new x ?_
      have : upd g.F a o x = g.F x := upd_ne z
      rw [← this]; exact q
  · refine ⟨by rw [put_length]; exact R.env.len, fun j u ej => ?_, fun j k d1 d2 b e1 e2 e3 e4 => ?_⟩
    · rw [slot_put]
      by_cases c : i = j ∧ i < env.length
      · rw [if_pos c]
        obtain ⟨rfl, _⟩ := c
        rw [h1] at ej; cases ej
        exact .val rep
      · rw [if_neg c]
        have old := R.env.at_ j u ej
        cases q : slot env j with
        | un => exact .un
        | val d' =>
          rw [q] at old
          cases old with
          | val r => exact .val (r.le l)
        | own d' =>
          rw [q] at old
          cases old with
          | own k1 k2 k3 k4 =>
            rename_i b
            have z : b ≠ a := fun z => by
              subst z
              have := R.env.dis i j d d' b e q h1 ej
              exact c ⟨this, slot_lt fun w => by rw [e] at w; cases w⟩
            exact .own (by show upd g.F a o b = none; rw [upd_ne z]; exact k1) k2 k3 (k4.le l fun _ q => q)
    · rw [slot_put] at e1 e2
      split at e1
      · cases e1
      · split at e2
        · cases e2
        · exact R.env.dis j k d1 d2 b e1 e2 e3 e4
theorem ss_frz {i : Nat} {ss : List Stmt} {cs : List S} (h : DSs X C EX fr ss cs) : DSs X C EX fr ss (.frz i :: cs) := PSs.imp h fun D σ H ⟨g0, H0, g, env, st, n, R, p⟩ => by
  have p : PstS X.wd EX fr g0 H0 g (Res.bind (match slot env i with | .own d => (some (.ok (Fl.nx (put env i (.val d))), st) : Res Fl) | _ => (some (.ok (Fl.nx env), st) : Res Fl)) fun f s => match f with | .nx env => exSs C cs env s | .rt d => some (.ok (.rt d), s) | .bk env => some (.ok (.bk env), s) | .ct env => some (.ok (.ct env), s)) D := p
  cases q : slot env i with
  | un => rw [q] at p; exact ⟨g0, H0, g, env, st, n, R, p⟩
  | val d => rw [q] at p; exact ⟨g0, H0, g, env, st, n, R, p⟩
  | own d =>
    rw [q] at p
    obtain ⟨g2, n2, l2, R2⟩ := R.freeze n q
    exact ⟨g0, H0, g2, put env i (.val d), st, n2, R2, PstS.le p l2⟩
end
end PyD

/-! PyDN: stores, changes, loops. -/
namespace PyD
open PySem PySem.Spec PyProof.Rows L2
section
variable {B : Wd} {g0 g : G} {H0 H : Hp} {st : Stt} {env : Ev} {σ : L2.St} {a : Addr} {d d' : D} {o : HO} {i : Nat}
/-- an own thing changes -/
theorem StOk.own (S : StOk B g st H) (h1 : g.F a = none) (h2 : a ∉ g.ρ) : StOk B g st (upd H a o) := by
  refine ⟨fun b u e => ?_, S.len, S.nd, fun n b d e1 e2 => ?_⟩
  · rw [upd_ne (fun z => by rw [z, h1] at e; cases e)]
    exact S.sub b u e
  · obtain ⟨c1, c2⟩ := S.cel n b d e1 e2
    refine ⟨c1, c2.le (.refl g) fun u e => ?_⟩
    rw [upd_ne (fun z : b = a => h2 (z ▸ List.mem_of_getElem? e1))]
    exact e
theorem Rel.own (R : Rel B g env st σ H H0) (e : slot env i = .own d) (ha : σ[i]? = some (some (.ref a))) (h1 : g.F a = none) (h2 : a ∉ g.ρ) (h3 : H0 a = none) (c : Cont B g (upd H a o) a d') : Rel B g (put env i (.own d')) st σ (upd H a o) H0 := by
  refine ⟨R.st.own h1 h2, by rw [put_length]; exact R.env.len, fun j u ej => ?_, fun j k d1 d2 b e1 e2 e3 e4 => ?_⟩
  · rw [slot_put]
    by_cases q : i = j ∧ i < env.length
    · rw [if_pos q]
      obtain ⟨rfl, _⟩ := q
      rw [ha] at ej; cases ej
      exact .own h1 h2 h3 c
    · rw [if_neg q]
      have old := R.env.at_ j u ej
      cases qs : slot env j with
      | un => exact .un
      | val d' =>
        rw [qs] at old
        cases old with
        | val r => exact .val r
      | own d' =>
        rw [qs] at old
        cases old with
        | own k1 k2 k3 k4 =>
          rename_i b
          have z : b ≠ a := fun z => by
            subst z
            exact q ⟨R.env.dis i j d d' b e qs ha ej, slot_lt fun w => by rw [e] at w; cases w⟩
          exact .own k1 k2 k3 (k4.le (.refl g) fun u e => by rw [upd_ne z]; exact e)
  · rw [slot_put] at e1 e2
    by_cases q1 : i = j ∧ i < env.length
    · obtain ⟨rfl, _⟩ := q1
      by_cases q2 : i = k ∧ i < env.length
      · exact q2.1
      · rw [if_neg q2] at e2
        exact R.env.dis i k d d2 b e e2 e3 e4
    · rw [if_neg q1] at e1
      by_cases q2 : i = k ∧ i < env.length
      · obtain ⟨rfl, _⟩ := q2
        exact R.env.dis j i d1 d b e1 e e3 e4
      · rw [if_neg q2] at e2
        exact R.env.dis j k d1 d2 b e1 e2 e3 e4
/-- a cell changes -/
theorem Rel.cel {n : Nat} (N : Nxt B g0 H0 g st H) (R : Rel B g env st σ H H0) (ha : g.ρ[n]? = some a) (c : Cont B g (upd H a o) a d') : Rel B g env (st.set n d') σ (upd H a o) H0 ∧ Nxt B g0 H0 g (st.set n d') (upd H a o) := by
  have hn : n < st.length := by
    rw [← R.st.len]
    exact (List.getElem?_eq_some_iff.mp ha).1
  obtain ⟨hF, _⟩ := R.st.cel n a _ ha (List.getElem?_eq_getElem hn)
  have S2 : StOk B g (st.set n d') (upd H a o) := by
    refine ⟨fun b u e => ?_, by rw [List.length_set]; exact R.st.len, R.st.nd, fun m b d e1 e2 => ?_⟩
    · rw [upd_ne (fun z => by rw [z, hF] at e; cases e)]
      exact R.st.sub b u e
    · by_cases z : m = n
      · subst z
        rw [ha] at e1; cases e1
        rw [List.getElem?_set_self hn] at e2; cases e2
        exact ⟨hF, c⟩
      · rw [List.getElem?_set_ne (Ne.symm z)] at e2
        obtain ⟨c1, c2⟩ := R.st.cel m b d e1 e2
        refine ⟨c1, c2.le (.refl g) fun u e => ?_⟩
        rw [upd_ne (fun w : b = a => ?_)]
        · exact e
        · subst w
          obtain ⟨l1, q1⟩ := List.getElem?_eq_some_iff.mp e1
          obtain ⟨l2, q2⟩ := List.getElem?_eq_some_iff.mp ha
          exact z ((List.getElem_inj R.st.nd).mp (q1.trans q2.symm))
  refine ⟨⟨S2, R.env.len, fun j u ej => ?_, R.env.dis⟩, N.le, N.new, N.cnew, fun b u e m => ?_, fun b e => ?_, S2⟩
  · have old := R.env.at_ j u ej
    cases qs : slot env j with
    | un => exact .un
    | val d' =>
      rw [qs] at old
      cases old with
      | val r => exact .val r
    | own d' =>
      rw [qs] at old
      cases old with
      | own k1 k2 k3 k4 =>
        rename_i b
        have z : b ≠ a := fun z => k2 (z ▸ List.mem_of_getElem? ha)
        exact .own k1 k2 k3 (k4.le (.refl g) fun u e => by rw [upd_ne z]; exact e)
  · rw [upd_ne (fun z => ?_)]
    · exact N.fr b u e m
    · subst z
      rcases N.cnew b (List.mem_of_getElem? ha) with q | q
      · exact m q
      · rw [e] at q; cases q
  · by_cases z : b = a
    · subst z; rw [upd_same]; simp
    · rw [upd_ne z]; exact N.keep b e
/-- what may be changed: an own thing's or a cell's content; how it goes on -/
theorem change_D {f : D → Option D} {env' : Ev} {st' : Stt} (N : Nxt B g0 H0 g st H) (R : Rel B g env st σ H H0) (h : change i f env st = some (.ok env', st')) :
    ∃ a d d', σ[i]? = some (some (.ref a)) ∧ Cont B g H a d ∧ f d = some d' ∧ ∀ o, Cont B g (upd H a o) a d' → Rel B g env' st' σ (upd H a o) H0 ∧ Nxt B g0 H0 g st' (upd H a o) := by
  unfold change at h
  cases q : slot env i with
  | un => rw [q] at h; cases h
  | own d =>
    rw [q] at h
    cases hf : f d with
    | none => simp only [hf] at h; cases h
    | some d' =>
      simp only [hf] at h
      cases h
      obtain ⟨a, h1, h2, h3, h4, h5⟩ := R.env.own q
      exact ⟨a, d, d', h1, h5, hf, fun o c => ⟨R.own q h1 h2 h3 h4 c, N.acc h4 (R.st.own h2 h3)⟩⟩
  | val d =>
    rw [q] at h
    cases d <;> first | cases h | skip
    rename_i n
    have h : (match getS st n with | some d => (match f d with | some d => some (.ok env, st.set n d) | none => none) | none => (none : Res Ev)) = some (.ok env', st') := h
    cases hs : getS st n with
    | none => rw [hs] at h; cases h
    | some d =>
      rw [hs] at h
      cases hf : f d with
      | none => simp only [hf] at h; cases h
      | some d' =>
        simp only [hf] at h
        cases h
        obtain ⟨v, h1, h2⟩ := R.env.val q
        cases h2 with
        | cell hr =>
          rename_i a
          have hc := (R.st.cel n a d hr (by rw [← getS_eq]; exact hs)).2
          exact ⟨a, d, d', h1, hc, hf, fun o c => R.cel N hr c⟩
theorem change_ok {f : D → Option D} {r : Res Ev} (h : change i f env st = r) (hn : r ≠ none) : ∃ env' st', r = some (.ok env', st') := by
  subst h
  unfold change at hn ⊢
  split
  · rename_i d hs
    rw [hs] at hn
    cases hf : f d with
    | none => simp only [hf] at hn; exact (hn rfl).elim
    | some d' => exact ⟨_, _, rfl⟩
  · rename_i n hs
    rw [hs] at hn
    cases hg : getS st n with
    | none => simp only [hg] at hn; exact (hn rfl).elim
    | some d =>
      simp only [hg] at hn
      cases hf : f d with
      | none => simp only [hf] at hn; exact (hn rfl).elim
      | some d' => exact ⟨env, st.set n d', by simp only [hf]⟩
  · rename_i h1 h2
    split at hn
    · rename_i d hs; exact (h1 d hs).elim
    · rename_i n hs; exact (h2 n hs).elim
    · exact (hn rfl).elim
end
section
variable {X : Cx}
/-- o[i] = v -/
theorem st_D (hu : X.A.units + 70 < cLine) : PSet X (fun o i v H Q => ∃ (g : G) (a : Addr) (d k y d' : D), o = .ref a ∧ Cont X.wd g H a d ∧ Vw X.wd g H k i ∧ Rep X.wd g y v ∧ storeF d k y = some d' ∧ ∀ ho, Cont X.wd g (upd H a ho) a d' → Q (upd H a ho)) := by
  intro pins s σ H o i v ov iv u Q I ro ri rv ⟨g, a, d, k, y, d', eo, c, hk, hy, hs, q⟩
  cases d <;> first | (cases hs; done) | skip
  · rename_i ds
    cases k <;> first | (cases hs; done) | skip
    rename_i j
    have hs : (if decide (0 ≤ j) && decide (j < ds.length) then some (D.lst (ds.set j.toNat y)) else none) = some d' := hs
    split at hs
    · rename_i hj
      obtain ⟨j1, j2⟩ := Bool.and_eq_true_iff.mp hj
      have j1 := of_decide_eq_true j1
      have j2 := of_decide_eq_true j2
      cases hs
      obtain ⟨vs, h1, h2⟩ := c
      have hl := h2.length
      refine set_list pins s σ H o i v ov iv u Q I ro ri rv ⟨a, vs, j, j.toNat, eo, hk.int, h1, ?_, q _ ⟨_, upd_same, h2.set hy _⟩⟩
      unfold ixN
      rw [if_pos j1, if_pos (by omega)]
    · cases hs
  · rename_i ds
    have hs : (if isKey k && szOk (ds.length + 1) then some (D.dic (dput ds k y)) else none) = some d' := by
      cases k <;> exact hs
    split at hs
    · rename_i hj
      obtain ⟨j1, j2⟩ := Bool.and_eq_true_iff.mp hj
      cases hs
      obtain ⟨kvs, h1, h2⟩ := c
      obtain ⟨kk, rfl⟩ := isKey_of j1
      have hl := h2.length
      have := szOk_le j2
      exact set_dict (by omega) pins s σ H o i v ov iv u Q I ro ri rv ⟨a, _, eo, .inl ⟨kvs, kk, h1, hk.key, by omega, rfl⟩, q _ ⟨_, upd_same, dput_putK kk hy h2⟩⟩
    · cases hs
end
section
variable {X : Cx} {C : Cfg} {EX : XK} {fr : Bool} {g0 g g1 : G} {H0 H H1 : Hp} {st st1 : Stt} {env : Ev} {σ : L2.St}
variable {e a b tg : Expr} {ce ca cb : E} {pos p p2 : Pos} {t : Tg} {i : Nat} {x : Str}
theorem PstS.ok {f : Ev → Stt → Res Fl} {r : Res Ev} {D : Ends} (h : PstS X.wd EX fr g0 H0 g (r.bind f) D) : r ≠ none := fun z => by rw [z] at h; exact h
/-- a = e -/
theorem s_asg (he : DE X C (WofE EX) e ce) (hg : DG X tg t) (hs : swapsWithSole [tg] e pos.line X.env = pure false) (hw : swappedStores [tg] e X.env = pure none) (h1 : (assignEach [tg] X.env).map (·.2) = [assign tg X.env]) : DS X C EX fr (.Assign [tg] e pos) (.asg t ce) :=
  PS.imp (ps_asg he hg hs hw h1) fun D σ H ⟨g0, H0, g, env, st, n, R, p⟩ => ⟨g, env, st, H0, R, PstS.bind (X := X) (show PstS X.wd EX fr g0 H0 g ((ev C ce env st).bind fun x s => lift ((bindT t x env).map Fl.nx) s) D from p) n fun d st1 v g1 H1 _ n1 r1 p1 => by
    obtain ⟨f, hf, p1⟩ := p1.lift1
    cases hb : bindT t d env with
    | none => rw [hb] at hf; cases hf
    | some env' =>
      rw [hb] at hf; cases hf
      exact ⟨g1, env, st1, H0, d, fun _ => False, env', n1.ok, (R.next n1).env.x, r1, hb, fun σ' k1 k2 k3 => p1 g1 σ' H1 (n.trans n1) (.refl _) ⟨n1.ok, k1.ok fun i q => q.1⟩⟩⟩
/-- an own thing is stored -/
theorem EnvOk.putOwn {B : Wd} {a : Addr} {d : D} (R : EnvOk B g env σ H H0) (h1 : g.F a = none) (h2 : a ∉ g.ρ) (h3 : H0 a = none) (c : Cont B g H a d) (new : ∀ j e a', slot env j = .own e → σ[j]? = some (some (.ref a')) → a' ≠ a) : EnvOk B g (put env i (.own d)) (σ.set i (some (.ref a))) H H0 := by
  refine ⟨by rw [put_length, List.length_set]; exact R.len, fun j u ej => ?_, fun j k d1 d2 b e1 e2 e3 e4 => ?_⟩
  · rw [slot_put]
    by_cases q : i = j ∧ i < env.length
    · rw [if_pos q]
      obtain ⟨rfl, q⟩ := q
      rw [List.getElem?_set_self (by rw [← R.len]; exact q)] at ej
      cases ej
      exact .own h1 h2 h3 c
    · rw [if_neg q]
      by_cases z : i = j
      · subst z
        have : σ.length ≤ i := by
          rw [← R.len]
          exact Nat.le_of_not_lt fun w => q ⟨rfl, w⟩
        rw [List.getElem?_eq_none (by rw [List.length_set]; exact this)] at ej
        cases ej
      · rw [List.getElem?_set_ne z] at ej
        exact R.at_ j u ej
  · have ne : ∀ {m : Nat} {x : V}, ¬ (i = m ∧ i < env.length) → (σ.set i (some (.ref a)))[m]? = some (some x) → σ[m]? = some (some x) := fun {m x} c q => by
      by_cases z : i = m
      · subst z
        have : σ.length ≤ i := by
          rw [← R.len]
          exact Nat.le_of_not_lt fun z => c ⟨rfl, z⟩
        rw [List.getElem?_eq_none (by rw [List.length_set]; exact this)] at q
        cases q
      · rwa [List.getElem?_set_ne z] at q
    have se : ∀ {m : Nat} {b : Addr}, (i = m ∧ i < env.length) → (σ.set i (some (.ref a)))[m]? = some (some (.ref b)) → a = b := fun {m b} c q => by
      obtain ⟨rfl, c⟩ := c
      rw [List.getElem?_set_self (by rw [← R.len]; exact c)] at q
      cases q
      rfl
    rw [slot_put] at e1 e2
    by_cases q1 : i = j ∧ i < env.length
    · by_cases q2 : i = k ∧ i < env.length
      · exact q1.1.symm.trans q2.1
      · rw [if_neg q2] at e2
        exact absurd (se q1 e3).symm (new k d2 b e2 (ne q2 e4))
    · rw [if_neg q1] at e1
      by_cases q2 : i = k ∧ i < env.length
      · exact absurd (se q2 e4).symm (new j d1 b e1 (ne q1 e3))
      · rw [if_neg q2] at e2
        exact R.dis j k d1 d2 b e1 e2 (ne q1 e3) (ne q2 e4)
theorem EnvOk.old {B : Wd} (R : EnvOk B g env σ H H0) {a : Addr} (ha : H a = none) : ∀ j e a', slot env j = .own e → σ[j]? = some (some (.ref a')) → a' ≠ a := fun j e a' h1 h2 z => by
  obtain ⟨b, q1, _, _, _, q5⟩ := R.own h1
  rw [h2] at q1
  cases q1
  subst z
  obtain ⟨o, q⟩ := q5.some
  rw [ha] at q; cases q
theorem asgO_fin {d : D} {v : V} {D : Ends} {st1 : Stt} (n : Nxt X.wd g0 H0 g st H) (R : Rel X.wd g env st σ H H0) (n1 : Nxt X.wd g H g1 st1 H1) (r1 : pF X H g1 H1 d v)
    (p1 : PstS X.wd EX fr g0 H0 g1 (if canOwn d then some (.ok (.nx (put env i (.own d))), st1) else none) D) : gName i v σ H1 D.nx := by
  rcases r1 with ⟨c, a, rfl, k0, k1, k2, k3⟩ | ⟨c, _⟩
  · rw [if_pos c] at p1
    have R1 := R.next n1
    exact p1 g1 _ H1 (n.trans n1) (.refl _) ⟨n1.ok, R1.env.putOwn k1 k2 (n.none k0) k3 fun j e a' h1 h2 => R.env.old k0 j e a' h1 h2⟩
  · rw [if_neg (by rw [c]; decide)] at p1
    exact p1.elim
theorem s_asgO (hN : X.N.Nodup) (hi : X.N[i]? = some x) (hx : Loc X.env.scope x) (hf : X.fn x = true ∨ X.env.scope.names.lookup x = some .local) (he : DN X C (WofE EX) e ce) (hs : swapsWith e (some (.Name x p)) pos.line X.env = pure false) : DS X C EX fr (.Assign [.Name x p] e pos) (.asgO i ce) :=
  PS.imp (ps_set hN hi hx he hs hf) fun D σ H ⟨g0, H0, g, env, st, n, R, p⟩ => ⟨g, env, st, H0, R, PstS.bind (X := X) (show PstS X.wd EX fr g0 H0 g ((ev C ce env st).bind fun x s => if canOwn x then some (.ok (.nx (put env i (.own x))), s) else none) D from p) n fun d st1 v g1 H1 _ n1 r1 p1 => asgO_fin n R n1 r1 p1⟩
/-- name = [..] on one line -/
theorem s_lc {elt tg iter : Expr} {ifs : List Expr} {scope : Scope} {own : List (Str × Nat)} {it : I} {cs : List E} {w : Bool} (hc : X.calm = true) (hN : X.N.Nodup) (hi : X.N[i]? = some x) (hx : X.env.scope.names.lookup x = some .local)
    (hsw : swapsWith (.ListComp elt [⟨tg, iter, ifs, 0⟩] scope p) (some (.Name x p2)) pos.line X.env = pure true) (hit : DI X C (WofE EX) tg iter it) (ok : BlkOk X.N X.env.scope scope own) (hown : own.map (·.2) = tn t)
    (hg : ∀ (s : Shared) (H : Hp) (A : Addr) (cl : List (Str × Addr)) (fp : List Addr), DG (X.blk s H scope (compEnvC scope cl A X.env) fp) tg t) (ht : ∀ (s : Shared) (H : Hp) (A : Addr) (cl : List (Str × Addr)) (fp : List Addr), DTs (X.blk s H scope (compEnvC scope cl A X.env) fp) C W0 ifs cs)
    (he : ∀ (s : Shared) (H : Hp) (A : Addr) (cl : List (Str × Addr)) (fp : List Addr), DE (X.blk s H scope (compEnvC scope cl A X.env) fp) C W0 elt ce) (hs : ∀ x, foldedSetIterable iter X.env x = pure x) :
    DS X C EX fr (.Assign [.Name x p2] (.ListComp elt [⟨tg, iter, ifs, 0⟩] scope p) pos) (if w then .asgO i (.comp ce t it cs) else .asg (.nm i) (.comp ce t it cs)) :=
  PS.imp (ps_setLc (g := gT X.wd t) (tt := tR X W0 (fun _ _ (b b' : Bool) => b = b') (evT C cs)) (te := tR X W0 (pR X) (ev C ce)) hc hN hi hx hsw hit ok hg ht he hs) fun D σ H ⟨g0, H0, g, env, st, n, R, p⟩ => by
    refine lc_logic hown ?_
    cases w with
    | true =>
      exact ⟨g, env, st, H0, R, PstS.bind (X := X) (show PstS X.wd EX fr g0 H0 g ((ev C (.comp ce t it cs) env st).bind fun x s => if canOwn x then some (.ok (.nx (put env i (.own x))), s) else none) D from p) n fun d st1 v g1 H1 _ n1 r1 p1 => asgO_fin n R n1 r1 p1⟩
    | false =>
      refine ⟨g, env, st, H0, R, PstS.bind (X := X) (show PstS X.wd EX fr g0 H0 g ((ev C (.comp ce t it cs) env st).bind fun x s => lift ((bindT (.nm i) x env).map Fl.nx) s) D from p) n fun d st1 v g1 H1 _ n1 r1 p1 => ?_⟩
      have fin : ∀ g2, Nxt X.wd g H g2 st1 H1 → Le g1 g2 → Rep X.wd g2 d v → gName i v σ H1 D.nx := fun g2 n2 l2 r2 =>
        (PstS.le p1 l2) g2 _ H1 (n.trans n2) (.refl _) ⟨n2.ok, (((R.next n2).env.x (E := fun _ => False)).put r2).ok fun j q => q.1⟩
      rcases r1 with ⟨c, a, rfl, k0, k1, k2, k3⟩ | ⟨_, r1⟩
      · obtain ⟨g2, n2, l2, r2⟩ := froze n1 k0 k1 k2 k3
        exact fin g2 n2 l2 r2
      · exact fin g1 n1 (.refl _) r1
theorem loc_vis {sc : Scope} (h : Loc sc x) : Vis sc x := h.elim .inl fun q => .inr (.inl q)
theorem EnvOk.has {B : Wd} (R : EnvOk B g env σ H H0) (h : hasS (slot env i) = true) : ∃ v, σ[i]? = some (some v) := by
  cases q : slot env i with
  | un => rw [q] at h; cases h
  | val d =>
    obtain ⟨v, h1, _⟩ := R.val q
    exact ⟨v, h1⟩
  | own d =>
    obtain ⟨a, h1, _⟩ := R.own q
    exact ⟨_, h1⟩
def notSlc : Expr → Bool
  | .Slice _ _ _ _ => false
  | _ => true
theorem sub_ok {o k : Expr} {env : Env} (h : notSlc k = true) (v : Value) : assign (.Subscript o k p2) env v = (do
      let ov ← holding [v] (eval o env)
      let iv ← holding [v, ov] (eval k env)
      standAt p2
      holding [v, ov, iv] (setItem ov iv v)
      release [v, ov, iv] []) := by
  cases k <;> first | rfl | cases h
/-- a[k] = .., of a value that is there -/
theorem sto_fin {ck : E} {y : D} {v : V} {Q : L2.St → Hp → Prop} {D : Ends} {K : Ev → Stt → Res Fl} (n : Nxt X.wd g0 H0 g st H) (R : Rel X.wd g env st σ H H0) (r : Rep X.wd g y v)
    (p : PstS X.wd EX fr g0 H0 g (if hasS (slot env i) then (ev C ck env st).bind fun k s => (change i (fun x => storeF x k y) env s).bind K else none) D)
    (hQ : ∀ g' env' st' H', Nxt X.wd g0 H0 g' st' H' → Le g g' → Rel X.wd g' env' st' σ H' H0 → PstS X.wd EX fr g0 H0 g' (K env' st') D → Q σ H') :
    gSub (tVar i) (tR X (WofE EX) (pR X) (ev C ck)) (fun o i v H Q => ∃ (g : G) (a : Addr) (d k y d' : PyD.D), o = .ref a ∧ Cont X.wd g H a d ∧ Vw X.wd g H k i ∧ Rep X.wd g y v ∧ storeF d k y = some d' ∧ ∀ ho, Cont X.wd g (upd H a ho) a d' → Q (upd H a ho)) v σ H Q := by
  by_cases hs : hasS (slot env i) = true
  · rw [if_pos hs] at p
    obtain ⟨o, ho⟩ := R.env.has hs
    refine ⟨o, ho, g, env, st, H0, R, PstS.bind (X := X) p n fun k st2 w g2 H2 _ n2 r2 p2 => ?_⟩
    obtain ⟨env', st3, hc⟩ := change_ok rfl (PstS.ok (X := X) (f := K) p2)
    rw [hc] at p2
    obtain ⟨a, d, d', h1, h2, h3, h4⟩ := change_D (n.trans n2) (R.next n2) hc
    rw [ho] at h1
    cases h1
    refine ⟨g2, a, d, k, y, d', rfl, h2, .inl r2, r.le n2.le, h3, fun ho' c => ?_⟩
    obtain ⟨R3, N3⟩ := h4 ho' c
    exact hQ g2 env' st3 _ N3 n2.le R3 p2
  · rw [if_neg hs] at p
    exact p.elim
theorem sw_sub (o k e : Expr) (l : Nat) (env : Env) : swapsWithSole [.Subscript o k p2] e l env = pure false := by
  cases e <;> rfl
theorem sw_tup (es : List Expr) (kk : Nat) (e : Expr) (l : Nat) (env : Env) : swapsWithSole [.Tuple es kk p2] e l env = pure false := by
  cases e <;> rfl
theorem s_sto {k : Expr} {ck : E} (hu : X.A.units + 70 < cLine) (hi : X.N[i]? = some x) (hx : Vis X.env.scope x) (hd : (x == ("__debug__" : Str)) = false) (hcd : (x == ("__classdict__" : Str)) = false) (he : DE X C (WofE EX) e ce) (hk : DE X C (WofE EX) k ck) (hns : notSlc k = true) :
    DS X C EX fr (.Assign [.Subscript (.Name x p) k p2] e pos) (.sto i ck ce) :=
  PS.imp (ps_asg he (pg_sub (pe_var hi hx hd hcd) hk (st_D hu) (sub_ok hns)) (sw_sub ..) rfl rfl) fun D σ H ⟨g0, H0, g, env, st, n, R, p⟩ =>
    ⟨g, env, st, H0, R, PstS.bind (X := X) (show PstS X.wd EX fr g0 H0 g ((ev C ce env st).bind fun y s => if hasS (slot env i) then (ev C ck env s).bind fun k s => (change i (fun x => storeF x k y) env s).bind fun env s => some (.ok (.nx env), s) else none) D from p) n fun y st1 v g1 H1 _ n1 r1 p1 =>
      sto_fin (n.trans n1) (R.next n1) r1 p1 fun g' env' st' H' N l R' p' => p' g' σ H' N (.refl _) R'⟩
/-- a[k], x = e -/
theorem s_stoT {k tx : Expr} {ck : E} {kk : Nat} {p3 : Pos} (hc : X.calm = true) (hu : X.A.units + 70 < cLine) (hi : X.N[i]? = some x) (hx : Vis X.env.scope x) (hd : (x == ("__debug__" : Str)) = false) (hcd : (x == ("__classdict__" : Str)) = false) (he : DE X C (WofE EX) e ce) (hk : DE X C (WofE EX) k ck) (hns : notSlc k = true)
    (ht : DG X tx t) (htx : (assignEach [tx] X.env).map (·.2) = [assign tx X.env]) (hst : (assignEach [.Subscript (.Name x p) k p2, tx] X.env).findIdx? (·.1) = none) (hs : swapsWithSole [.Tuple [.Subscript (.Name x p) k p2, tx] kk p3] e pos.line X.env = pure false) (hw : swappedStores [.Tuple [.Subscript (.Name x p) k p2, tx] kk p3] e X.env = pure none) :
    DS X C EX fr (.Assign [.Tuple [.Subscript (.Name x p) k p2, tx] kk p3] e pos) (.stoT i ck t ce) := by
  have hl : (assignEach [.Subscript (.Name x p) k p2, tx] X.env).length = 2 := by
    have := congrArg List.length htx
    rw [List.length_map] at this
    show (assignEach [tx] X.env).length + 1 = 2
    rw [this]; rfl
  refine PS.imp (ps_asg he (pg_tup hc (pgs_cons (pg_sub (pe_var hi hx hd hcd) hk (st_D hu) (sub_ok hns)) (pgs_cons ht pgs_nil htx) rfl) hl hst) hs hw rfl) fun D σ H ⟨g0, H0, g, env, st, n, R, p⟩ =>
    ⟨g, env, st, H0, R, PstS.bind (X := X) (show PstS X.wd EX fr g0 H0 g ((ev C ce env st).bind fun y s => if hasS (slot env i) then (match y with | .tup [y1, y2] => (ev C ck env s).bind fun k s => (change i (fun x => storeF x k y1) env s).bind fun env s => lift ((bindT t y2 env).map Fl.nx) s | _ => none) else none) D from p) n fun y st1 v g1 H1 er n1 r1 p1 => ?_⟩
  by_cases hh : hasS (slot env i) = true
  · rw [if_pos hh] at p1
    split at p1
    · rename_i y1 y2
      cases r1 with
      | tup hq hr =>
        cases hr with
        | cons ra rb =>
          cases rb with
          | cons rb rn =>
            cases rn
            refine ⟨_, _, rfl, SqT.sub n1.ok hq, rfl, _, _, rfl, sto_fin (K := fun env s => lift ((bindT t y2 env).map Fl.nx) s) (n.trans n1) (R.next n1) ra (by rw [if_pos hh]; exact p1) fun g' env' st' H' N l R' p' => ?_⟩
            obtain ⟨f, hf, p'⟩ := p'.lift1
            cases hb : bindT t y2 env' with
            | none => rw [hb] at hf; cases hf
            | some env2 =>
              rw [hb] at hf; cases hf
              exact ⟨_, _, rfl, g', env', st', H0, y2, fun _ => False, env2, N.ok, R'.env.x, rb.le l, hb, fun σ' k1 k2 k3 => ⟨rfl, p' g' σ' H' N (.refl _) ⟨N.ok, k1.ok fun i q => q.1⟩⟩⟩
    · exact p1.elim
  · rw [if_neg hh] at p1
    exact p1.elim
/-- a.append(e), a.extend(e) -/
theorem list_extendW (l : Addr) (items : Array Value) (n : Nat) (b : Addr) (items2 : Array Value) (n2 : Nat) (dd : Option Addr) (sl : Array (Option Value)) (hc0 : ¬(!items.isEmpty && Builtin.List.listTooLong (items.size + items2.size)) = true) (hc1 : items.size ≤ sizeLine) (hs2 : items.size + items2.size ≤ sizeLine + 1) :
    Meets (Builtin.«list.extend» ⟨[.ref l, .ref b], []⟩) (fun _ R s => s.heap.get? l = some { cls := .type "list", dict := none, data := .seq items n, slots := #[] } ∧ s.heap.get? b = some { cls := .type "list", dict := dd, data := .seq items2 n2, slots := sl } ∧
      R (.ok (.ret Value.none)) { s with heap := s.heap.update l (Obj.mapSeq fun x => x ++ items2), toks := s.toks }) :=
  .of_wp fun prog w A R s h => by
    obtain ⟨hp, g, d, tk, os⟩ := s
    obtain ⟨hl, hb, h⟩ := h
    have f1 := AutoSeq1.idx_int
    have f2 := AutoSeq1.sub_tuple_tuple
    have f3 := AutoSeq1.sub_list_list
    have f4 := AutoSeq1.sub_tuple_list
    have f5 := AutoSeq1.sub_list_tuple
    have hz' : (items ++ items2).size ≤ sizeLine + 1 := by
      rw [Array.size_append]
      exact hs2
    wp_walk using (wpAny_updateSeq hl rfl (hz := hc1) (_hz' := hz')), AutoSeq1.wpAny_loadPart' hl, AutoSeq1.wpAny_loadPart' hb
    exact ⟨_, rfl, h⟩
theorem mt_extendR : MtR X "list.extend" (fun x vs H Q => ∃ l b xs zs, x = .ref l ∧ vs = [.ref b] ∧ H l = some (.lst xs) ∧ SqL X.K H b zs ∧ xs.length + zs.length ≤ sizeLine ∧ Q .non (upd H l (.lst (xs ++ zs)))) := by
  intro pins s σ H x vs v us Q I rx rv h
  obtain ⟨l, b, xs, zs, rfl, rfl, hH, hB, hz, q⟩ := h
  cases rx
  obtain ⟨u, rfl, ru⟩ := rv.one
  cases ru
  obtain ⟨hz1, its, n, r, e⟩ := I.hok l _ hH
  obtain ⟨its2, r2, pl2, _⟩ := I.list hB
  obtain ⟨⟨cls2, dd2, data2, sl2⟩, e2, hc2, n2, hd2⟩ := pl2.isList
  simp only at hc2 hd2
  subst hc2 hd2
  have hl := r.length
  have hl2 := r2.length
  have hsz : its.toArray.size + its2.toArray.size ≤ sizeLine := by rw [List.size_toArray, List.size_toArray]; omega
  have hlong : ¬ (!its.toArray.isEmpty && Builtin.List.listTooLong (its.toArray.size + its2.toArray.size)) = true := by
    rw [notLongL hsz, Bool.and_false]
    exact Bool.false_ne_true
  refine call_meets F.slot_list_extend ⟨_, e, rfl⟩ F.entry_list_extend (F.args_list_extend_2 _ _)
    (list_extendW l its.toArray n b its2.toArray n2 dd2 sl2 hlong (by rw [List.size_toArray]; omega) (by omega)) ⟨e, e2, ?_⟩
  refine ⟨.non, _, I.lset (its' := its ++ its2) hH e (by simp) (r.append r2) ?_, rfl, q⟩
  rw [List.length_append]
  omega
def MU.nm : MU → String
  | .append => "append" | .extend => "extend"
theorem s_mut {m : MU} {apos cpos : Pos} (hi : X.N[i]? = some x) (hx : Vis X.env.scope x) (hd : (x == ("__debug__" : Str)) = false) (hcd : (x == ("__classdict__" : Str)) = false) (he : DE X C (WofE EX) e ce) (hline : (apos.endLine == cpos.line) = true) (hs : starEach [e] X.env = [(false, eval e X.env)]) :
    DS X C EX fr (.Expr (.Call (.Attribute (.Name x p) (m.nm : String) apos) [e] [] cpos) pos) (.mut m i ce) := by
  have hh : (backTo cpos (starEach [e] X.env)).all (fun x => !x.1) = true := by rw [hs]; rfl
  have key : ∀ {id : String} {r : V → List V → Hp → VK → Prop} (slt : PySem.Slot "list" (m.nm : String) id) (hty : typeOf (.builtin id) = pure (.type "method_descriptor")) (hm : MtR X id r)
      (hr : ∀ {l : Addr} {v : V} {g : G} {st : Stt} {H : Hp} {ds : List D} {y d' : D} {Q : VK}, StOk X.wd g st H → Cont X.wd g H l (.lst ds) → Rep X.wd g y v → mutF m (.lst ds) y = some d' → (∀ ho, Cont X.wd g (upd H l ho) l d' → Q .non (upd H l ho)) → r (.ref l) [v] H Q),
      DS X C EX fr (.Expr (.Call (.Attribute (.Name x p) (m.nm : String) apos) [e] [] cpos) pos) (.mut m i ce) := fun {id r} slt hty hm hr => by
    refine PS.imp (ps_expr (pe_bm PySem.F.plainAttrs_list slt hty hm (pe_var hi hx hd hcd) (pa_cons he pa_nil hs) rfl (by rw [hh]; rfl) hline hs rfl) rfl) fun D σ H ⟨g0, H0, g, env, st, n, R, p⟩ => ?_
    have p : PstS X.wd EX fr g0 H0 g (if isLstS st (slot env i) then (ev C ce env st).bind fun y s => (change i (fun x => mutF m x y) env s).bind fun env s => some (.ok (.nx env), s) else none) D := p
    by_cases ho : isLstS st (slot env i) = true
    · rw [if_pos ho] at p
      have there : ∃ a vs, σ[i]? = some (some (.ref a)) ∧ H a = some (.lst vs) := by
        cases q : slot env i with
        | un => rw [q] at ho; cases ho
        | own d =>
          cases d <;> first | (rw [q] at ho; cases ho; done) | skip
          obtain ⟨a, h1, h2, h3, h4, vs, h5, h6⟩ := R.env.own q
          exact ⟨a, vs, h1, h5⟩
        | val d =>
          cases d <;> first | (rw [q] at ho; cases ho; done) | skip
          rename_i nn
          rw [q] at ho
          have ho : (match getS st nn with | some (.lst _) => true | _ => false) = true := ho
          obtain ⟨v, h1, h2⟩ := R.env.val q
          cases h2 with
          | cell hr =>
            rename_i a
            split at ho
            · rename_i ds hg
              obtain ⟨_, vs, h5, _⟩ := R.st.cel nn a _ hr (by rw [← getS_eq]; exact hg)
              exact ⟨a, vs, h1, h5⟩
            · cases ho
      obtain ⟨a, vs, h1, h5⟩ := there
      refine ⟨_, h1, .inl ⟨rfl, vs, .inl (.inl h5)⟩, g, env, st, H0, R, PstS.bind (X := X) p n fun y st1 v g1 H1 _ n1 r1 p1 => ?_⟩
      obtain ⟨env', st3, hc⟩ := change_ok rfl (PstS.ok (X := X) (f := fun env s => some (.ok (.nx env), s)) p1)
      rw [hc] at p1
      obtain ⟨a', d, d', e1, e2, e3, e4⟩ := change_D (n.trans n1) (R.next n1) hc
      rw [h1] at e1
      cases e1
      cases d <;> first | (cases m <;> cases e3; done) | skip
      · exact hr n1.ok e2 r1 e3 fun ho' c => by
          obtain ⟨R3, N3⟩ := e4 ho' c
          exact p1 g1 σ _ N3 (.refl _) R3
    · rw [if_neg ho] at p
      exact p.elim
  cases m with
  | append =>
    refine key PySem.F.slot_list_append PySem.F.type_list_append mt_append fun {l v g st H ds y d' Q} S c r hm q => ?_
    have hm : (if szOk (ds.length + 1) then some (D.lst (ds ++ [y])) else none) = some d' := hm
    split at hm
    · rename_i hz
      cases hm
      obtain ⟨vs, h1, h2⟩ := c
      have := szOk_le hz
      have hl := h2.length
      exact ⟨l, vs, v, rfl, rfl, h1, by omega, q _ ⟨_, upd_same, h2.append (.cons r .nil)⟩⟩
    · cases hm
  | extend =>
    refine key PySem.F.slot_list_extend PySem.F.type_list_extend mt_extendR fun {l v g st H ds y d' Q} S c r hm q => ?_
    cases y <;> first | (cases hm; done) | skip
    rename_i ys
    have hm : (if szOk (ds.length + ys.length) then some (D.lst (ds ++ ys)) else none) = some d' := hm
    split at hm
    · rename_i hz
      cases hm
      obtain ⟨vs, h1, h2⟩ := c
      have := szOk_le hz
      have hl := h2.length
      cases r with
      | lst hq hr =>
        have hl2 := hr.length
        exact ⟨l, _, vs, _, rfl, rfl, h1, SqL.sub S hq, by omega, q _ ⟨_, upd_same, h2.append hr⟩⟩
    · cases hm
end
end PyD

/-! PyDO: loops, several names at once, cells, defs. -/
namespace PyD
open PySem PySem.Spec PyProof.Rows L2
section
variable {X : Cx} {C : Cfg} {EX : XK} {fr : Bool} {g0 g g1 : G} {H0 H H1 : Hp} {st st1 : Stt} {env : Ev} {σ : L2.St}
variable {e a b tg iter : Expr} {ce ca cb : E} {pos p p2 : Pos} {t : Tg} {i j l : Nat} {x y z : Str} {it : I} {W : L2.WX}
theorem Rep.vwI {B : Wd} {g : G} {i : Int} {v : V} (r : Rep B g (.int i) v) : v = .int i := by
  cases r; rfl
/-! ### for, while -/
theorem loopF_cons (t : Tg) (body : Ev → Stt → Res Fl) (d : D) (ds : List D) (env : Ev) (s : Stt) : loopF t body (d :: ds) env s = (match bindT t d env with
    | none => none
    | some env => (body env s).bind fun f s => match f with
      | .nx env => loopF t body ds env s
      | .ct env => loopF t body ds env s
      | .bk env => some (.ok (.nx env), s)
      | .rt d => some (.ok (.rt d), s)) := rfl
/-- a body within a loop -/
theorem PstS.loop {B : Wd} {r : Res Fl} {k : Ev → Stt → Res Fl} {N : L2.St → Hp → Prop} {D : Ends}
    (h : PstS B EX fr g0 H0 g (r.bind fun f s => match f with | .nx env => k env s | .ct env => k env s | .bk env => some (.ok (.nx env), s) | .rt d => some (.ok (.rt d), s)) D)
    (hk : ∀ env st' g' σ' H', Nxt B g0 H0 g' st' H' → Le g g' → Rel B g' env st' σ' H' H0 → PstS B EX fr g0 H0 g' (k env st') D → N σ' H') : PstS B EX fr g0 H0 g r { D with nx := N, ct := N, bk := D.nx } := by
  cases r with
  | none => exact h
  | some r =>
    obtain ⟨o, st'⟩ := r
    cases o with
    | ok f =>
      cases f with
      | nx env => exact fun g' σ' H' n l R => hk env st' g' σ' H' n l R (PstS.le h l)
      | ct env => exact fun g' σ' H' n l R => hk env st' g' σ' H' n l R (PstS.le h l)
      | bk env => exact h
      | rt d => exact h
    | ex c x => exact h
theorem s_for {body : List Stmt} {cb : List S} (hp : PassesOwn (model X.prog X.w) X.A X.env X.xe) (hc : X.calm = true) (hi : DIF X C (WofE EX) tg iter it) (hg : DG X tg t) (hb : DSs X C EX fr body cb) (hs : ∀ x, foldedSetIterable iter X.env x = pure x) :
    DS X C EX fr (.For tg iter body [] pos) (.fr t it cb) := PS.imp (ps_for hp hc hi hg hb hs) fun D σ H ⟨g0, H0, g, env, st, n, R, p⟩ =>
  ⟨g, env, st, H0, R, PstS.bind (X := X) (show PstS X.wd EX fr g0 H0 g ((evI C it env st).bind fun xs s => loopF t (exSs C cb) xs env s) D from p) n fun ds st1 J g1 H1 _ n1 y p1 => by
    refine ⟨fun i m σ H => m = ds.length - i ∧ i ≤ ds.length ∧ ∃ g' env' st', Nxt X.wd g0 H0 g' st' H ∧ Le g1 g' ∧ Rel X.wd g' env' st' σ H H0 ∧ PstS X.wd EX fr g0 H0 g' (loopF t (exSs C cb) (ds.drop i) env' st') D,
      ⟨_, rfl, Nat.zero_le _, g1, env, st1, n.trans n1, .refl _, R.next n1, p1⟩, ?_⟩
    rintro i m σ2 H2 ⟨rfl, hi, g2, env2, st2, n2, l2, R2, p2⟩
    by_cases hlt : i < ds.length
    · right
      obtain ⟨hgo, hy⟩ := y.go i l2 n2.ok hlt
      refine ⟨hgo, fun σ' H' => ∃ g' env' st', Nxt X.wd g0 H0 g' st' H' ∧ Le g1 g' ∧ Rel X.wd g' env' st' σ' H' H0 ∧ PstS X.wd EX fr g0 H0 g' (loopF t (exSs C cb) (ds.drop (i + 1)) env' st') D,
        fun σ' H' q => ⟨ds.length - (i + 1), by omega, rfl, hlt, q⟩, fun v H3 hv => ?_⟩
      obtain ⟨g3, n3, r3⟩ := hy v H3 hv
      have r3 := r3 _ (List.getElem?_eq_getElem hlt)
      rw [List.drop_eq_getElem_cons hlt, loopF_cons] at p2
      cases hbd : bindT t ds[i] env2 with
      | none => rw [hbd] at p2; exact p2.elim
      | some env3 =>
        rw [hbd] at p2
        refine ⟨g3, env2, st2, H0, ds[i], fun _ => False, env3, n3.ok, (R2.next n3).env.x, r3, hbd, fun σ3 k1 k2 k3 => ?_⟩
        refine ⟨g0, H0, g3, env3, st2, n2.trans n3, ⟨n3.ok, k1.ok fun i q => q.1⟩, PstS.loop (k := loopF t (exSs C cb) (ds.drop (i + 1))) (PstS.le p2 n3.le) fun env4 st4 g4 σ4 H4 n4 l4 R4 p4 => ?_⟩
        exact ⟨g4, env4, st4, n4, (l2.trans n3.le).trans l4, R4, p4⟩
    · left
      have e : i = ds.length := by omega
      subst e
      refine ⟨y.stop l2 n2.ok, ?_⟩
      rw [List.drop_length] at p2
      exact (show PstS X.wd EX fr g0 H0 g2 (some (.ok (.nx env2), st2)) D from p2) g2 σ2 H2 n2 (.refl _) R2⟩
theorem loopW_succ (test : Ev → Stt → Res Bool) (body : Ev → Stt → Res Fl) (n : Nat) (env : Ev) (s : Stt) : loopW test body (n + 1) env s = (test env s).bind fun b s => match b with
    | false => some (.ok (.nx env), s)
    | true => (body env s).bind fun f s => match f with
      | .nx env => loopW test body n env s
      | .ct env => loopW test body n env s
      | .bk env => some (.ok (.nx env), s)
      | .rt d => some (.ok (.rt d), s) := rfl
theorem s_whl {c : Expr} {cc : E} {body : List Stmt} {cb : List S} (hp : PassesOwn (model X.prog X.w) X.A X.env X.xe) (hc : TB X C (WofE EX) c cc) (hb : DSs X C EX fr body cb) : DS X C EX fr (.While c body [] pos) (.whl cc cb) :=
  PS.imp (ps_while hp hc hb) fun D σ H ⟨g0, H0, g, env, st, n, R, p⟩ => by
    refine ⟨fun m σ H => ∃ g' env' st', Nxt X.wd g0 H0 g' st' H ∧ Rel X.wd g' env' st' σ H H0 ∧ PstS X.wd EX fr g0 H0 g' (loopW (evB C cc) (exSs C cb) m env' st') D, ⟨C.wf, g, env, st, n, R, p⟩, ?_⟩
    rintro m σ2 H2 ⟨g2, env2, st2, n2, R2, p2⟩
    cases m with
    | zero => exact p2.elim
    | succ m =>
      rw [loopW_succ] at p2
      refine ⟨g2, env2, st2, H0, R2, PstS.bind (X := X) p2 n2 fun b st3 b' g3 H3 _ n3 e p3 => ?_⟩
      cases e
      cases b with
      | false => exact (show PstS X.wd EX fr g0 H0 g3 (some (.ok (.nx env2), st3)) D from p3) g3 σ2 H3 (n2.trans n3) (.refl _) (R2.next n3)
      | true =>
        refine ⟨fun σ' H' => ∃ g' env' st', Nxt X.wd g0 H0 g' st' H' ∧ Rel X.wd g' env' st' σ' H' H0 ∧ PstS X.wd EX fr g0 H0 g' (loopW (evB C cc) (exSs C cb) m env' st') D, fun σ' H' q => ⟨m, Nat.lt_succ_self _, q⟩, ?_⟩
        exact ⟨g0, H0, g3, env2, st3, n2.trans n3, R2.next n3, PstS.loop (k := loopW (evB C cc) (exSs C cb) m) p3 fun env4 st4 g4 σ4 H4 n4 l4 R4 p4 => ⟨g4, env4, st4, n4, R4, p4⟩⟩
/-! ### cells -/
theorem Pst.bindB {α β γ δ : Type} {P : G → Hp → α → β → Prop} {P2 : G → Hp → γ → δ → Prop} {r : Res α} {f : α → Stt → Res γ} {Q : δ → Hp → Prop} {Q1 : β → Hp → Prop} (h : Pst X W σ g H P2 (r.bind f) Q)
    (k : ∀ d st1 v g1 H1, Nxt X.wd g H g1 st1 H1 → P g1 H1 d v → Pst X W σ g H P2 (f d st1) Q → Q1 v H1) : Pst X W σ g H P r Q1 := by
  cases r with
  | none => exact h
  | some r =>
    obtain ⟨o, st'⟩ := r
    cases o with
    | ok d => exact fun v g' H' n' p => k d st' v g' H' n' p h
    | ex c x => exact h
theorem r_box (h : DN X C W e ce) : DE X C W e (.box ce) := PE.imp h fun σ H Q ⟨g, env, st, H0, R, p⟩ => ⟨g, env, st, H0, R, by
  refine Pst.bindB (show Pst X W σ g H (pR X) ((ev C ce env st).bind fun x s => match x with | .lst xs => some (.ok (.cell s.length), s ++ [.lst xs]) | .dic xs => some (.ok (.cell s.length), s ++ [.dic xs]) | _ => none) Q from p) fun d st1 v g1 H1 n1 r1 p1 => ?_
  have key : ∀ {d : D}, ((∃ a, v = .ref a ∧ H a = none ∧ g1.F a = none ∧ a ∉ g1.ρ ∧ Cont X.wd g1 H1 a d)) → Pst X W σ g H (pR X) (some (.ok (.cell st1.length), st1 ++ [d])) Q → Q v H1 := fun {d} ⟨a, hv, h0, h1, h2, h3⟩ q => by
    subst hv
    have l : Le g1 ⟨g1.F, g1.ρ ++ [a]⟩ := ⟨fun _ _ h => h, [a], rfl⟩
    have S2 : StOk X.wd ⟨g1.F, g1.ρ ++ [a]⟩ (st1 ++ [d]) H1 := by
      refine ⟨n1.ok.sub, ?_, ?_, fun n b d' e1 e2 => ?_⟩
      · show (g1.ρ ++ [a]).length = _
        rw [List.length_append, List.length_append, n1.ok.len]; rfl
      · exact List.nodup_append.mpr ⟨n1.ok.nd, by simp, fun x hx y hy => by
          rw [List.mem_singleton] at hy
          subst hy
          exact fun z => h2 (z ▸ hx)⟩
      · have e1 : (g1.ρ ++ [a])[n]? = some b := e1
        by_cases hn : n < g1.ρ.length
        · rw [List.getElem?_append_left hn] at e1
          rw [List.getElem?_append_left (by rw [← n1.ok.len]; exact hn)] at e2
          obtain ⟨c1, c2⟩ := n1.ok.cel n b d' e1 e2
          exact ⟨c1, c2.le l fun _ q => q⟩
        · have hn2 : n = g1.ρ.length := by
            have := (List.getElem?_eq_some_iff.mp e1).1
            rw [List.length_append] at this
            have h1 : [a].length = 1 := rfl
            omega
          subst hn2
          rw [List.getElem?_append_right (Nat.le_refl _), Nat.sub_self] at e1
          rw [n1.ok.len, List.getElem?_append_right (Nat.le_refl _), Nat.sub_self] at e2
          cases e1
          cases e2
          exact ⟨h1, h3.le l fun _ q => q⟩
    refine q (.ref a) ⟨g1.F, g1.ρ ++ [a]⟩ H1 ⟨n1.le.trans l, n1.new, fun x q => ?_, n1.fr, n1.keep, S2⟩ (.cell ?_)
    · rcases List.mem_append.mp q with q | q
      · exact n1.cnew x q
      · rw [List.mem_singleton] at q
        subst q
        exact .inr h0
    · show (g1.ρ ++ [a])[st1.length]? = some a
      rw [← n1.ok.len, List.getElem?_append_right (Nat.le_refl _), Nat.sub_self]; rfl
  rcases r1 with ⟨c, a, hv, h0, h1, h2, h3⟩ | ⟨c, _⟩
  · cases d <;> first | cases c | skip
    · exact key ⟨a, hv, h0, h1, h2, h3⟩ p1
    · exact key ⟨a, hv, h0, h1, h2, h3⟩ p1
  · cases d <;> first | (cases c; done) | exact p1.elim⟩
/-! ### list(range(..)) -/
theorem upTo_rgV {B : Wd} {g : G} (a : Int) : ∀ n : Nat, RepL B g (upTo a n) ((List.range n).map fun i => V.int (a + (i : Nat))) := fun n => by
  have h : upTo a n = (List.range n).map fun i => D.int (a + (i : Nat)) := by
    refine List.ext_getElem? fun i => ?_
    by_cases hi : i < n
    · rw [upTo_at n a i hi, List.getElem?_map, List.getElem?_range hi]; rfl
    · rw [List.getElem?_eq_none (by rw [upTo_len]; omega), List.getElem?_eq_none (by simp; omega)]
  rw [h]
  induction List.range n with
  | nil => exact .nil
  | cons i l ih => exact .cons (.int _) ih
theorem r_lrng1 {p3 pos2 : Pos} (hc : X.calm = true) (hgl : Gl X "list") (hml : X.mg "list" = none) (hg : Gl X "range") (hm : X.mg "range" = none) (ha : DE X C W a ca) (hs : starEach [a] X.env = (false, eval a X.env) :: starEach [] X.env) :
    DN X C W (.Call (.Name "list" p3) [.Call (.Name "range" p) [a] [] pos2] [] pos) (.lrng [ca]) := PE.imp (pe_listRg hc hgl hml (prg_1 hg hm ha hs) rfl) fun σ H Q ⟨g, env, st, H0, R, p⟩ => ⟨g, env, st, H0, R, by
  have p : Pst X W σ g H (pF X H) (((ev C ca env st).bind fun x s => (some (.ok [x], s) : Res (List D))).bind fun xs s => match rngF xs with | none => none | some xs => if szOk xs.length then some (.ok (.lst xs), s) else none) Q := p
  rw [bind_bind] at p
  refine Pst.bind p fun d st1 v g1 H1 n1 r1 p0 => ?_
  have p1 : Pst X W σ g1 H1 (pF X H) (match rngF [d] with | none => none | some xs => if szOk xs.length then some (.ok (.lst xs), st1) else none) Q := p0
  clear p0
  obtain ⟨j, rfl⟩ : ∃ j, d = .int j := by
    cases d <;> first | exact p1.elim | exact ⟨_, rfl⟩
  have p1 : Pst X W σ g1 H1 (pF X H) (match (if decide (-big ≤ j) && decide (j < big) then some (upTo 0 j.toNat) else none) with | none => none | some xs => if szOk xs.length then some (.ok (.lst xs), st1) else none) Q := p1
  by_cases hj : (decide (-big ≤ j) && decide (j < big)) = true
  · rw [if_pos hj] at p1
    obtain ⟨j1, j2⟩ := Bool.and_eq_true_iff.mp hj
    have j1 := of_decide_eq_true j1
    have j2 := of_decide_eq_true j2
    unfold big at j1 j2
    by_cases hz : szOk (upTo 0 j.toNat).length = true
    · have p1 : Pst X W σ g1 H1 (pF X H) (if szOk (upTo 0 j.toNat).length then some (.ok (.lst (upTo 0 j.toNat)), st1) else none) Q := p1
      rw [if_pos hz] at p1
      have hz := szOk_le hz
      rw [upTo_len, sizeLine_eq] at hz
      have er : (j - 0).toNat = j.toNat := by omega
      refine ⟨j, r1.vwI, ⟨by omega, by omega, by omega, by omega, by rw [er]; exact hz⟩, fun q nq => ?_⟩
      unfold rgV
      rw [er]
      exact (p1.dn n1.keep).lst n1.ok (upTo_rgV 0 _) nq
    · have p1 : Pst X W σ g1 H1 (pF X H) (if szOk (upTo 0 j.toNat).length then some (.ok (.lst (upTo 0 j.toNat)), st1) else none) Q := p1
      rw [if_neg hz] at p1
      exact p1.elim
  · rw [if_neg hj] at p1
    exact p1.elim⟩
/-! ### several names at once -/
def owns : List Bool → List V → List Addr
  | true :: fs, .ref a :: vs => a :: owns fs vs
  | _ :: fs, _ :: vs => owns fs vs
  | _, _ => []
/-- items, some new and their def's own (fs), each apart from the later ones -/
inductive ML (B : Wd) (Hs : Hp) (g : G) (H : Hp) : List Bool → List D → List V → Prop
  | nil : ML B Hs g H [] [] []
  | val {d : D} {v : V} {fs : List Bool} {ds : List D} {vs : List V} : Rep B g d v → ML B Hs g H fs ds vs → ML B Hs g H (false :: fs) (d :: ds) (v :: vs)
  | own {d : D} {a : Addr} {fs : List Bool} {ds : List D} {vs : List V} : Hs a = none → g.F a = none → a ∉ g.ρ → Cont B g H a d → a ∉ owns fs vs → ML B Hs g H fs ds vs → ML B Hs g H (true :: fs) (d :: ds) (.ref a :: vs)
theorem ML.up {B : Wd} {Hs Hs' : Hp} (k : ∀ a, Hs' a = none → Hs a = none) : ∀ {fs : List Bool} {ds : List D} {vs : List V}, ML B Hs' g H fs ds vs → ML B Hs g H fs ds vs
  | _, _, _, .nil => .nil
  | _, _, _, .val r t => .val r (ML.up k t)
  | _, _, _, .own a b c d e t => .own (k _ a) b c d e (ML.up k t)
theorem ML.owns_new {B : Wd} {Hs : Hp} : ∀ {fs : List Bool} {ds : List D} {vs : List V}, ML B Hs g H fs ds vs → ∀ a ∈ owns fs vs, Hs a = none
  | _, _, _, .nil, a, h => by cases h
  | _, _, _, .val (v := v) r t, a, h => by
    cases v <;> exact ML.owns_new t a h
  | _, _, _, .own h0 b c d e t, a, h => by
    rcases List.mem_cons.mp (show a ∈ _ :: owns _ _ from h) with h | h
    · rw [h]; exact h0
    · exact ML.owns_new t a h
def setAll : L2.St → List Nat → List V → L2.St
  | σ, i :: is, v :: vs => setAll (σ.set i (some v)) is vs
  | σ, _, _ => σ
theorem par_ok {B : Wd} {Hs : Hp} (k0 : ∀ a, Hs a = none → H0 a = none) : ∀ {fs : List Bool} {ds : List D} {vs : List V} {is : List Nat} {env env' : Ev} {σ : L2.St}, ML B Hs g H fs ds vs → parF (fs.zip is) ds env = some env' → fs.length = is.length → EnvOk B g env σ H H0 →
    (∀ j e a', slot env j = .own e → σ[j]? = some (some (.ref a')) → a' ∉ owns fs vs) → EnvOk B g env' (setAll σ is vs) H H0
  | [], _, _, [], env, env', σ, .nil, h, _, R, _ => by cases h; exact R
  | false :: fs, _, _, i :: is, env, env', σ, .val (d := d) (v := v) r t, h, hl, R, hn => by
    have hl : fs.length = is.length := by simpa using hl
    have h : parF (fs.zip is) _ (put env i (.val d)) = some env' := h
    refine par_ok (σ := σ.set i (some v)) k0 t h hl (((R.x (E := fun _ => False)).put r).ok fun j q => q.1) fun j e a' h1 h2 => ?_
    rw [slot_put] at h1
    split at h1
    · cases h1
    · rename_i c
      have h3 : σ[j]? = some (some (.ref a')) := by
        by_cases z : i = j
        · subst z
          have : σ.length ≤ i := by
            rw [← R.len]
            exact Nat.le_of_not_lt fun z => c ⟨rfl, z⟩
          rw [List.getElem?_eq_none (by rw [List.length_set]; exact this)] at h2
          cases h2
        · rwa [List.getElem?_set_ne z] at h2
      have := hn j e a' h1 h3
      cases v <;> exact this
  | true :: fs, _, _, i :: is, env, env', σ, .own (d := d) (a := a) q0 q1 q2 q3 q4 t, h, hl, R, hn => by
    have hl : fs.length = is.length := by simpa using hl
    have h : (if canOwn d then parF (fs.zip is) _ (put env i (.own d)) else none) = some env' := h
    split at h
    · refine par_ok (σ := σ.set i (some (.ref a))) k0 t h hl (R.putOwn q1 q2 (k0 _ q0) q3 fun j e a' h1 h2 z => hn j e a' h1 h2 (by rw [z]; exact List.mem_cons_self ..)) fun j e a' h1 h2 => ?_
      rw [slot_put] at h1
      split at h1
      · rename_i c
        obtain ⟨rfl, c⟩ := c
        rw [List.getElem?_set_self (by rw [← R.len]; exact c)] at h2
        cases h2
        exact q4
      · rename_i c
        have h3 : σ[j]? = some (some (.ref a')) := by
          by_cases z : i = j
          · subst z
            have : σ.length ≤ i := by
              rw [← R.len]
              exact Nat.le_of_not_lt fun z => c ⟨rfl, z⟩
            rw [List.getElem?_eq_none (by rw [List.length_set]; exact this)] at h2
            cases h2
          · rwa [List.getElem?_set_ne z] at h2
        exact fun m => hn j e a' h1 h3 (List.mem_cons_of_mem _ m)
    · cases h
/-- items for several names -/
def DM (X : Cx) (C : Cfg) (W : L2.WX) (fs : List Bool) (es : List Expr) (cs : List (Bool × E)) : Prop := PA X es (fun σ H Q => ∃ g env st H0, Rel X.wd g env st σ H H0 ∧ Pst X W σ g H (fun g' H' => ML X.wd H g' H' fs) (evD C cs env st) Q)
theorem m_nil : DM X C W [] [] [] := PA.imp pa_nil fun σ H Q ⟨g, env, st, H0, R, p⟩ => (show Pst X W σ g H _ (some (.ok [], st)) Q from p).okR R.st .nil
theorem m_val {fs : List Bool} {es : List Expr} {cs : List (Bool × E)} (ha : DE X C W a ca) (hr : DM X C W fs es cs) (hs : starEach (a :: es) X.env = (false, eval a X.env) :: starEach es X.env) : DM X C W (false :: fs) (a :: es) ((false, ca) :: cs) := by
  refine PA.imp (pa_cons ha hr hs) fun σ H Q ⟨g, env, st, H0, R, p⟩ => ⟨g, env, st, H0, R, ?_⟩
  refine Pst.bind (show Pst X W σ g H (fun g' H' => ML X.wd H g' H' (false :: fs)) ((ev C ca env st).bind fun x s => (evD C cs env s).bind fun xs s => some (.ok (x :: xs), s)) Q from p) fun d st1 v g1 H1 n1 r1 p1 => ⟨g1, env, st1, H0, R.next n1, ?_⟩
  refine Pst.bind p1 fun ds st2 vs g2 H2 n2 r2 p2 => ?_
  exact p2.okR n2.ok (.val (r1.nxt n2) (r2.up fun a h => n1.none h))
theorem m_own {fs : List Bool} {es : List Expr} {cs : List (Bool × E)} (ha : DN X C W a ca) (hr : DM X C W fs es cs) (hs : starEach (a :: es) X.env = (false, eval a X.env) :: starEach es X.env) (hc : ∀ env s d s', ev C ca env s = some (.ok d, s') → canOwn d = true) : DM X C W (true :: fs) (a :: es) ((false, ca) :: cs) := by
  refine PA.imp (pa_cons ha hr hs) fun σ H Q ⟨g, env, st, H0, R, p⟩ => ⟨g, env, st, H0, R, ?_⟩
  refine Pst.bindR (show Pst X W σ g H (fun g' H' => ML X.wd H g' H' (true :: fs)) ((ev C ca env st).bind fun x s => (evD C cs env s).bind fun xs s => some (.ok (x :: xs), s)) Q from p) fun d st1 v g1 H1 er n1 r1 p1 => ⟨g1, env, st1, H0, R.next n1, ?_⟩
  refine Pst.bind p1 fun ds st2 vs g2 H2 n2 r2 p2 => ?_
  rcases r1 with ⟨_, a, rfl, h0, h1, h2, h3⟩ | ⟨c, _⟩
  · have ac : RepO X.wd g2 H2 d (.ref a) := RepO.nxt n2 (.inr ⟨a, rfl, h1, h2, h3⟩)
    obtain ⟨o, eo⟩ := h3.some
    refine p2.okR n2.ok (.own h0 ?_ (fun m => ?_) (h3.nxt n2 h2) (fun m => ?_) (r2.up fun a h => n1.none h))
    · cases q : g2.F a with
      | none => rfl
      | some o' =>
        rcases n2.new a (by rw [q]; simp) with w | w
        · exact absurd h1 w
        · rw [eo] at w; cases w
    · rcases n2.cnew a m with w | w
      · exact h2 w
      · rw [eo] at w; cases w
    · have := r2.owns_new a m
      rw [eo] at this; cases this
  · rw [hc _ _ _ _ er] at c; cases c
theorem par_fin {fs : List Bool} {is : List Nat} {cs : List (Bool × E)} {D : Ends} (n : Nxt X.wd g0 H0 g st H) (R : Rel X.wd g env st σ H H0) (hl : fs.length = is.length)
    (p : PstS X.wd EX fr g0 H0 g ((evD C cs env st).bind fun xs s => lift ((parF (fs.zip is) xs env).map Fl.nx) s) D) : Pst X (WofE EX) σ g H (fun g' H' => ML X.wd H g' H' fs) (evD C cs env st) fun vs H1 => D.nx (setAll σ is vs) H1 :=
  PstS.bind (X := X) p n fun ds st1 vs g1 H1 _ n1 r1 p1 => by
    obtain ⟨f, hf, p1⟩ := p1.lift1
    cases hb : parF (fs.zip is) ds env with
    | none => rw [hb] at hf; cases hf
    | some env' =>
      rw [hb] at hf; cases hf
      refine p1 g1 _ H1 (n.trans n1) (.refl _) ⟨n1.ok, par_ok (fun a h => n.none h) r1 hb hl (R.next n1).env fun j e a' h1 h2 m => ?_⟩
      exact R.env.old (r1.owns_new a' m) j e a' h1 h2 rfl
theorem PstS.bindR {B : Type} : True := trivial
theorem s_par2 {fs : List Bool} {cs : List (Bool × E)} {px py pt : Pos} {kt k2 : Nat} {pt2 : Pos} (hfs : fs.length = 2) (hc : X.calm = true) (hN : X.N.Nodup) (hi : X.N[i]? = some x) (hj : X.N[j]? = some y) (hij : i ≠ j) (hx : X.env.scope.names.lookup x = some .local) (hy : X.env.scope.names.lookup y = some .local)
    (ha : DM X C (WofE EX) fs [a, b] cs) (hw : swappedStores [.Tuple [.Name x px, .Name y py] kt pt] (.Tuple [a, b] k2 pt2) X.env = pure (some [x, y])) :
    DS X C EX fr (.Assign [.Tuple [.Name x px, .Name y py] kt pt] (.Tuple [a, b] k2 pt2) pos) (.par (fs.zip [i, j]) cs) :=
  PS.imp (ps_par hc hN hi hj hij hx hy ha hw (sw_tup ..)) fun D σ H ⟨g0, H0, g, env, st, n, R, p⟩ => ⟨g, env, st, H0, R, PstS.bind (X := X) (show PstS X.wd EX fr g0 H0 g ((evD C cs env st).bind fun xs s => lift ((parF (fs.zip [i, j]) xs env).map Fl.nx) s) D from p) n fun ds st1 vs g1 H1 _ n1 r1 p1 => by
    obtain ⟨f, hf, p1⟩ := p1.lift1
    cases hb : parF (fs.zip [i, j]) ds env with
    | none => rw [hb] at hf; cases hf
    | some env' =>
      rw [hb] at hf; cases hf
      have fin : D.nx (setAll σ [i, j] vs) H1 := by
        refine p1 g1 _ H1 (n.trans n1) (.refl _) ⟨n1.ok, par_ok (fun a h => n.none h) r1 hb hfs (R.next n1).env fun j e a' h1 h2 m => ?_⟩
        exact R.env.old (r1.owns_new a' m) j e a' h1 h2 rfl
      have hl : ∀ {fs : List Bool} {ds : List PyD.D} {vs : List V}, ML X.wd H g1 H1 fs ds vs → fs.length = vs.length := fun {fs ds vs} m => by
        induction m with
        | nil => rfl
        | val _ _ ih => exact congrArg Nat.succ ih
        | own _ _ _ _ _ _ ih => exact congrArg Nat.succ ih
      have l2 := (hl r1).symm.trans hfs
      match vs, l2 with
      | [v, w], _ => exact ⟨v, w, rfl, fin⟩⟩
theorem s_par3 {c : Expr} {fs : List Bool} {cs : List (Bool × E)} {px py pz pt : Pos} {kt k2 : Nat} {pt2 : Pos} (hfs : fs.length = 3) (hc : X.calm = true) (hN : X.N.Nodup) (hi : X.N[i]? = some x) (hj : X.N[j]? = some y) (hl : X.N[l]? = some z) (hij : i ≠ j) (hil : i ≠ l) (hjl : j ≠ l)
    (hx : X.env.scope.names.lookup x = some .local) (hy : X.env.scope.names.lookup y = some .local) (hz : X.env.scope.names.lookup z = some .local)
    (ha : DM X C (WofE EX) fs [a, b, c] cs) (hw : swappedStores [.Tuple [.Name x px, .Name y py, .Name z pz] kt pt] (.Tuple [a, b, c] k2 pt2) X.env = pure (some [x, y, z])) :
    DS X C EX fr (.Assign [.Tuple [.Name x px, .Name y py, .Name z pz] kt pt] (.Tuple [a, b, c] k2 pt2) pos) (.par (fs.zip [i, j, l]) cs) :=
  PS.imp (ps_par3 hc hN hi hj hl hij hil hjl hx hy hz ha hw (sw_tup ..)) fun D σ H ⟨g0, H0, g, env, st, n, R, p⟩ => ⟨g, env, st, H0, R, PstS.bind (X := X) (show PstS X.wd EX fr g0 H0 g ((evD C cs env st).bind fun xs s => lift ((parF (fs.zip [i, j, l]) xs env).map Fl.nx) s) D from p) n fun ds st1 vs g1 H1 _ n1 r1 p1 => by
    obtain ⟨f, hf, p1⟩ := p1.lift1
    cases hb : parF (fs.zip [i, j, l]) ds env with
    | none => rw [hb] at hf; cases hf
    | some env' =>
      rw [hb] at hf; cases hf
      have fin : D.nx (setAll σ [i, j, l] vs) H1 := by
        refine p1 g1 _ H1 (n.trans n1) (.refl _) ⟨n1.ok, par_ok (fun a h => n.none h) r1 hb hfs (R.next n1).env fun j e a' h1 h2 m => ?_⟩
        exact R.env.old (r1.owns_new a' m) j e a' h1 h2 rfl
      have hl : ∀ {fs : List Bool} {ds : List PyD.D} {vs : List V}, ML X.wd H g1 H1 fs ds vs → fs.length = vs.length := fun {fs ds vs} m => by
        induction m with
        | nil => rfl
        | val _ _ ih => exact congrArg Nat.succ ih
        | own _ _ _ _ _ _ ih => exact congrArg Nat.succ ih
      have l2 := (hl r1).symm.trans hfs
      match vs, l2 with
      | [v1, v2, v3], _ => exact ⟨v1, v2, v3, rfl, fin⟩⟩
end
end PyD

/-! PyDP: from the written expressions to the core language. -/
namespace PyD
open PySem PySem.Spec PyProof.Rows L2
/-- what is known of the names, ahead of any run -/
structure Sg where
  N : List Str
  sc : Scope
  np : Str → Option (Nat × Bool)
  cp : Str → List Nat
  kw : Str → List Str → Option (List Nat)
  gl : Str → Bool
  cl : List Str
def ixOf : List Str → Str → Nat → Option Nat
  | [], _, _ => none
  | y :: ys, x, n => if y == x then some n else ixOf ys x (n + 1)
theorem ixOf_at {x : Str} : ∀ {N : List Str} {n i : Nat}, ixOf N x n = some i → ∃ j, i = n + j ∧ N[j]? = some x
  | [], _, _, h => by cases h
  | y :: ys, n, i, h => by
    have h : (if y == x then some n else ixOf ys x (n + 1)) = some i := h
    by_cases e : (y == x) = true
    · rw [if_pos e] at h
      cases h
      exact ⟨0, rfl, by rw [← beq_iff_eq.mp e]; rfl⟩
    · rw [if_neg e] at h
      obtain ⟨j, e1, e2⟩ := ixOf_at h
      exact ⟨j + 1, by omega, e2⟩
def visB (sc : Scope) (x : Str) : Bool := match sc.names.lookup x with
  | some .local => true
  | some .cell => true
  | some .free => true
  | _ => false
def locB (sc : Scope) (x : Str) : Bool := match sc.names.lookup x with
  | some .local => true
  | some .cell => true
  | _ => false
def lcB (sc : Scope) (x : Str) : Bool := match sc.names.lookup x with
  | some .local => true
  | _ => false
def glB (sc : Scope) (x : Str) : Bool := match sc.names.lookup x with
  | some .globalImplicit => true
  | _ => false
theorem visB_vis {sc : Scope} {x : Str} (h : visB sc x = true) : Vis sc x := by
  unfold visB at h
  split at h
  · exact .inl (by assumption)
  · exact .inr (.inl (by assumption))
  · exact .inr (.inr (by assumption))
  · cases h
theorem locB_loc {sc : Scope} {x : Str} (h : locB sc x = true) : Loc sc x := by
  unfold locB at h
  split at h
  · exact .inl (by assumption)
  · exact .inr (by assumption)
  · cases h
theorem lcB_local {sc : Scope} {x : Str} (h : lcB sc x = true) : sc.names.lookup x = some .local := by
  unfold lcB at h
  split at h
  · assumption
  · cases h
theorem glB_gl {sc : Scope} {x : Str} (h : glB sc x = true) : sc.names.lookup x = some .globalImplicit := by
  unfold glB at h
  split at h
  · assumption
  · cases h
def plainNm (x : Str) : Bool := !(x == ("__debug__" : Str)) && (!(x == ("__classdict__" : Str)) && !(x == ("__name__" : Str)))
theorem plainNm_1 {x : Str} (h : plainNm x = true) : (x == ("__debug__" : Str)) = false ∧ (x == ("__classdict__" : Str)) = false ∧ x ≠ "__name__" := by
  unfold plainNm at h
  obtain ⟨a, h⟩ := Bool.and_eq_true_iff.mp h
  obtain ⟨b, c⟩ := Bool.and_eq_true_iff.mp h
  refine ⟨by simpa using a, by simpa using b, fun e => ?_⟩
  subst e
  simp at c
/-- a name's slot -/
def slotOf (G : Sg) (x : Str) : Option Nat := if plainNm x && visB G.sc x then ixOf G.N x 0 else none
def noStar : Expr → Bool
  | .Starred _ _ => false
  | _ => true
theorem star_ok {e : Expr} {es : List Expr} {env : Env} (h : noStar e = true) : starEach (e :: es) env = (false, eval e env) :: starEach es env := by
  cases e <;> first | rfl | cases h
theorem star_any {pos : Pos} {env : Env} : ∀ {es : List Expr}, es.all noStar = true → (backTo pos (starEach es env)).any (·.1) = false
  | [], _ => rfl
  | e :: es, h => by
    rw [List.all_cons, Bool.and_eq_true] at h
    rw [star_ok h.1]
    exact star_any (es := es) h.2
def BI.nm : BI → String
  | .len => "len" | .list => "list" | .tuple => "tuple" | .sorted => "sorted" | .all => "all" | .any => "any" | .sum => "sum" | .min => "min" | .max => "max" | .abs => "abs" | .int => "int" | .sset => "set" | .divmod => "divmod" | .gcd => "gcd"
def biOf (f : Str) : Option BI := [BI.len, .list, .tuple, .sorted, .all, .any, .sum, .min, .max, .abs, .int, .divmod].find? fun b => f == (b.nm : String)
theorem biOf_nm {f : Str} {b : BI} (h : biOf f = some b) : f = (b.nm : String) ∧ b ≠ .sset ∧ b ≠ .gcd := by
  have h1 := List.find?_some h
  have h2 := List.mem_of_find?_eq_some h
  refine ⟨beq_iff_eq.mp h1, fun e => ?_, fun e => ?_⟩ <;> (subst e; revert h2; decide)
def tyOf (x : Str) : Option Ty := [Ty.bool, .int, .str, .tuple, .list, .dict].find? fun t => x == (t.nm : String)
theorem tyOf_nm {x : Str} {t : Ty} (h : tyOf x = some t) : x = (t.nm : String) := beq_iff_eq.mp (List.find?_some (p := fun t : Ty => x == (t.nm : String)) h)
/-- an expression that always makes something new, or a plain value -/
def isN (np : Str → Option (Nat × Bool)) : E → Bool
  | .bin _ _ _ => true
  | .cmp _ _ _ => true
  | .cmp2 _ _ _ _ _ => true
  | .cmp3 _ _ _ _ _ _ _ => true
  | .tup _ => true
  | .lst _ => true
  | .slc _ _ _ => true
  | .bi _ _ => true
  | .isi _ _ => true
  | .mth _ _ _ => true
  | .comp _ _ _ _ => true
  | .lrng _ => true
  | .call f _ _ => (match np f with
    | some (_, fr) => fr
    | none => false)
  | _ => false
/-- a place that looks alone -/
def pkOr (G : Sg) (e : Expr) (c : E) : E := match e with
  | .Name x _ => (match slotOf G x with
    | some i => .pk i
    | none => c)
  | _ => c
def trNm (G : Sg) (x : Str) : E := match slotOf G x with
  | some i => .var i
  | none => if plainNm x && glB G.sc x then (if G.gl x then .glb x else .stuck) else .stuck
def isNm : Expr → Bool
  | .Name _ _ => true
  | _ => false
/-- an argument of a def of ours: a cell is made where one is wanted -/
def argOf (np : Str → Option (Nat × Bool)) (ps : List Nat) (j : Nat) (e : Expr) (c : E) : E := if ps.contains j && !isNm e then (if isN np c then .box c else .stuck) else c
def argsOf (np : Str → Option (Nat × Bool)) (ps : List Nat) : Nat → List Expr → List E → List E
  | j, e :: es, c :: cs => argOf np ps j e c :: argsOf np ps (j + 1) es cs
  | _, _, _ => []
mutual
def trG (lc : Str → Option Nat) : Expr → Option Tg
  | .Name x _ => (lc x).map Tg.nm
  | .Tuple es _ _ => (trGs lc es).map Tg.tup
  | _ => none
def trGs (lc : Str → Option Nat) : List Expr → Option (List Tg)
  | [] => some []
  | e :: es => (match trG lc e with
    | some t => (match trGs lc es with
      | some ts => some (t :: ts)
      | none => none)
    | none => none)
end
/-- of a block: its own names -/
def slotB (N : List Str) (sc own : Scope) (x : Str) : Option Nat := if plainNm x && (lcB sc x || own.names.lookup x == some .cell) then ixOf N x 0 else none
def ownOf (N : List Str) (is : List Nat) : List (Str × Nat) := is.map fun i => (N.getD i "", i)
def nodupB : List Nat → Bool
  | [] => true
  | x :: xs => !xs.contains x && nodupB xs
def notSet : Expr → Bool
  | .Set _ _ _ => false
  | _ => true
theorem notSet_ok {e : Expr} {env : Env} (h : notSet e = true) (x : Value) : foldedSetIterable e env x = pure x := by
  cases e <;> first | rfl | cases h
/-- a slice's end -/
def endOf (e : Option Expr) (tr : Expr → E) : E := match e with
  | none => .cst .non
  | some e => (let c := tr e; if isNoneE c then .stuck else c)
def notCall : Expr → Bool
  | .Call _ _ _ _ => false
  | _ => true
def isTup : Expr → Bool
  | .Tuple _ _ _ => true
  | _ => false
mutual
def tr : Nat → Sg → Expr → E
  | 0, _, _ => .stuck
  | n + 1, G, e => match e with
    | .Constant (.int i) _ _ => .cst (.int i)
    | .Constant (.bool b) _ _ => .cst (.bl b)
    | .Constant .none _ _ => .cst .non
    | .Constant (.str s) _ _ => .cst (.str s)
    | .Name x _ => trNm G x
    | .BinOp a op b _ => (match BOp.of op with
      | some o => .bin o (pkOr G a (tr n G a)) (pkOr G b (tr n G b))
      | none => .stuck)
    | .UnaryOp .USub a _ => .neg (pkOr G a (tr n G a))
    | .UnaryOp .Not a _ => .not (pkOr G a (tr n G a))
    | .Compare a [op] [b] _ => if behindInMarks op b then .stuck else .cmp (COp.of op) (pkOr G a (tr n G a)) (pkOr G b (tr n G b))
    | .Compare a [o1, o2] [b, c] _ => if lastMarks [o1, o2] [b, c] then .stuck else .cmp2 (COp.of o1) (COp.of o2) (pkOr G a (tr n G a)) (pkOr G b (tr n G b)) (pkOr G c (tr n G c))
    | .Compare a [o1, o2, o3] [b, c, d] _ => if lastMarks [o1, o2, o3] [b, c, d] then .stuck else .cmp3 (COp.of o1) (COp.of o2) (COp.of o3) (pkOr G a (tr n G a)) (pkOr G b (tr n G b)) (pkOr G c (tr n G c)) (pkOr G d (tr n G d))
    | .BoolOp op [a] _ => tr n G a
    | .BoolOp .And (a :: b :: r) p => .and (tr n G a) (tr n G (.BoolOp .And (b :: r) p))
    | .BoolOp .Or (a :: b :: r) p => .or (tr n G a) (tr n G (.BoolOp .Or (b :: r) p))
    | .IfExp c a b _ => .ite (tt n G c) (tr n G a) (tr n G b)
    | .Tuple es _ _ => .tup (es.map fun e => match e with
      | .Starred e _ => (true, tr n G e)
      | e => (false, tr n G e))
    | .List es _ => .lst (es.map fun e => match e with
      | .Starred e _ => (true, tr n G e)
      | e => (false, tr n G e))
    | .Subscript a (.Slice lo hi none _) _ => .slc (pkOr G a (tr n G a)) (endOf lo fun e => pkOr G e (tr n G e)) (endOf hi fun e => pkOr G e (tr n G e))
    | .Subscript a i _ => if notSlc i then .idx (pkOr G a (tr n G a)) (pkOr G i (tr n G i)) else .stuck
    | .Call (.Name f _) [a, .Name y _] [] _ =>
      if f == ("isinstance" : Str) && (glB G.sc f && (glB G.sc y && noStar a)) then (match tyOf y with
        | some t => .isi t (pkOr G a (tr n G a))
        | none => .stuck) else trCall n G f e
    | .Call (.Name f _) [.Call (.Name g _) [a] [] _] [] _ =>
      if f == ("list" : Str) && (g == ("range" : Str) && (glB G.sc f && (glB G.sc g && noStar a))) then .lrng [tr n G a] else trCall n G f e
    | .Call (.Name f _) (_ :: _) [] _ => trCall n G f e
    | .Call (.Name f _) [] (_ :: _) _ => trCall n G f e
    | .Call (.Attribute o m apos) [b] [] cpos => if m == ("index" : Str) && (apos.endLine == cpos.line && (noStar b && notCall o)) then .mth .index (pkOr G o (tr n G o)) [pkOr G b (tr n G b)] else .stuck
    | .ListComp elt [⟨tg, it, ifs, 0⟩] scope _ => trLc n G elt tg it ifs scope
    | _ => .stuck
def tt : Nat → Sg → Expr → E
  | 0, _, _ => .stuck
  | n + 1, G, e => match e with
    | .UnaryOp .Not a _ => .not (tt n G a)
    | .BoolOp op [a] _ => tt n G a
    | .BoolOp .And (a :: b :: r) p => .and (tt n G a) (tt n G (.BoolOp .And (b :: r) p))
    | .BoolOp .Or (a :: b :: r) p => .or (tt n G a) (tt n G (.BoolOp .Or (b :: r) p))
    | .BoolOp _ _ _ => .stuck
    | .IfExp _ _ _ _ => .stuck
    | .Compare a [op] [b] _ => if behindInMarks op b then .stuck else .cmp (COp.of op) (pkOr G a (tr n G a)) (pkOr G b (tr n G b))
    | .Compare a [o1, o2] [b, c] _ => if lastMarks [o1, o2] [b, c] then .stuck else .cmp2 (COp.of o1) (COp.of o2) (pkOr G a (tr n G a)) (pkOr G b (tr n G b)) (pkOr G c (tr n G c))
    | .Compare a [o1, o2, o3] [b, c, d] _ => if lastMarks [o1, o2, o3] [b, c, d] then .stuck else .cmp3 (COp.of o1) (COp.of o2) (COp.of o3) (pkOr G a (tr n G a)) (pkOr G b (tr n G b)) (pkOr G c (tr n G c)) (pkOr G d (tr n G d))
    | .Compare _ _ _ _ => .stuck
    | e => pkOr G e (tr n G e)
def trCall : Nat → Sg → Str → Expr → E
  | 0, _, _, _ => .stuck
  | n + 1, G, f, e => match e with
    | .Call _ (a :: as) [] _ =>
      if plainNm f && (glB G.sc f && (a :: as).all noStar) then
        (match G.np f with
          | some (k, _) => if k == (a :: as).length then .call f (argsOf G.np (G.cp f) 0 (a :: as) ((a :: as).map (tr n G))) [] else .stuck
          | none => (match biOf f with
            | some b => .bi b ((a :: as).map fun e => pkOr G e (tr n G e))
            | none => .stuck))
      else .stuck
    | .Call _ [] (q :: qs) _ =>
      if plainNm f && (glB G.sc f && (q :: qs).all (·.arg.isSome)) then
        (match G.np f, G.kw f ((q :: qs).filterMap (·.arg)) with
          | some _, some (i :: is) => if (q :: qs).length == (i :: is).length then .call f ((q :: qs).map fun q => tr n G q.value) (i :: is) else .stuck
          | _, _ => .stuck)
      else .stuck
    | _ => .stuck
def trLc : Nat → Sg → Expr → Expr → Expr → List Expr → Scope → E
  | 0, _, _, _, _, _, _ => .stuck
  | n + 1, G, elt, tg, it, ifs, scope =>
    let sc' := relS scope G.sc
    let G' : Sg := { G with sc := sc' }
    match trG (slotB G.N sc' scope) tg, trI n true G tg it with
    | some t, some i =>
      if notSet it && (nodupB (tn t) && blkC G.N G.sc scope (ownOf G.N (tn t))) then
        (match ifs with
          | [] => .comp (tr n G' elt) t i []
          | [c] => .comp (tr n G' elt) t i [tt n G' c]
          | _ => .stuck)
      else .stuck
    | _, _ => .stuck
def trI : Nat → Bool → Sg → Expr → Expr → Option I
  | 0, _, _, _, _ => none
  | n + 1, w, G, tg, it => match it with
    | .Call (.Name f _) [a] [] _ =>
      if f == ("range" : Str) && (glB G.sc f && noStar a) then some (.rng [tr n G a])
      else if f == ("enumerate" : Str) && (glB G.sc f && (noStar a && isTup tg)) then some (.enm (tr n G a))
      else some (.seq (tr n G it))
    | .Call (.Name f _) [a, b] [] _ => if f == ("range" : Str) && (glB G.sc f && (noStar a && noStar b)) then some (.rng [tr n G a, tr n G b]) else some (.seq (tr n G it))
    | _ => some (.seq (if w then pkOr G it (tr n G it) else tr n G it))
end
end PyD

/-! PyDQ: what is translated runs as the core language says. -/
namespace PyD
open PySem PySem.Spec PyProof.Rows L2
def bNames : List String := ["len", "list", "tuple", "sorted", "all", "any", "sum", "min", "max", "abs", "int", "divmod", "isinstance", "bool", "str", "dict", "range", "enumerate", "zip", "reversed", "set"]
structure Cok (X : Cx) (C : Cfg) (W : L2.WX) (G : Sg) (k : Nat) : Prop where
  N : X.N = G.N
  sc : X.env.scope = G.sc
  nd : X.N.Nodup
  calm : X.calm = true
  room : Room k X.A
  tk : Takes X W
  fn : ∀ f n fr, G.np f = some (n, fr) → Fk X k (C.fn f) f n fr (G.kw f)
  gl : ∀ x, G.gl x = true → ∃ v u d, X.mg x = some u ∧ RelV v u ∧ C.gl x = some d ∧ ∀ g, Rep X.wd g d v
  bi : ∀ x ∈ bNames, X.mg (x : Str) = none
section
variable {X : Cx} {C : Cfg} {W : L2.WX} {G : Sg} {k : Nat}
theorem Cok.hu (h : Cok X C W G k) : X.A.units + 70 < cLine := by
  have := h.room.un
  omega
theorem Cok.isGl (h : Cok X C W G k) {x : Str} (e : glB G.sc x = true) : Gl X x := by
  show X.env.scope.names.lookup x = _
  rw [h.sc]
  exact glB_gl e
theorem Cok.slot (h : Cok X C W G k) {x : Str} {i : Nat} (e : slotOf G x = some i) : X.N[i]? = some x ∧ Vis X.env.scope x ∧ (x == ("__debug__" : Str)) = false ∧ (x == ("__classdict__" : Str)) = false := by
  unfold slotOf at e
  split at e
  · rename_i q
    obtain ⟨q1, q2⟩ := Bool.and_eq_true_iff.mp q
    obtain ⟨p1, p2, _⟩ := plainNm_1 q1
    obtain ⟨j, e1, e2⟩ := ixOf_at e
    refine ⟨?_, ?_, p1, p2⟩
    · rw [h.N, e1, Nat.zero_add]; exact e2
    · rw [h.sc]; exact visB_vis q2
  · cases e
theorem trNm_ok (h : Cok X C W G k) {x : Str} {pos : Pos} : DE X C W (.Name x pos) (trNm G x) := by
  unfold trNm
  split
  · rename_i i e
    obtain ⟨a, b, c, d⟩ := h.slot e
    exact r_var a b c d
  · split
    · rename_i q
      obtain ⟨q1, q2⟩ := Bool.and_eq_true_iff.mp q
      split
      · rename_i q3
        obtain ⟨v, u, d, h1, h2, h3, h4⟩ := h.gl x q3
        exact r_glb (h.isGl q2) h1 h2 (plainNm_1 q1).1 h3 h4
      · exact r_stuck
    · exact r_stuck
theorem pkOr_ok (h : Cok X C W G k) {e : Expr} {c : E} (hc : DE X C W e c) : DP X C W e (pkOr G e c) := by
  unfold pkOr
  split
  · split
    · rename_i i e
      obtain ⟨a, b, c, d⟩ := h.slot e
      exact r_pk a b c d
    · exact hc.dp
  · exact hc.dp
/-- targets -/
def LcOf (X : Cx) (lc : Str → Option Nat) : Prop := ∀ x i, lc x = some i → X.N[i]? = some x ∧ Loc X.env.scope x ∧ (X.fn x = true ∨ X.env.scope.names.lookup x = some .local)
theorem each_len {env : Env} : ∀ {es : List Expr}, (assignEach es env).length = es.length
  | [] => rfl
  | e :: es => by
    have h : (assignEach (e :: es) env).length = (assignEach es env).length + 1 := by cases e <;> rfl
    rw [h, each_len (es := es)]; rfl
theorem each_cons {env : Env} {e : Expr} {es : List Expr} (h : noStar e = true) : assignEach (e :: es) env = (false, assign e env) :: assignEach es env := by
  cases e <;> first | rfl | cases h
theorem trG_star {lc : Str → Option Nat} {e : Expr} {t : Tg} (h : trG lc e = some t) : noStar e = true := by
  cases e <;> first | rfl | (simp [trG] at h)
theorem trGs_len {lc : Str → Option Nat} : ∀ {es : List Expr} {ts : List Tg}, trGs lc es = some ts → es.length = ts.length ∧ ∀ e ∈ es, noStar e = true
  | [], ts, h => by
    simp [trGs] at h
    subst h
    exact ⟨rfl, fun e h => by cases h⟩
  | e :: es, ts, h => by
    unfold trGs at h
    cases h1 : trG lc e with
    | none => rw [h1] at h; cases h
    | some t =>
      rw [h1] at h
      cases h2 : trGs lc es with
      | none => rw [h2] at h; cases h
      | some ts' =>
        rw [h2] at h
        cases h
        obtain ⟨a, b⟩ := trGs_len h2
        refine ⟨by rw [List.length_cons, List.length_cons, a], fun e' he => ?_⟩
        rcases List.mem_cons.mp he with q | q
        · rw [q]; exact trG_star h1
        · exact b e' q
theorem each_idx {env : Env} : ∀ {es : List Expr}, (∀ e ∈ es, noStar e = true) → (assignEach es env).findIdx? (·.1) = none
  | [], _ => rfl
  | e :: es, h => by
    rw [each_cons (h e (List.mem_cons_self ..)), List.findIdx?_cons, each_idx fun e he => h e (List.mem_cons_of_mem _ he)]
    rfl
mutual
theorem trG_ok {X : Cx} {lc : Str → Option Nat} (hN : X.N.Nodup) (hc : X.calm = true) (hl : LcOf X lc) : ∀ (e : Expr) (t : Tg), trG lc e = some t → DG X e t
  | .Name x p, t, h => by
    have h : (lc x).map Tg.nm = some t := by simpa [trG] using h
    cases e : lc x with
    | none => rw [e] at h; cases h
    | some i =>
      rw [e] at h
      cases h
      obtain ⟨a, b, c⟩ := hl x i e
      exact g_name hN a b c
  | .Tuple es k p, t, h => by
    have h : (trGs lc es).map Tg.tup = some t := by simpa [trG] using h
    cases e : trGs lc es with
    | none => rw [e] at h; cases h
    | some ts =>
      rw [e] at h
      cases h
      obtain ⟨a, b⟩ := trGs_len e
      exact g_tup hc (trGs_ok hN hc hl es ts e) (by rw [each_len, a]) (each_idx b)
  | .BoolOp .., t, h => by simp [trG] at h
  | .NamedExpr .., t, h => by simp [trG] at h
  | .BinOp .., t, h => by simp [trG] at h
  | .UnaryOp .., t, h => by simp [trG] at h
  | .Lambda .., t, h => by simp [trG] at h
  | .IfExp .., t, h => by simp [trG] at h
  | .Dict .., t, h => by simp [trG] at h
  | .Set .., t, h => by simp [trG] at h
  | .ListComp .., t, h => by simp [trG] at h
  | .SetComp .., t, h => by simp [trG] at h
  | .DictComp .., t, h => by simp [trG] at h
  | .GeneratorExp .., t, h => by simp [trG] at h
  | .Await .., t, h => by simp [trG] at h
  | .Yield .., t, h => by simp [trG] at h
  | .YieldFrom .., t, h => by simp [trG] at h
  | .Compare .., t, h => by simp [trG] at h
  | .Call .., t, h => by simp [trG] at h
  | .FormattedValue .., t, h => by simp [trG] at h
  | .JoinedStr .., t, h => by simp [trG] at h
  | .Constant .., t, h => by simp [trG] at h
  | .Attribute .., t, h => by simp [trG] at h
  | .Subscript .., t, h => by simp [trG] at h
  | .Starred .., t, h => by simp [trG] at h
  | .List .., t, h => by simp [trG] at h
  | .Slice .., t, h => by simp [trG] at h
theorem trGs_ok {X : Cx} {lc : Str → Option Nat} (hN : X.N.Nodup) (hc : X.calm = true) (hl : LcOf X lc) : ∀ (es : List Expr) (ts : List Tg), trGs lc es = some ts → DGs X es ts
  | [], ts, h => by
    simp [trGs] at h
    subst h
    exact gs_nil
  | e :: es, ts, h => by
    have h' := h
    unfold trGs at h
    cases h1 : trG lc e with
    | none => rw [h1] at h; cases h
    | some t =>
      rw [h1] at h
      cases h2 : trGs lc es with
      | none => rw [h2] at h; cases h
      | some ts' =>
        rw [h2] at h
        cases h
        exact gs_cons (trG_ok hN hc hl e t h1) (trGs_ok hN hc hl es ts' h2) (by rw [each_cons (trG_star h1)]; rfl)
end
/-- a block's context -/
theorem Cok.blk (h : Cok X C W G k) (s : Shared) (H : Hp) (scope : Scope) (A : Addr) (cl : List (Str × Addr)) (fp : List Addr) : Cok (X.blk s H scope (compEnvC scope cl A X.env) fp) C W0 { G with sc := relS scope G.sc } k where
  N := h.N
  sc := by
    show relabel scope X.env = relS scope G.sc
    unfold relabel relS Env.kindOf
    rw [h.sc]
  nd := h.nd
  calm := h.calm
  room := h.room
  tk := fun u s' ⟨_, _, _, _, _, _, _, _, _, _, _, _, _, _, _, _, w⟩ => w.elim
  fn := fun f n fr e => by
    obtain ⟨l, a, fd, ps, x⟩ := h.fn f n fr e
    exact ⟨l, a, fd, ps, x⟩
  gl := h.gl
  bi := h.bi
theorem slotB_lc {N : List Str} {sc own : Scope} (hN : X.N = N) (hs : X.env.scope = relS own sc) (hf : ∀ x, X.fn x = (own.names.lookup x == some .cell)) : LcOf X (slotB N (relS own sc) own) := fun x i e => by
  unfold slotB at e
  split at e
  · rename_i q
    obtain ⟨q1, q2⟩ := Bool.and_eq_true_iff.mp q
    obtain ⟨j, e1, e2⟩ := ixOf_at e
    refine ⟨by rw [hN, e1, Nat.zero_add]; exact e2, ?_⟩
    rw [hs]
    rcases Bool.or_eq_true_iff.mp q2 with q2 | q2
    · have l := lcB_local q2
      exact ⟨.inl l, .inr l⟩
    · exact ⟨.inr (lookup_relS_keep (by decide) (beq_iff_eq.mp q2)), .inl (by rw [hf]; exact q2)⟩
  · cases e
theorem ownOf_map (N : List Str) (is : List Nat) : (ownOf N is).map (·.2) = is := by
  unfold ownOf
  rw [List.map_map]
  exact List.map_id' is
end
end PyD

/-! PyDR: the translation of expressions is sound. -/
namespace PyD
open PySem PySem.Spec PyProof.Rows L2
def LcOk (X : Cx) (C : Cfg) (W : L2.WX) (elt tg it : Expr) (ifs : List Expr) (scope : Scope) (c : E) : Prop := c = .stuck ∨ ∃ (ce : E) (t : Tg) (i : I) (cs : List E) (own : List (Str × Nat)), c = .comp ce t i cs ∧ DI X C W tg it i ∧ BlkOk X.N X.env.scope scope own ∧ own.map (·.2) = tn t ∧
  (∀ (s : Shared) (H : Hp) (A : Addr) (cl : List (Str × Addr)) (fp : List Addr), DG (X.blk s H scope (compEnvC scope cl A X.env) fp) tg t) ∧ (∀ (s : Shared) (H : Hp) (A : Addr) (cl : List (Str × Addr)) (fp : List Addr), DTs (X.blk s H scope (compEnvC scope cl A X.env) fp) C W0 ifs cs) ∧
  (∀ (s : Shared) (H : Hp) (A : Addr) (cl : List (Str × Addr)) (fp : List Addr), DE (X.blk s H scope (compEnvC scope cl A X.env) fp) C W0 elt ce) ∧ ∀ x, foldedSetIterable it X.env x = pure x
def EN (X : Cx) (C : Cfg) (W : L2.WX) (np : Str → Option (Nat × Bool)) (e : Expr) (c : E) : Prop := DE X C W e c ∧ (isN np c = true → DN X C W e c)
structure Snd (m : Nat) : Prop where
  e : ∀ {X : Cx} {C : Cfg} {W : L2.WX} {G : Sg} {k : Nat}, Cok X C W G k → ∀ e, EN X C W G.np e (tr m G e)
  t : ∀ {X : Cx} {C : Cfg} {W : L2.WX} {G : Sg} {k : Nat}, Cok X C W G k → ∀ e, TB X C W e (tt m G e)
  w : ∀ {X : Cx} {C : Cfg} {W : L2.WX} {G : Sg} {k : Nat}, Cok X C W G k → ∀ op vs p, TW X C W (.BoolOp op vs p) (tt m G (.BoolOp op vs p))
  c : ∀ {X : Cx} {C : Cfg} {W : L2.WX} {G : Sg} {k : Nat}, Cok X C W G k → ∀ f p args kws pos, EN X C W G.np (.Call (.Name f p) args kws pos) (trCall m G f (.Call (.Name f p) args kws pos))
  l : ∀ {X : Cx} {C : Cfg} {W : L2.WX} {G : Sg} {k : Nat}, Cok X C W G k → ∀ elt tg it ifs scope, LcOk X C W elt tg it ifs scope (trLc m G elt tg it ifs scope)
  i : ∀ {X : Cx} {C : Cfg} {W : L2.WX} {G : Sg} {k : Nat}, Cok X C W G k → ∀ w tg it i, trI m w G tg it = some i → DI X C W tg it i ∧ (w = false → DIF X C W tg it i)
section
variable {X : Cx} {C : Cfg} {W : L2.WX} {G : Sg} {k n : Nat} {e a b : Expr} {c ca cb : E} {np : Str → Option (Nat × Bool)} {p pos : Pos}
theorem EN.nw (h : DN X C W e c) : EN X C W np e c := ⟨h.de, fun _ => h⟩
theorem EN.v (h : DE X C W e c) (q : isN np c = false) : EN X C W np e c := ⟨h, fun z => by rw [q] at z; cases z⟩
theorem EN.stuck : EN X C W np e .stuck := .v r_stuck rfl
theorem tb_stuck : TB X C W e .stuck := ⟨fun pins s σ H Q I ⟨_, _, _, _, _, p⟩ => p.elim⟩
theorem tw_stuck : TW X C W e .stuck := ⟨fun w pins s σ H Q I ⟨_, _, _, _, _, p⟩ => p.elim⟩
theorem all_pk (h : Snd n) (K : Cok X C W G k) : ∀ {es : List Expr}, es.all noStar = true → DAo X C W es (es.map fun e => pkOr G e (tr n G e))
  | [], _ => ao_nil
  | e :: es, q => by
    rw [List.all_cons, Bool.and_eq_true] at q
    exact ao_cons (pkOr_ok K (h.e K e).1) (all_pk h K q.2) (star_ok q.1)
theorem all_arg (h : Snd n) (K : Cok X C W G k) (ps : List Nat) : ∀ {es : List Expr} (j : Nat), es.all noStar = true → DA X C W es (argsOf G.np ps j es (es.map (tr n G)))
  | [], _, _ => a_nil
  | e :: es, j, q => by
    rw [List.all_cons, Bool.and_eq_true] at q
    refine a_cons ?_ (all_arg h K ps (j + 1) q.2) (star_ok q.1)
    unfold argOf
    split
    · split
      · rename_i hn
        exact r_box ((h.e K e).2 hn)
      · exact r_stuck
    · exact (h.e K e).1
theorem all_disp (h : Snd n) (K : Cok X C W G k) : ∀ (es : List Expr), DD X C W es (es.map fun e => match e with | .Starred e _ => (true, tr n G e) | e => (false, tr n G e))
  | [] => d_nil
  | e :: es => by
    rw [List.map_cons]
    by_cases q : noStar e = true
    · have key : ∀ x : Bool × E, x = (false, tr n G e) → DD X C W (e :: es) (x :: es.map fun e => match e with | .Starred e _ => (true, tr n G e) | e => (false, tr n G e)) := fun x ex => by
        subst ex
        exact d_cons (h.e K e).1 (all_disp h K es) (star_ok q)
      refine key _ ?_
      cases e <;> first | rfl | cases q
    · cases e <;> first | exact absurd rfl q | skip
      exact d_star (h.e K _).1 (all_disp h K es)
theorem end_ok (h : Snd n) (K : Cok X C W G k) (e : Option Expr) : DO X C W e (endOf e fun e => pkOr G e (tr n G e)) := by
  cases e with
  | none => exact o_none
  | some e =>
    show DO X C W (some e) (if isNoneE (pkOr G e (tr n G e)) then .stuck else pkOr G e (tr n G e))
    split
    · exact o_some r_stuck.dp rfl
    · rename_i q
      exact o_some (pkOr_ok K (h.e K e).1) (by simpa using q)
theorem plainIx_ok {i : Expr} (h : notSlc i = true) : PlainIx i := fun o v => by
  cases i <;> first | rfl | cases h
theorem plain_e (h : match e with | .UnaryOp .Not _ _ => False | .BoolOp _ _ _ => False | .IfExp _ _ _ _ => False | .Compare _ _ _ _ => False | _ => True) (env : Env) : ∀ whole, isTrue e env whole = (do let v ← whole; standAt e.pos; holding [v] (truthy v)) := fun whole => by
  cases e <;> first | rfl | exact h.elim | skip
  rename_i op x p
  cases op <;> first | rfl | exact h.elim
theorem bi_call {b : BI} {x : Str} {es : List Expr} {cs : List E} (K : Cok X C W G k) (hx : x = (b.nm : String)) (h1 : b ≠ .sset) (h2 : b ≠ .gcd) (hg : Gl X x) (ha : DAo X C W (e :: es) cs) (he : (e :: es).all noStar = true) : DN X C W (.Call (.Name x p) (e :: es) [] pos) (.bi b cs) := by
  subst hx
  rw [List.all_cons, Bool.and_eq_true] at he
  cases b <;> first
    | exact absurd rfl h1
    | exact absurd rfl h2
    | exact r_biB K.hu K.calm rfl hg (K.bi _ (by decide)) (by decide +kernel) (by decide +kernel) (by decide +kernel) ha (star_ok he.1) (star_any he.2)
    | exact r_biT K.hu K.calm rfl hg (K.bi _ (by decide)) (by decide +kernel) (by decide +kernel) (by decide +kernel) ha (star_ok he.1) (star_any he.2)
theorem snd_e (h : Snd n) (K : Cok X C W G k) (e : Expr) : EN X C W G.np e (tr (n + 1) G e) := by
  unfold tr
  split
  · exact .v r_int rfl
  · exact .v r_bl rfl
  · exact .v r_non rfl
  · exact .v r_str rfl
  · rename_i x pos
    refine .v (trNm_ok K) ?_
    unfold trNm
    split
    · rfl
    · split
      · split <;> rfl
      · rfl
  · rename_i a op b pos
    cases ho : BOp.of op with
    | none => exact .stuck
    | some o =>
      rw [← BOp.of_op ho]
      exact .nw (r_bin o (pkOr_ok K (h.e K a).1) (pkOr_ok K (h.e K b).1))
  · rename_i a pos
    exact .v (r_neg (pkOr_ok K (h.e K a).1)) rfl
  · rename_i a pos
    exact .v (r_not (pkOr_ok K (h.e K a).1)) rfl
  · rename_i a op b pos
    split
    · exact .stuck
    · rename_i q
      have r := r_cmp (pos := pos) K.hu (COp.of op) (pkOr_ok K (h.e K a).1) (pkOr_ok K (h.e K b).1) (by rw [COp.of_op]; simpa using q)
      rw [COp.of_op] at r
      exact .nw r
  · rename_i a o1 o2 b c pos
    split
    · exact .stuck
    · rename_i q
      have r := r_cmp2 (pos := pos) K.hu (COp.of o1) (COp.of o2) (pkOr_ok K (h.e K a).1) (pkOr_ok K (h.e K b).1) (pkOr_ok K (h.e K c).1) (by rw [COp.of_op, COp.of_op]; simpa using q)
      rw [COp.of_op, COp.of_op] at r
      exact .nw r
  · rename_i a o1 o2 o3 b c d pos
    split
    · exact .stuck
    · rename_i q
      have r := r_cmp3 (pos := pos) K.hu (COp.of o1) (COp.of o2) (COp.of o3) (pkOr_ok K (h.e K a).1) (pkOr_ok K (h.e K b).1) (pkOr_ok K (h.e K c).1) (pkOr_ok K (h.e K d).1) (by rw [COp.of_op, COp.of_op, COp.of_op]; simpa using q)
      rw [COp.of_op, COp.of_op, COp.of_op] at r
      exact .nw r
  · rename_i op a pos
    exact ⟨pe_one (h.e K a).1, fun q => pe_one ((h.e K a).2 q)⟩
  · rename_i a b r pos
    exact .v (r_and (h.e K a).1 (h.e K _).1) rfl
  · rename_i a b r pos
    exact .v (r_or (h.e K a).1 (h.e K _).1) rfl
  · rename_i c a b pos
    exact .v (r_ite (h.t K c) (h.e K a).1 (h.e K b).1) rfl
  · rename_i es k pos
    exact .nw (r_tup (all_disp h K es))
  · rename_i es pos
    exact .nw (r_lst (all_disp h K es))
  · rename_i a lo hi p2 pos
    exact .nw (r_slc (pkOr_ok K (h.e K a).1) (end_ok h K lo) (end_ok h K hi))
  · rename_i a i pos _
    split
    · rename_i q
      exact .v (r_idx K.hu (pkOr_ok K (h.e K a).1) (pkOr_ok K (h.e K i).1) (plainIx_ok q)) rfl
    · exact .stuck
  · rename_i f p1 a y p2 pos
    split
    · rename_i q
      simp only [Bool.and_eq_true, beq_iff_eq] at q
      obtain ⟨q1, q2, q3, q4⟩ := q
      cases ht : tyOf y with
      | none => exact .stuck
      | some t =>
        have e1 := tyOf_nm ht
        subst q1 e1
        refine .nw (r_isi (K.isGl q2) (K.bi _ (by decide)) (K.isGl q3) (K.bi _ ?_) (pkOr_ok K (h.e K a).1) (star_ok q4))
        cases t <;> decide
    · exact h.c K ..
  · rename_i f p1 g p2 a p3 pos
    split
    · rename_i q
      simp only [Bool.and_eq_true, beq_iff_eq] at q
      obtain ⟨q1, q2, q3, q4, q5⟩ := q
      subst q1 q2
      exact .nw (r_lrng1 K.calm (K.isGl q3) (K.bi _ (by decide)) (K.isGl q4) (K.bi _ (by decide)) (h.e K a).1 (star_ok q5))
    · exact h.c K ..
  · exact h.c K ..
  · exact h.c K ..
  · rename_i o m apos b cpos
    split
    · rename_i q
      simp only [Bool.and_eq_true, beq_iff_eq] at q
      obtain ⟨q1, q2, q3, q4⟩ := q
      subst q1
      exact .nw (r_index K.hu (pkOr_ok K (h.e K o).1) (pkOr_ok K (h.e K b).1) (base_ok q4) (by rw [q2]; simp) (by rw [star_ok q3]; rfl))
    · exact .stuck
  · rename_i elt tg it ifs scope pos
    rcases h.l K elt tg it ifs scope with q | ⟨ce, t, i, cs, own, q, h1, h2, h3, h4, h5, h6, h7⟩
    · rw [q]; exact .stuck
    · rw [q]
      exact .nw (r_comp K.calm K.nd h1 h2 h3 h4 h5 h6 h7)
  · exact .stuck
theorem snd_w (h : Snd n) (K : Cok X C W G k) (op : BoolOp) (vs : List Expr) (p : Pos) : TW X C W (.BoolOp op vs p) (tt (n + 1) G (.BoolOp op vs p)) := by
  unfold tt
  match op, vs with
  | .And, [] => exact tw_stuck
  | .Or, [] => exact tw_stuck
  | .And, [a] => exact w_and1 (h.t K a)
  | .Or, [a] => exact w_or1 (h.t K a)
  | .And, a :: b :: r => exact w_and (h.t K a) (h.w K ..)
  | .Or, a :: b :: r => exact w_or (h.t K a) (h.w K ..)
theorem snd_t (h : Snd n) (K : Cok X C W G k) (e : Expr) : TB X C W e (tt (n + 1) G e) := by
  by_cases hb : (match e with | .BoolOp _ _ _ => true | _ => false) = true
  · cases e <;> first | exact (snd_w h K ..).tb | cases hb
  unfold tt
  split
  · exact t_not (h.t K _)
  · exact absurd rfl hb
  · exact absurd rfl hb
  · exact absurd rfl hb
  · exact absurd rfl hb
  · exact tb_stuck
  · rename_i a op b p
    split
    · exact tb_stuck
    · rename_i q
      have r := t_cmp (pos := p) K.hu (COp.of op) (pkOr_ok K (h.e K a).1) (pkOr_ok K (h.e K b).1) (by rw [COp.of_op]; simpa using q)
      rw [COp.of_op] at r
      exact r
  · rename_i a o1 o2 b c p
    split
    · exact tb_stuck
    · rename_i q
      have r := t_cmp2 (pos := p) K.hu (COp.of o1) (COp.of o2) (pkOr_ok K (h.e K a).1) (pkOr_ok K (h.e K b).1) (pkOr_ok K (h.e K c).1) (by rw [COp.of_op, COp.of_op]; simpa using q)
      rw [COp.of_op, COp.of_op] at r
      exact r
  · rename_i a o1 o2 o3 b c d p
    split
    · exact tb_stuck
    · rename_i q
      have r := t_cmp3 (pos := p) K.hu (COp.of o1) (COp.of o2) (COp.of o3) (pkOr_ok K (h.e K a).1) (pkOr_ok K (h.e K b).1) (pkOr_ok K (h.e K c).1) (pkOr_ok K (h.e K d).1) (by rw [COp.of_op, COp.of_op, COp.of_op]; simpa using q)
      rw [COp.of_op, COp.of_op, COp.of_op] at r
      exact r
  · exact tb_stuck
  · refine t_val (pkOr_ok K (h.e K _).1) (plain_e ?_ _)
    rename_i h1 h2 h3 h4 h5 h6 h7 h8 h8b h9
    cases e <;> first | trivial | exact h6 _ _ _ _ rfl | exact h9 _ _ _ _ rfl | skip
    rename_i op x p
    cases op <;> first | trivial | exact h1 _ _ rfl
theorem pl_ne {α : Type} {pl : List α} {i : α} {is : List α} (h : pl = i :: is) : pl ≠ [] := by rw [h]; exact List.cons_ne_nil _ _
theorem kws_some {env : Env} : ∀ {qs : List Keyword}, qs.all (·.arg.isSome) = true → (backToKw pos (keywordEach qs env)).all (·.1.isSome) = true ∧ (backToKw pos (keywordEach qs env)).filterMap (·.1) = qs.filterMap (·.arg) ∧ (backToKw pos (keywordEach qs env)).any (·.1.isNone) = false ∧ (qs.filterMap (·.arg)).length = qs.length
  | [], _ => ⟨rfl, rfl, rfl, rfl⟩
  | q :: qs, h => by
    rw [List.all_cons, Bool.and_eq_true] at h
    obtain ⟨a, b, c, d⟩ := kws_some (env := env) h.2
    obtain ⟨nm, v, p⟩ := q
    cases nm with
    | none => cases h.1
    | some x =>
      refine ⟨?_, ?_, ?_, ?_⟩
      · show (true && (backToKw pos (keywordEach qs env)).all (·.1.isSome)) = true
        rw [a]; rfl
      · show x :: (backToKw pos (keywordEach qs env)).filterMap (·.1) = x :: qs.filterMap (·.arg)
        rw [b]
      · show (false || (backToKw pos (keywordEach qs env)).any (·.1.isNone)) = false
        rw [c]; rfl
      · show (x :: qs.filterMap (·.arg)).length = _
        rw [List.length_cons, List.length_cons, d]
theorem all_kw (h : Snd n) (K : Cok X C W G k) : ∀ (qs : List Keyword), DK X C W qs (qs.map fun q => tr n G q.value)
  | [] => k_nil
  | ⟨nm, v, p⟩ :: qs => k_cons (h.e K v).1 (all_kw h K qs)
theorem DF.en {f : Str} {m : Nat} {fr : Bool} {cs : List E} {pl : List Nat} (h : DF X C W fr e (.call f cs pl)) (hn : G.np f = some (m, fr)) : EN X C W G.np e (.call f cs pl) := by
  refine ⟨h.de, fun q => ?_⟩
  have q : (match G.np f with | some (_, fr) => fr | none => false) = true := q
  rw [hn] at q
  have q : fr = true := q
  subst q
  exact h
theorem snd_c (h : Snd n) (K : Cok X C W G k) (f : Str) (p : Pos) (args : List Expr) (kws : List Keyword) (pos : Pos) : EN X C W G.np (.Call (.Name f p) args kws pos) (trCall (n + 1) G f (.Call (.Name f p) args kws pos)) := by
  unfold trCall
  split
  · rename_i x a as ps he
    injection he with e1 e2 e3 e4
    subst e1 e2 e3 e4
    split
    · rename_i q
      simp only [Bool.and_eq_true] at q
      obtain ⟨q1, q2, q3⟩ := q
      have q4 := q3
      rw [List.all_cons, Bool.and_eq_true] at q4
      split
      · rename_i m fr hn
        split
        · rename_i ql
          refine DF.en ?_ hn
          exact r_call K.tk K.room (K.fn f m fr hn) (K.isGl q2) (plainNm_1 q1).1 (all_arg h K (G.cp f) 0 q3) (star_ok q4.1) (star_any q4.2)
        · exact .stuck
      · split
        · rename_i b hb
          obtain ⟨b1, b2, b3⟩ := biOf_nm hb
          exact .nw (bi_call K b1 b2 b3 (K.isGl q2) (all_pk h K q3) q3)
        · exact .stuck
    · exact .stuck
  · rename_i x q qs ps he
    injection he with e1 e2 e3 e4
    subst e1 e2 e3 e4
    split
    · rename_i qq
      simp only [Bool.and_eq_true] at qq
      obtain ⟨q1, q2, q3⟩ := qq
      split
      · rename_i mfr i is hn hk
        obtain ⟨m, fr⟩ := mfr
        split
        · rename_i ql
          refine DF.en ?_ hn
          obtain ⟨k1, k2, k3, k4⟩ := kws_some (pos := pos) (env := X.env) q3
          exact r_callK K.tk K.room (K.fn f m fr hn) (K.isGl q2) (plainNm_1 q1).1 (all_kw h K _) hk (List.cons_ne_nil _ _) k1 k2 (by rw [k4, List.length_map]) (by rw [k3]; rfl)
        · exact .stuck
      · exact .stuck
    · exact .stuck
  · exact .stuck
theorem snd_i (h : Snd n) (K : Cok X C W G k) (w : Bool) (tg it : Expr) (i : I) (e : trI (n + 1) w G tg it = some i) : DI X C W tg it i ∧ (w = false → DIF X C W tg it i) := by
  have key : DIF X C W tg it i → DI X C W tg it i ∧ (w = false → DIF X C W tg it i) := fun h => ⟨h.di, fun _ => h⟩
  unfold trI at e
  split at e
  · rename_i f p a pos
    split at e
    · rename_i q
      cases e
      simp only [Bool.and_eq_true, beq_iff_eq] at q
      obtain ⟨q1, q2, q3⟩ := q
      subst q1
      exact key (i_rng1 (K.isGl q2) (K.bi _ (by decide)) (a_cons (h.e K a).1 a_nil (star_ok q3)) (star_ok q3))
    · split at e
      · rename_i q
        cases e
        simp only [Bool.and_eq_true, beq_iff_eq] at q
        obtain ⟨q1, q2, q3, q4⟩ := q
        subst q1
        cases tg <;> first | cases q4 | skip
        exact key (i_enm (K.isGl q2) (K.bi _ (by decide)) (h.e K a).1 (star_ok q3))
      · cases e
        exact key (i_seqF (h.e K _).1)
  · rename_i f p a b pos
    split at e
    · rename_i q
      cases e
      simp only [Bool.and_eq_true, beq_iff_eq] at q
      obtain ⟨q1, q2, q3, q4⟩ := q
      subst q1
      exact key (i_rng2 (K.isGl q2) (K.bi _ (by decide)) (a_cons (h.e K a).1 (a_cons (h.e K b).1 a_nil (star_ok q4)) (star_ok q3)) (by rw [star_ok q3, star_ok q4]; rfl) (star_ok q4))
    · cases e
      exact key (i_seqF (h.e K _).1)
  · cases e
    cases w with
    | true => exact ⟨i_seq (pkOr_ok K (h.e K it).1), fun z => by cases z⟩
    | false => exact key (i_seqF (h.e K it).1)
theorem snd_l (h : Snd n) (K : Cok X C W G k) (elt tg it : Expr) (ifs : List Expr) (scope : Scope) : LcOk X C W elt tg it ifs scope (trLc (n + 1) G elt tg it ifs scope) := by
  unfold trLc
  simp only []
  split
  · rename_i t i ht hi
    split
    · rename_i q
      simp only [Bool.and_eq_true] at q
      obtain ⟨q1, q2, q3⟩ := q
      have ok : BlkOk X.N X.env.scope scope (ownOf G.N (tn t)) := by
        rw [K.N, K.sc]
        exact blkOk_by q3
      have hg : ∀ (s : Shared) (H : Hp) (A : Addr) (cl : List (Str × Addr)) (fp : List Addr), DG (X.blk s H scope (compEnvC scope cl A X.env) fp) tg t := fun s H A cl fp => by
        have KB := K.blk s H scope A cl fp
        exact trG_ok KB.nd KB.calm (slotB_lc KB.N KB.sc fun x => rfl) tg t ht
      split
      · exact .inr ⟨_, t, i, _, _, rfl, (h.i K true tg it i hi).1, ok, ownOf_map .., hg, fun s H A cl fp => ts_nil, fun s H A cl fp => (h.e (K.blk s H scope A cl fp) elt).1, notSet_ok q1⟩
      · rename_i c
        exact .inr ⟨_, t, i, _, _, rfl, (h.i K true tg it i hi).1, ok, ownOf_map .., hg, fun s H A cl fp => ts_one (h.t (K.blk s H scope A cl fp) c), fun s H A cl fp => (h.e (K.blk s H scope A cl fp) elt).1, notSet_ok q1⟩
      · exact .inl rfl
    · exact .inl rfl
  · exact .inl rfl
end
theorem snd : ∀ n, Snd n
  | 0 => ⟨fun K e => .stuck, fun K e => tb_stuck, fun K op vs p => tw_stuck, fun K f p args kws pos => .stuck, fun K elt tg it ifs scope => .inl rfl, fun K w tg it i e => by cases e⟩
  | n + 1 => ⟨fun K e => snd_e (snd n) K e, fun K e => snd_t (snd n) K e, fun K op vs p => snd_w (snd n) K op vs p, fun K f p args kws pos => snd_c (snd n) K f p args kws pos, fun K elt tg it ifs scope => snd_l (snd n) K elt tg it ifs scope, fun K w tg it i e => snd_i (snd n) K w tg it i e⟩
end PyD

/-! PyDS: statements, from the written ones to the core language. -/
namespace PyD
open PySem PySem.Spec PyProof.Rows L2
/-- the names whose things a suite changes -/
def mutT : Expr → List Str
  | .Subscript (.Name x _) _ _ => [x]
  | .Tuple es _ _ => es.filterMap fun e => match e with
    | .Subscript (.Name x _) _ _ => some x
    | _ => none
  | _ => []
mutual
def mutS : Nat → Stmt → List Str
  | 0, _ => []
  | n + 1, s => match s with
    | .Expr (.Call (.Attribute (.Name x _) m _) _ _ _) _ => if m == ("append" : Str) || m == ("extend" : Str) then [x] else []
    | .Assign [t] _ _ => mutT t
    | .If _ a b _ => mutSs n a ++ mutSs n b
    | .For _ _ a b _ => mutSs n a ++ mutSs n b
    | .While _ a b _ => mutSs n a ++ mutSs n b
    | _ => []
def mutSs : Nat → List Stmt → List Str
  | 0, _ => []
  | _ + 1, [] => []
  | n + 1, s :: ss => mutS n s ++ mutSs n ss
end
mutual
/-- what is given back -/
def retS : Nat → Stmt → List (Option Expr)
  | 0, _ => [none]
  | n + 1, s => match s with
    | .Return e _ => [e]
    | .If _ a b _ => retSs n a ++ retSs n b
    | .For _ _ a b _ => retSs n a ++ retSs n b
    | .While _ a b _ => retSs n a ++ retSs n b
    | _ => []
def retSs : Nat → List Stmt → List (Option Expr)
  | 0, _ => [none]
  | _ + 1, [] => []
  | n + 1, s :: ss => retS n s ++ retSs n ss
end
def isLst : Option Expr → Bool
  | some (.List _ _) => true
  | _ => false
/-- a def that gives back nothing but new lists -/
def frOf (body : List Stmt) : Bool := let r := retSs 60 body; !r.isEmpty && r.all isLst
def notComp : Expr → Bool
  | .ListComp _ _ _ _ => false
  | .SetComp _ _ _ _ => false
  | .DictComp _ _ _ _ _ => false
  | _ => true
def nmsOf (sc : Scope) (ts : List Expr) (line : Nat) : List Str := ts.filterMap fun
    | .Name id pos => if sc.names.lookup id == some .local && pos.line == line then some id else none
    | _ => none
/-- what the stores of a tuple to a tuple are -/
def swF (sc : Scope) (ts vs : List Expr) : Option (Option (List Str)) :=
  if !(ts.length == 2 || ts.length == 3) || vs.length != ts.length then some none
  else if vs.any fun | .Starred .. => true | _ => false then some none
  else if (nmsOf sc ts ((ts.head?.map (·.pos.line)).getD 0)).length != ts.length || (nmsOf sc ts ((ts.head?.map (·.pos.line)).getD 0)).eraseDups.length != (nmsOf sc ts ((ts.head?.map (·.pos.line)).getD 0)).length then some none
  else if vs.all (foldedForSure 8) then some none
  else if vs.all (constantsAlone 8) then none
  else some (some (nmsOf sc ts ((ts.head?.map (·.pos.line)).getD 0)))
theorem swF_ok {sc : Scope} {env : Env} {ts vs : List Expr} {k k2 : Nat} {p p2 : Pos} {r : Option (List Str)} (hs : env.scope = sc) (hk : sc.kind = .function) (h : swF sc ts vs = some r) : swappedStores [.Tuple ts k p] (.Tuple vs k2 p2) env = pure r := by
  have hb : env.blockKind = .function := by
    unfold Env.blockKind
    rw [hs, hk]; rfl
  unfold swF at h
  unfold swappedStores
  simp only [hb, Env.kindOf, hs]
  have e0 : ∀ b : Bool, (b || (ScopeKind.function != ScopeKind.function)) = b := fun b => by cases b <;> rfl
  rw [e0]
  split at h
  · rename_i q
    cases h
    exact if_pos q
  · rename_i q
    refine (if_neg q).trans ?_
    split at h
    · rename_i q2
      cases h
      exact if_pos q2
    · rename_i q2
      refine (if_neg q2).trans ?_
      split at h
      · rename_i q3
        cases h
        exact if_pos q3
      · rename_i q3
        refine (if_neg q3).trans ?_
        split at h
        · rename_i q4
          cases h
          exact if_pos q4
        · rename_i q4
          refine (if_neg q4).trans ?_
          split at h
          · cases h
          · rename_i q5
            refine (if_neg q5).trans ?_
            cases h
            rfl
theorem sw_nt {t e : Expr} {env : Env} (h : isTup e = false) : swappedStores [t] e env = pure none := by
  cases t <;> first | rfl | skip
  all_goals (cases e <;> first | rfl | cases h)
/-- a def's own names: those whose things are changed have places of their own -/
def slotF (G : Sg) (mu : List Str) (x : Str) : Option Nat := if plainNm x && (locB G.sc x && !mu.contains x) then ixOf G.N x 0 else none
def slotM (G : Sg) (x : Str) : Option Nat := if plainNm x && locB G.sc x then ixOf G.N x 0 else none
/-- does a comprehension's list go straight into its name -/
def swapB (sc : Scope) (e : Expr) (x : Str) (p : Pos) : Bool := match e with
  | .ListComp _ _ s q => sc.names.lookup x == some .local && (p.line == q.line && !(s.names.any fun (n, k) => n == x && (k == .local || k == .cell)))
  | _ => false
/-- makes a list, always -/
def isDisp : E → Bool
  | .lst _ => true
  | .lrng _ => true
  | _ => false
def parOk (G : Sg) (mu : List Str) : List Str → List Bool → List E → Bool
  | x :: xs, f :: fs, c :: cs => (f == mu.contains x) && ((if f then isDisp c else true) && parOk G mu xs fs cs)
  | [], [], [] => true
  | _, _, _ => false
/-- what goes to the names: a cell where one is wanted -/
def parC (G : Sg) : List Str → List Expr → List E → List E
  | x :: xs, v :: vs, c :: cs => (if G.cl.contains x && !isNm v then (if isN G.np c then .box c else .stuck) else c) 
    :: parC G xs vs cs
  | [], _ :: _, _ => [.stuck]
  | _, _, _ => []
def nmAll : List Expr → Option (List Str)
  | [] => some []
  | .Name x _ :: es => (nmAll es).map (x :: ·)
  | _ => none
def frzs (G : Sg) (mu : List Str) (s : Stmt) (rest : List Stmt) : List S :=
  (mutS 20 s).eraseDups.filterMap fun x => if mu.contains x && !(mutSs 60 rest).contains x && (match rest with
    | .Return (some (.Name y _)) _ :: _ => !(y == x)
    | [] => false
    | _ => true) then (slotM G x).map S.frz else none
mutual
def trS : Nat → Sg → List Str → Bool → Stmt → S
  | 0, _, _, _, _ => .stuck
  | n + 1, G, mu, fr, s => match s with
    | .Pass _ => .pass
    | .Break _ => .brk
    | .Continue _ => .cnt
    | .Expr (.Call (.Attribute (.Name x _) m apos) [e] [] cpos) _ => (match slotM G x with
      | some i => if apos.endLine == cpos.line && noStar e then (if m == ("append" : Str) then .mut .append i (tr n G e) else if m == ("extend" : Str) then .mut .extend i (tr n G e) else .stuck) else .stuck
      | none => .stuck)
    | .Expr e _ => if notComp e then .exp (tr n G e) else .stuck
    | .Return none _ => .ret none (.cst .non)
    | .Return (some (.Name x p)) _ => if mu.contains x then (match slotOf G x with
        | some i => .ret (some i) .stuck
        | none => .stuck) else if fr then .stuck else .ret none (tr n G (.Name x p))
    | .Return (some e) _ => if fr then (let c := tr n G e; if isN G.np c then .ret none c else .stuck) else .ret none (tr n G e)
    | .If c a b _ => .ite (tt n G c) (trSs n G mu fr false a) (trSs n G mu fr false b)
    | .For tg it body [] _ => (match trG (slotF G mu) tg, trI n false G tg it with
      | some t, some i => if notSet it then .fr t i (trSs n G mu fr false body) else .stuck
      | _, _ => .stuck)
    | .While c body [] _ => .whl (tt n G c) (trSs n G mu fr false body)
    | .Assign [.Name x p] e _ => (match slotM G x with
      | some i =>
        if swapB G.sc e x p then (match e with
          | .ListComp elt [⟨tg, it, ifs, 0⟩] scope _ => (match trLc n G elt tg it ifs scope with
            | .comp ce t it cs => if mu.contains x then .asgO i (.comp ce t it cs) else .asg (.nm i) (.comp ce t it cs)
            | _ => .stuck)
          | _ => .stuck)
        else if notComp e then (let c := tr n G e
          if mu.contains x then (if isN G.np c then .asgO i c else .stuck)
          else if G.cl.contains x && !isNm e then (if isN G.np c then .asg (.nm i) (.box c) else .stuck) else .asg (.nm i) c)
        else .stuck
      | none => .stuck)
    | .Assign [.Subscript (.Name x _) k _] e _ => (match slotOf G x with
      | some i => if notSlc k then .sto i (tr n G k) (tr n G e) else .stuck
      | none => .stuck)
    | .Assign [.Tuple [.Subscript (.Name x _) k _, tx] _ _] e _ => (match slotOf G x, trG (slotF G mu) tx with
      | some i, some t => if notSlc k && !isTup e then .stoT i (tr n G k) t (tr n G e) else .stuck
      | _, _ => .stuck)
    | .Assign [.Tuple ts _ _] (.Tuple vs k2 p2) _ => (match swF G.sc ts vs with
      | none => .stuck
      | some none => (match trG (slotF G mu) (.Tuple ts 0 p2) with
        | some t => .asg t (tr n G (.Tuple vs k2 p2))
        | none => .stuck)
      | some (some xs) => (match nmAll ts, xs.mapM (slotM G) with
        | some ys, some is =>
          let fs := xs.map mu.contains
          let cs := parC G xs vs (vs.map (tr n G))
          if ys == xs && (nodupB is && (xs.all (lcB G.sc) && (vs.all noStar && parOk G mu xs fs cs))) then .par (fs.zip is) (cs.map fun c => (false, c)) else .stuck
        | _, _ => .stuck))
    | .Assign [.Tuple ts k p] e _ => (match trG (slotF G mu) (.Tuple ts k p) with
      | some t => .asg t (tr n G e)
      | none => .stuck)
    | _ => .stuck
def trSs : Nat → Sg → List Str → Bool → Bool → List Stmt → List S
  | 0, _, _, _, _, _ => [.stuck]
  | _ + 1, _, _, _, _, [] => []
  | n + 1, G, mu, fr, top, s :: ss => match s with
    | .Expr (.Constant (.str _) _ _) _ => trSs n G mu fr top ss
    | s => trS n G mu fr s :: ((if top then frzs G mu s ss else []) ++ trSs n G mu fr top ss)
end
end PyD

/-! PyDT: the translation of statements is sound. -/
namespace PyD
open PySem PySem.Spec PyProof.Rows L2
structure CokS (X : Cx) (C : Cfg) (EX : XK) (G : Sg) (k : Nat) : Prop where
  c : Cok X C (WofE EX) G k
  hp : PassesOwn (model X.prog X.w) X.A X.env X.xe
  fnT : ∀ x, X.fn x = true
  kind : G.sc.kind = .function
section
variable {X : Cx} {C : Cfg} {EX : XK} {G : Sg} {k n : Nat} {mu : List Str} {fr : Bool} {e a b : Expr} {c ca cb : E} {p pos : Pos}
theorem CokS.slotM (K : CokS X C EX G k) {x : Str} {i : Nat} (e : PyD.slotM G x = some i) : X.N[i]? = some x ∧ Loc X.env.scope x ∧ (X.fn x = true ∨ X.env.scope.names.lookup x = some .local) ∧ (x == ("__debug__" : Str)) = false ∧ (x == ("__classdict__" : Str)) = false := by
  unfold PyD.slotM at e
  split at e
  · rename_i q
    obtain ⟨q1, q2⟩ := Bool.and_eq_true_iff.mp q
    obtain ⟨p1, p2, _⟩ := plainNm_1 q1
    obtain ⟨j, e1, e2⟩ := ixOf_at e
    refine ⟨?_, ?_, .inl (K.fnT x), p1, p2⟩
    · rw [K.c.N, e1, Nat.zero_add]; exact e2
    · rw [K.c.sc]; exact locB_loc q2
  · cases e
theorem slotF_lc (K : CokS X C EX G k) : LcOf X (slotF G mu) := fun x i e => by
  unfold slotF at e
  split at e
  · rename_i q
    simp only [Bool.and_eq_true] at q
    obtain ⟨q1, q2, _⟩ := q
    obtain ⟨j, e1, e2⟩ := ixOf_at e
    refine ⟨?_, ?_, .inl (K.fnT x)⟩
    · rw [K.c.N, e1, Nat.zero_add]; exact e2
    · rw [K.c.sc]; exact locB_loc q2
  · cases e
theorem notComp_sw {t : Option Expr} {l : Nat} {env : Env} (h : notComp e = true) : swapsWith e t l env = pure false := by
  cases e <;> first | rfl | cases h
theorem swapB_ok (K : CokS X C EX G k) {x : Str} {elt : Expr} {gs : List Comprehension} {s : Scope} {q p : Pos} {l : Nat} (h : swapB G.sc (.ListComp elt gs s q) x p = true) : X.env.scope.names.lookup x = some .local ∧ swapsWith (.ListComp elt gs s q) (some (.Name x p)) l X.env = pure true := by
  have h : (G.sc.names.lookup x == some .local && (p.line == q.line && !(s.names.any fun (n, k) => n == x && (k == .local || k == .cell)))) = true := h
  simp only [Bool.and_eq_true, Bool.not_eq_true'] at h
  obtain ⟨h1, h2, h3⟩ := h
  have hx : X.env.scope.names.lookup x = some .local := by rw [K.c.sc]; exact beq_iff_eq.mp h1
  exact ⟨hx, sw_true (by rw [K.c.sc]; exact K.kind) hx h2 h3⟩
theorem nmAll_ok : ∀ {es : List Expr} {xs : List Str}, nmAll es = some xs → ∃ ps : List Pos, es.length = xs.length ∧ ps.length = xs.length ∧ es = (xs.zip ps).map fun q => Expr.Name q.1 q.2
  | [], xs, h => by cases h; exact ⟨[], rfl, rfl, rfl⟩
  | e :: es, xs, h => by
    cases e <;> first | cases h | skip
    rename_i x p
    have h : (nmAll es).map (x :: ·) = some xs := h
    cases h1 : nmAll es with
    | none => rw [h1] at h; cases h
    | some ys =>
      rw [h1] at h
      cases h
      obtain ⟨ps, a, b, c⟩ := nmAll_ok h1
      exact ⟨p :: ps, by rw [List.length_cons, List.length_cons, a], by rw [List.length_cons, List.length_cons, b], by rw [c]; rfl⟩
theorem isDisp_own {c : E} {C : Cfg} (h : isDisp c = true) {env : Ev} {s s' : Stt} {d : D} (er : ev C c env s = some (.ok d, s')) : canOwn d = true := by
  cases c <;> first | cases h | skip
  · rename_i cs
    have er : ((evD C cs env s).bind fun xs s => if szOk xs.length then some (.ok (.lst xs), s) else none) = some (.ok d, s') := er
    obtain ⟨ys, s1, _, e2⟩ := Res.bind_ok er
    split at e2
    · cases e2; rfl
    · cases e2
  · rename_i cs
    have er : ((evs C cs env s).bind fun xs s => match rngF xs with | none => none | some xs => if szOk xs.length then some (.ok (.lst xs), s) else none) = some (.ok d, s') := er
    obtain ⟨ys, s1, _, e2⟩ := Res.bind_ok er
    cases hr : rngF ys with
    | none => rw [hr] at e2; cases e2
    | some zs =>
      rw [hr] at e2
      have e2 : (if szOk zs.length then (some (.ok (.lst zs), s1) : Res D) else none) = some (.ok d, s') := e2
      split at e2
      · cases e2; rfl
      · cases e2
theorem par_items (K : CokS X C EX G k) : ∀ {xs : List Str} {vs : List Expr}, vs.all noStar = true → parOk G mu xs (xs.map mu.contains) (parC G xs vs (vs.map (tr n G))) = true → DM X C (WofE EX) (xs.map mu.contains) vs ((parC G xs vs (vs.map (tr n G))).map fun c => (false, c))
  | [], [], _, _ => m_nil
  | [], v :: vs, hs, h => by cases h
  | _ :: _, [], _, h => by cases h
  | x :: xs, v :: vs, hs, h => by
    rw [List.all_cons, Bool.and_eq_true] at hs
    have key : ∀ c : E, c = (if G.cl.contains x && !isNm v then (if isN G.np (tr n G v) then .box (tr n G v) else .stuck) else tr n G v) → parOk G mu (x :: xs) (mu.contains x :: xs.map mu.contains) (c :: parC G xs vs (vs.map (tr n G))) = true →
        DM X C (WofE EX) (mu.contains x :: xs.map mu.contains) (v :: vs) ((false, c) :: ((parC G xs vs (vs.map (tr n G))).map fun c => (false, c))) := fun c ec h => by
      have h : ((mu.contains x == mu.contains x) && ((if mu.contains x then isDisp c else true) && parOk G mu xs (xs.map mu.contains) (parC G xs vs (vs.map (tr n G))))) = true := h
      simp only [Bool.and_eq_true] at h
      obtain ⟨_, h1, h2⟩ := h
      have rest := par_items K (xs := xs) (vs := vs) hs.2 h2
      have hc : DE X C (WofE EX) v c := by
        rw [ec]
        split
        · split
          · rename_i q
            exact r_box (((snd n).e K.c v).2 q)
          · exact r_stuck
        · exact ((snd n).e K.c v).1
      have hn : isDisp c = true → DN X C (WofE EX) v c := fun q => by
        rw [ec] at q ⊢
        split at q
        · split at q <;> cases q
        · rename_i z
          rw [if_neg z]
          refine ((snd n).e K.c v).2 ?_
          cases ht : tr n G v <;> rw [ht] at q <;> first | rfl | cases q
      cases hm : mu.contains x with
      | false => exact m_val hc rest (star_ok hs.1)
      | true =>
        rw [hm, if_pos rfl] at h1
        exact m_own (hn h1) rest (star_ok hs.1) fun env s d s' er => isDisp_own h1 er
    exact key _ rfl h
theorem frz_ok {ss : List Stmt} {cs : List S} : ∀ {fs : List S}, (∀ f ∈ fs, ∃ i, f = .frz i) → DSs X C EX fr ss cs → DSs X C EX fr ss (fs ++ cs)
  | [], _, h => h
  | f :: fs, hf, h => by
    obtain ⟨i, rfl⟩ := hf f (List.mem_cons_self ..)
    exact ss_frz (frz_ok (fun g hg => hf g (List.mem_cons_of_mem _ hg)) h)
theorem frzs_ok {s : Stmt} {rest : List Stmt} : ∀ f ∈ frzs G mu s rest, ∃ i, f = .frz i := fun f hf => by
  unfold frzs at hf
  obtain ⟨x, _, h⟩ := List.mem_filterMap.mp hf
  have key : ∀ b : Bool, (if b = true then (PyD.slotM G x).map S.frz else none) = some f → ∃ i, f = .frz i := fun b h => by
    split at h
    · cases hx : PyD.slotM G x with
      | none => rw [hx] at h; cases h
      | some i =>
        rw [hx] at h
        cases h
        exact ⟨i, rfl⟩
    · cases h
  exact key _ h
theorem nodupB_ok : ∀ {xs : List Nat}, nodupB xs = true → xs.Nodup
  | [], _ => List.nodup_nil
  | x :: xs, h => by
    have h : (!xs.contains x && nodupB xs) = true := h
    rw [Bool.and_eq_true, Bool.not_eq_true'] at h
    refine List.nodup_cons.mpr ⟨fun m => ?_, nodupB_ok h.2⟩
    have h1 := h.1
    rw [List.contains_iff_mem.mpr m] at h1
    cases h1
theorem len2 {α : Type} {l : List α} (h : l.length = 2) : ∃ a b, l = [a, b] := by
  match l, h with
  | [a, b], _ => exact ⟨a, b, rfl⟩
theorem len3 {α : Type} {l : List α} (h : l.length = 3) : ∃ a b c, l = [a, b, c] := by
  match l, h with
  | [a, b, c], _ => exact ⟨a, b, c, rfl⟩
structure SndS (m : Nat) : Prop where
  s : ∀ {X : Cx} {C : Cfg} {EX : XK} {G : Sg} {k : Nat}, CokS X C EX G k → ∀ mu fr s, DS X C EX fr s (trS m G mu fr s)
  ss : ∀ {X : Cx} {C : Cfg} {EX : XK} {G : Sg} {k : Nat}, CokS X C EX G k → ∀ mu fr top ss, DSs X C EX fr ss (trSs m G mu fr top ss)
theorem s_retE (K : CokS X C EX G k) (e : Expr) : DS X C EX fr (.Return (some e) pos) (if fr then (let c := tr n G e; if isN G.np c then .ret none c else .stuck) else .ret none (tr n G e)) := by
  cases fr with
  | false => exact s_ret ((snd n).e K.c e).1
  | true =>
    show DS X C EX true _ (if isN G.np (tr n G e) then .ret none (tr n G e) else .stuck)
    split
    · rename_i q
      exact s_retN (((snd n).e K.c e).2 q)
    · exact s_stuck
theorem sndS_s (h : SndS n) (K : CokS X C EX G k) (mu : List Str) (fr : Bool) (s : Stmt) : DS X C EX fr s (trS (n + 1) G mu fr s) := by
  have E := fun e => ((snd n).e K.c e).1
  unfold trS
  split
  · exact s_pass
  · exact s_brk
  · exact s_cnt
  · rename_i x p m apos e cpos pos
    split
    · rename_i i hi
      obtain ⟨a, b, c, d1, d2⟩ := K.slotM hi
      split
      · rename_i q
        simp only [Bool.and_eq_true] at q
        obtain ⟨q2, q3⟩ := q
        split
        · rename_i hm
          have hm := beq_iff_eq.mp hm
          subst hm
          exact s_mut (m := .append) a (loc_vis b) d1 d2 (E e) q2 (star_ok q3)
        · split
          · rename_i hm
            have hm := beq_iff_eq.mp hm
            subst hm
            exact s_mut (m := .extend) a (loc_vis b) d1 d2 (E e) q2 (star_ok q3)
          · exact s_stuck
      · exact s_stuck
    · exact s_stuck
  · rename_i e pos _
    split
    · rename_i q
      exact s_exp (E e) (notComp_sw q)
    · exact s_stuck
  · exact s_ret0
  · rename_i x p pos
    split
    · split
      · rename_i i hi
        obtain ⟨a, b, c, d⟩ := K.c.slot hi
        exact s_retO a b c d
      · exact s_stuck
    · cases fr with
      | true => exact s_stuck
      | false => exact s_ret (E _)
  · rename_i e pos _
    exact s_retE K e
  · exact s_ite ((snd n).t K.c _) (h.ss K ..) (h.ss K ..)
  · rename_i tg it body pos
    split
    · rename_i t i ht hi
      split
      · rename_i q
        exact s_for K.hp K.c.calm (((snd n).i K.c false tg it i hi).2 rfl) (trG_ok K.c.nd K.c.calm (slotF_lc K) tg t ht) (h.ss K ..) (notSet_ok q)
      · exact s_stuck
    · exact s_stuck
  · exact s_whl K.hp ((snd n).t K.c _) (h.ss K ..)
  · rename_i x p e pos
    split
    · rename_i i hi
      obtain ⟨a, b, c, d1, d2⟩ := K.slotM hi
      split
      · rename_i q
        split
        · rename_i elt tg it ifs scope p2
          obtain ⟨q1, q2⟩ := swapB_ok K (l := pos.line) q
          rcases (snd n).l K.c elt tg it ifs scope with z | ⟨ce, t, i2, cs, own, z, h1, h2, h3, h4, h5, h6, h7⟩
          · rw [z]; exact s_stuck
          · rw [z]
            have r := s_lc (w := mu.contains x) (fr := fr) K.c.calm K.c.nd a q1 q2 h1 h2 h3 h4 h5 h6 h7
            exact r
        · exact s_stuck
      · split
        · rename_i q
          have sw := notComp_sw (t := some (.Name x p)) (l := pos.line) (env := X.env) q
          show DS X C EX fr _ (if mu.contains x then (if isN G.np (tr n G e) then .asgO i (tr n G e) else .stuck) else if G.cl.contains x && !isNm e then (if isN G.np (tr n G e) then .asg (.nm i) (.box (tr n G e)) else .stuck) else .asg (.nm i) (tr n G e))
          have asg : ∀ cc, DE X C (WofE EX) e cc → DS X C EX fr (.Assign [.Name x p] e pos) (.asg (.nm i) cc) := fun cc hc => s_asg hc (g_name K.c.nd a b c) sw rfl rfl
          split
          · split
            · rename_i q2
              exact s_asgO K.c.nd a b c (((snd n).e K.c e).2 q2) sw
            · exact s_stuck
          · split
            · split
              · rename_i q2
                exact asg _ (r_box (((snd n).e K.c e).2 q2))
              · exact s_stuck
            · exact asg _ (E e)
        · exact s_stuck
    · exact s_stuck
  · rename_i x p k2 p2 e pos
    split
    · rename_i i hi
      obtain ⟨a, b, c, d⟩ := K.c.slot hi
      split
      · rename_i q
        exact s_sto K.c.hu a b c d (E e) (E k2) q
      · exact s_stuck
    · exact s_stuck
  · rename_i x p k2 p2 tx kk p3 e pos
    split
    · rename_i i t hi ht
      obtain ⟨a, b, c, d⟩ := K.c.slot hi
      split
      · rename_i q
        simp only [Bool.and_eq_true, Bool.not_eq_true'] at q
        obtain ⟨q1, q2⟩ := q
        have st := trG_star ht
        exact s_stoT K.c.calm K.c.hu a b c d (E e) (E k2) q1 (trG_ok K.c.nd K.c.calm (slotF_lc K) tx t ht) (by rw [each_cons st]; rfl) (each_idx fun e' he => by
          rcases List.mem_cons.mp he with z | z
          · rw [z]; rfl
          · rw [List.mem_singleton.mp z]; exact st) (sw_tup ..) (sw_nt q2)
      · exact s_stuck
    · exact s_stuck
  · rename_i ts kk p2 vs k2 p3 pos _
    split
    · exact s_stuck
    · rename_i hsw
      split
      · rename_i t ht
        have ht2 : trG (slotF G mu) (.Tuple ts kk p2) = some t := by
          have h1 : (trGs (slotF G mu) ts).map Tg.tup = some t := by simpa [trG] using ht
          simpa [trG] using h1
        exact s_asg (E _) (trG_ok K.c.nd K.c.calm (slotF_lc K) _ t ht2) (sw_tup ..) (swF_ok K.c.sc K.kind hsw) rfl
      · exact s_stuck
    · rename_i xs hsw
      split
      · rename_i ys is hy hi
        simp only []
        split
        · rename_i q
          simp only [Bool.and_eq_true] at q
          obtain ⟨q1, q2, q3, q4, q5⟩ := q
          have q1 := beq_iff_eq.mp q1
          subst q1
          have items := par_items (n := n) K q4 q5
          have sw := swF_ok (k := kk) (k2 := k2) (p := p2) (p2 := p3) K.c.sc K.kind hsw
          obtain ⟨ps, l1, l2, e1⟩ := nmAll_ok hy
          have il : ∀ {xs : List Str} {is : List Nat}, xs.mapM (PyD.slotM G) = some is → List.length xs = is.length ∧ ∀ (j : Nat) (x : Str) (i : Nat), xs[j]? = some x → is[j]? = some i → PyD.slotM G x = some i := fun {xs} => by
            induction xs with
            | nil => intro is h; cases h; exact ⟨rfl, fun j x i h => by cases h⟩
            | cons x xs ih =>
              intro is h
              rw [List.mapM_cons] at h
              cases h1 : PyD.slotM G x with
              | none => rw [h1] at h; cases h
              | some i =>
                rw [h1] at h
                cases h2 : xs.mapM (PyD.slotM G) with
                | none => rw [h2] at h; cases h
                | some is' =>
                  rw [h2] at h
                  cases h
                  obtain ⟨a, b⟩ := ih h2
                  refine ⟨by rw [List.length_cons, List.length_cons, a], fun j y i' e1 e2 => ?_⟩
                  cases j with
                  | zero => cases e1; cases e2; exact h1
                  | succ j => exact b j y i' e1 e2
          obtain ⟨l3, sl⟩ := il hi
          have dl : vs.length = ts.length ∧ (ts.length = 2 ∨ ts.length = 3) := by
            unfold swF at hsw
            split at hsw
            · cases hsw
            · rename_i z
              simp only [Bool.or_eq_true, not_or, Bool.not_eq_true', Bool.or_eq_false_iff, bne_iff_ne, ne_eq, Decidable.not_not] at z
              obtain ⟨z1, z2⟩ := z
              refine ⟨z2, ?_⟩
              by_cases w : ts.length = 2
              · exact .inl w
              · right
                by_cases w2 : ts.length = 3
                · exact w2
                · exact absurd (by simp [w, w2]) z1
          obtain ⟨dl1, dl2⟩ := dl
          have nd := nodupB_ok q2
          have lc := fun x hx => lcB_local (List.all_eq_true.mp q3 x hx)
          rw [← K.c.sc] at lc
          rcases dl2 with dl2 | dl2
          · obtain ⟨x, y, rfl⟩ := len2 (l1.symm.trans dl2)
            obtain ⟨px, py, rfl⟩ := len2 (l2.trans (l1.symm.trans dl2))
            obtain ⟨v, w, rfl⟩ := len2 (dl1.trans dl2)
            obtain ⟨i, j, rfl⟩ := len2 (l3.symm.trans (l1.symm.trans dl2))
            subst e1
            obtain ⟨a1, _, _, _, _⟩ := K.slotM (sl 0 x i rfl rfl)
            obtain ⟨a2, _, _, _, _⟩ := K.slotM (sl 1 y j rfl rfl)
            have nij : i ≠ j := fun z => by
              subst z
              exact (List.nodup_cons.mp nd).1 (List.mem_cons_self ..)
            exact s_par2 rfl K.c.calm K.c.nd a1 a2 nij (lc x (by simp)) (lc y (by simp)) items sw
          · obtain ⟨x, y, z, rfl⟩ := len3 (l1.symm.trans dl2)
            obtain ⟨px, py, pz, rfl⟩ := len3 (l2.trans (l1.symm.trans dl2))
            obtain ⟨v, w, u, rfl⟩ := len3 (dl1.trans dl2)
            obtain ⟨i, j, l, rfl⟩ := len3 (l3.symm.trans (l1.symm.trans dl2))
            subst e1
            obtain ⟨a1, _, _, _, _⟩ := K.slotM (sl 0 x i rfl rfl)
            obtain ⟨a2, _, _, _, _⟩ := K.slotM (sl 1 y j rfl rfl)
            obtain ⟨a3, _, _, _, _⟩ := K.slotM (sl 2 z l rfl rfl)
            obtain ⟨n1, n2⟩ := List.nodup_cons.mp nd
            obtain ⟨n3, _⟩ := List.nodup_cons.mp n2
            exact s_par3 rfl K.c.calm K.c.nd a1 a2 a3 (fun q => n1 (by rw [q]; simp)) (fun q => n1 (by rw [q]; simp)) (fun q => n3 (by rw [q]; simp)) (lc x (by simp)) (lc y (by simp)) (lc z (by simp)) items sw
        · exact s_stuck
      · exact s_stuck
  · rename_i ts kk p2 e pos _ hne
    split
    · rename_i t ht
      have nt : isTup e = false := by
        cases e <;> first | rfl | exact (hne _ _ _ rfl).elim
      exact s_asg (E _) (trG_ok K.c.nd K.c.calm (slotF_lc K) _ t ht) (sw_tup ..) (sw_nt nt) rfl
    · exact s_stuck
  · exact s_stuck
theorem sndS_ss (h : SndS n) (K : CokS X C EX G k) (mu : List Str) (fr top : Bool) (ss : List Stmt) : DSs X C EX fr ss (trSs (n + 1) G mu fr top ss) := by
  cases ss with
  | nil => exact s_nil
  | cons s ss =>
    unfold trSs
    split
    · exact s_skip ps_doc (h.ss K ..)
    · refine s_cons (h.s K ..) ?_
      split
      · exact frz_ok frzs_ok (h.ss K ..)
      · exact h.ss K ..
end
theorem sndS : ∀ n, SndS n
  | 0 => ⟨fun K mu fr s => s_stuck, fun K mu fr top ss => ss_stuck⟩
  | n + 1 => ⟨fun K mu fr s => sndS_s (sndS n) K mu fr s, fun K mu fr top ss => sndS_ss (sndS n) K mu fr top ss⟩
end PyD

/-! PyDU: the defs of a module by the core language. -/
namespace PyD
open PySem PySem.Spec PyProof.Rows L2
structure Ent where
  nm : Str
  st : Stmt
  N : List Str
def Ent.ps (e : Ent) : List Str := (defArgs e.st).args.map (·.arg)
/-- what is said of a module: its defs, its constants, the names of what changes, the calls by keywords, the turns of a while -/
structure Lw where
  ents : List Ent
  gl : List (Str × D)
  cg : List Str
  cl : List (Str × List Str)
  kw : List (Str × List Str)
  wf : Nat
section
variable (L : Lw)
def Lw.find (f : Str) : Option Ent := L.ents.find? fun e => e.nm == f
def Lw.np (f : Str) : Option (Nat × Bool) := (L.find f).map fun e => (e.ps.length, frOf (defBody e.st))
def cellsAt (cl : List Str) : List Str → Nat → List Nat
  | [], _ => []
  | x :: xs, n => if cl.contains x then n :: cellsAt cl xs (n + 1) else cellsAt cl xs (n + 1)
def Lw.cp (f : Str) : List Nat := match L.find f with
  | none => []
  | some e => cellsAt L.cg e.ps 0
def ixs (ps : List Str) : List Str → Option (List Nat)
  | [] => some []
  | k :: ks => match ixOf ps k 0, ixs ps ks with
    | some i, some is => some (i :: is)
    | _, _ => none
def Lw.kwp (f : Str) (ks : List Str) : Option (List Nat) := if L.kw.contains (f, ks) then (match L.find f with
  | some e => ixs e.ps ks
  | none => none) else none
def Lw.clOf (e : Ent) : List Str := L.cg ++ (L.cl.lookup e.nm).getD []
def Lw.sg (e : Ent) : Sg where
  N := e.N
  sc := defScope e.st
  np := L.np
  cp := L.cp
  kw := L.kwp
  gl := fun x => (L.gl.lookup x).isSome
  cl := L.clOf e
def Lw.muOf (e : Ent) : List Str := (mutSs 60 (defBody e.st)).eraseDups.filter fun x => !(L.clOf e).contains x && !e.ps.contains x
def Lw.dfn (e : Ent) : Def := ⟨e.ps.length, e.N.length, frOf (defBody e.st), trSs 60 (L.sg e) (L.muOf e) (frOf (defBody e.st)) true (defBody e.st)⟩
def Lw.tab : Tab := ⟨fun f => (L.find f).map L.dfn, fun x => L.gl.lookup x, L.wf⟩
end
structure EntOk (K : PySem.W.Frag) (mg : Str → Option Value) (L : Lw) (e : Ent) : Prop where
  fd : ∃ a fd, FunD K e.nm e.nm (defArgs e.st) (defBody e.st) (defScope e.st) [] [] a fd ∧ mg e.nm = some (.ref a)
  sc : FnScope e.N e.ps (defScope e.st)
  bd : ∀ (kV doc pm : Value) (an : Option Addr) (cdv ct : Value) (us : List Value), us.length = e.ps.length → bindArgs (PySem.W.fnOf e.nm e.nm (defArgs e.st) (defBody e.st) (defScope e.st) .none kV doc pm an cdv ct) ⟨us, []⟩ = pure (e.ps.zip us)
  kw : ∀ ks pl, L.kwp e.nm ks = some pl → ks ≠ [] ∧ pl.length = ks.length ∧ ks.length = e.ps.length ∧ ∀ (kV doc pm : Value) (an : Option Addr) (cdv ct : Value) (ws : List Value), ws.length = ks.length →
    bindArgs (PySem.W.fnOf e.nm e.nm (defArgs e.st) (defBody e.st) (defScope e.st) .none kV doc pm an cdv ct) ⟨[], ks.zip ws⟩ = pure (e.ps.zip (placeG .none ks.length pl ws))
theorem Lw.find_nm {L : Lw} {f : Str} {e : Ent} (h : L.find f = some e) : e.nm = f ∧ e ∈ L.ents := ⟨beq_iff_eq.mp (List.find?_some (p := fun e : Ent => e.nm == f) h), List.mem_of_find?_eq_some h⟩
theorem callF_len {T : Tab} {f : Str} {d : Def} (hf : T.fn f = some d) {xs : List D} {s : Stt} (h : xs.length ≠ d.np) : ∀ n, callF T n f xs s = none
  | 0 => rfl
  | n + 1 => by
    show (match T.fn f with | none => none | some d => runD ⟨callF T n, T.gl, T.wf⟩ d xs s) = none
    rw [hf]
    show (if xs.length = d.np then _ else none) = none
    rw [if_neg h]
theorem slot_start : ∀ {ds : List D} {m i : Nat}, slot (ds.map Slot.val ++ List.replicate m .un) i = match ds[i]? with | some d => .val d | none => .un
  | [], m, i => by
    show slot (List.replicate m .un) i = _
    have : ∀ (m i : Nat), slot (List.replicate m .un) i = .un := fun m => by
      induction m with
      | zero => intro i; rfl
      | succ m ih =>
        intro i
        cases i with
        | zero => rfl
        | succ i => exact ih i
    rw [this]; rfl
  | d :: ds, m, 0 => rfl
  | d :: ds, m, i + 1 => by
    show slot (ds.map Slot.val ++ List.replicate m .un) i = _
    rw [slot_start (ds := ds)]
    rfl
section
variable {P : Program} {w : World} {K : PySem.W.Frag} {mg : Str → Option Value} {base : Heap} {L : Lw}
theorem start_ok {B : Wd} {g : G} {st : Stt} {H : Hp} {ds : List D} {vs : List V} {N : List Str} {d : Def} (S : StOk B g st H) (r : RepL B g ds vs) (h1 : ds.length = d.np) (h2 : d.ns = N.length) (h3 : d.np ≤ N.length) : Rel B g (PyD.start d ds) st (L2.start N vs) H H := by
  have hl := r.length
  refine ⟨S, ?_, fun i o e => ?_, fun i j d1 d2 a e1 e2 e3 e4 => ?_⟩
  · unfold PyD.start L2.start
    simp only [List.length_append, List.length_map, List.length_replicate]
    omega
  · unfold PyD.start
    rw [slot_start]
    unfold L2.start at e
    cases hd : ds[i]? with
    | none => exact .un
    | some x =>
      obtain ⟨v, q1, q2⟩ := r.get (n := i) (d := x) (by rw [getS_eq]; exact hd)
      have hi : i < vs.length := (List.getElem?_eq_some_iff.mp q1).1
      rw [List.getElem?_append_left (by rw [List.length_map]; exact hi), List.getElem?_map, q1] at e
      cases e
      exact .val q2
  · unfold PyD.start at e1
    rw [slot_start] at e1
    split at e1 <;> cases e1
theorem tab_ok (ok : ∀ f e, L.find f = some e → EntOk K mg L e) (bi : ∀ x ∈ bNames, mg (x : Str) = none) (gl : ∀ x d, L.gl.lookup x = some d → ∃ v u, mg x = some u ∧ RelV v u ∧ ∀ g, Rep ⟨P, w, K, mg⟩ g d v) :
    ∀ (n : Nat) (f : Str) (e : Ent), L.find f = some e → ∀ a fd, FunD K e.nm e.nm (defArgs e.st) (defBody e.st) (defScope e.st) [] [] a fd →
      FnOk P w K mg base (L2.CX P w) n a fd e.ps (spF ⟨P, w, K, mg⟩ (frOf (defBody e.st)) e.ps.length (callF L.tab n f))
  | 0, f, e, he, a, fd, F => ⟨fun vs H Q E h => h.1, fun A outer s H args us vs Q E hr e0 hb hv h => by
      obtain ⟨_, g, ds, st, _, _, p⟩ := h
      exact p.elim⟩
  | n + 1, f, e, he, a, fd, F => by
    have ok1 := ok f e he
    refine F.ok ok1.sc (fun vs H Q E h => h.1) fun cdv A outer s H vs Q E hr hsp => ?_
    obtain ⟨hl, g, ds, st, S, r, p⟩ := hsp
    have hpl : e.ps.length ≤ e.N.length := by
      have := congrArg List.length ok1.sc.pre
      rw [List.length_take] at this
      omega
    have KS : CokS (cxOf (L2.CX P w) P w K mg base e.N e.nm (defScope e.st) a cdv A outer s H E) ⟨callF L.tab n, L.tab.gl, L.tab.wf⟩ E (L.sg e) n := by
      refine ⟨⟨rfl, rfl, ok1.sc.nd, rfl, hr, takes_of rfl rfl rfl rfl, fun f' m fr' hn => ?_, fun x hx => ?_, bi⟩, passes_of rfl, fun _ => rfl, ok1.sc.kind⟩
      · have hn : (L.find f').map (fun e => (e.ps.length, frOf (defBody e.st))) = some (m, fr') := hn
        cases hf : L.find f' with
        | none => rw [hf] at hn; cases hn
        | some e' =>
          rw [hf] at hn
          cases hn
          have ok2 := ok f' e' hf
          obtain ⟨hnm, _⟩ := Lw.find_nm hf
          obtain ⟨a', fd', F', hm'⟩ := ok2.fd
          have ht : L.tab.fn f' = some (L.dfn e') := by
            show (L.find f').map L.dfn = _
            rw [hf]; rfl
          refine ⟨fun xs s hx => callF_len ht hx n, a', fd', e'.ps, rfl, hnm ▸ hm', F'.kp, tab_ok ok bi gl n f' e' hf a' fd' F', F'.bindsN ok2.bd, fun ks pl hk => ?_⟩
          rw [← hnm] at hk
          obtain ⟨k1, k2, k3, k4⟩ := ok2.kw ks pl hk
          refine ⟨k1, k2, k3, fun s ws hw => ?_⟩
          obtain ⟨oc, od, dV, kV, doc, pm, an, cdv', ct, osl, rfl, _, _, hD, _⟩ := F'.ex
          rcases hD with ⟨_, rfl⟩ | ⟨z, _⟩
          · exact .of_eq (k4 kV doc pm an cdv' ct ws hw)
          · exact absurd rfl z
      · have hx : (L.gl.lookup x).isSome = true := hx
        obtain ⟨d, hd⟩ := Option.isSome_iff_exists.mp hx
        obtain ⟨v, u, h1, h2, h3⟩ := gl x d hd
        exact ⟨v, u, d, h1, h2, hd, h3⟩
    refine ⟨_, (sndS 60).ss KS (L.muOf e) (frOf (defBody e.st)) true (defBody e.st), ?_⟩
    have ht : L.tab.fn f = some (L.dfn e) := by
      show (L.find f).map L.dfn = _
      rw [he]; rfl
    have hd : ds.length = (L.dfn e).np := r.length.trans hl
    have p : PstF ⟨P, w, K, mg⟩ (frOf (defBody e.st)) g H (runD ⟨callF L.tab n, L.tab.gl, L.tab.wf⟩ (L.dfn e) ds st) Q E := by
      have q : PstF ⟨P, w, K, mg⟩ (frOf (defBody e.st)) g H (match L.tab.fn f with | none => none | some d => runD ⟨callF L.tab n, L.tab.gl, L.tab.wf⟩ d ds st) Q E := p
      rw [ht] at q
      exact q
    unfold runD at p
    rw [if_pos hd] at p
    refine ⟨g, H, g, PyD.start (L.dfn e) ds, st, .refl S, start_ok S r hd rfl hpl, ?_⟩
    show PstS ⟨P, w, K, mg⟩ E (frOf (defBody e.st)) g H g (exSs ⟨callF L.tab n, L.tab.gl, L.tab.wf⟩ (L.dfn e).body (PyD.start (L.dfn e) ds) st) _
    cases hr2 : exSs ⟨callF L.tab n, L.tab.gl, L.tab.wf⟩ (L.dfn e).body (PyD.start (L.dfn e) ds) st with
    | none => rw [hr2] at p; exact p.elim
    | some r2 =>
      rw [hr2] at p
      obtain ⟨o, st'⟩ := r2
      cases o with
      | ex c v => exact fun cv dx g' H' n' ex => p cv dx g' H' n' ex
      | ok fl =>
        cases fl with
        | nx env' =>
          refine fun g' σ' H' n' l' R' => (show PstF ⟨P, w, K, mg⟩ (frOf (defBody e.st)) g H (some (.ok .non, st')) Q E from p) .non g' H' n' ?_
          cases frOf (defBody e.st) with
          | false => exact .non
          | true => exact .inr ⟨rfl, .non⟩
        | rt d => exact fun v g' H' n' pt => (show PstF ⟨P, w, K, mg⟩ (frOf (defBody e.st)) g H (some (.ok d, st')) Q E from p) v g' H' n' pt
        | bk env' => exact (show PstF ⟨P, w, K, mg⟩ (frOf (defBody e.st)) g H none Q E from p).elim
        | ct env' => exact (show PstF ⟨P, w, K, mg⟩ (frOf (defBody e.st)) g H none Q E from p).elim
end
end PyD

/-! PyDV: the head's facts for the core language; a law's end. -/
namespace PyD
open PySem PySem.Spec PyProof.Rows L2
def Ent.dd (e : Ent) : He.DefD := ⟨(e.nm, none), e.nm, e.nm, defArgs e.st, defBody e.st, defScope e.st, [], []⟩
section
variable (L : Lw)
def Lw.fn : List He.DefD := L.ents.map Ent.dd
def intOf : D → Option Int
  | .int i => some i
  | _ => none
def Lw.faG : List He.Fa := L.gl.filterMap fun q => (intOf q.2).map fun i => He.Fa.int q.1 i
def Lw.fa : List He.Fa := (L.ents.map fun e => He.Fa.glo e.nm) ++ ((bNames.map fun x : String => He.Fa.free (x : Str)) ++ L.faG)
/-- the scope of a def, checked -/
def scB (e : Ent) : Bool := (match (defScope e.st).kind with | .function => true | _ => false) && (!(defScope e.st).isCoroutine && (!(defScope e.st).isGenerator && (decide e.N.Nodup && (decide (e.N.take e.ps.length = e.ps) &&
  ((e.ps.all fun x => locB (defScope e.st) x) && ((defScope e.st).names.all fun y => decide (y.2 ≠ .free)))))))
end
theorem scB_ok {e : Ent} (h : scB e = true) : FnScope e.N e.ps (defScope e.st) := by
  unfold scB at h
  simp only [Bool.and_eq_true, Bool.not_eq_true', decide_eq_true_eq] at h
  obtain ⟨h1, h2, h3, h4, h5, h6, h7⟩ := h
  refine ⟨?_, h2, h3, h4, h5, fun x hx => ?_, fun y hy => ?_⟩
  · split at h1
    · assumption
    · cases h1
  · exact locB_loc (List.all_eq_true.mp h6 x hx)
  · exact of_decide_eq_true (List.all_eq_true.mp h7 y hy)
/-- how a def binds, checked by the kernel -/
structure BdOk (L : Lw) (e : Ent) : Prop where
  bd : ∀ (kV doc pm : Value) (an : Option Addr) (cdv ct : Value) (us : List Value), us.length = e.ps.length → bindArgs (PySem.W.fnOf e.nm e.nm (defArgs e.st) (defBody e.st) (defScope e.st) .none kV doc pm an cdv ct) ⟨us, []⟩ = pure (e.ps.zip us)
  kw : ∀ ks pl, L.kwp e.nm ks = some pl → ks ≠ [] ∧ pl.length = ks.length ∧ ks.length = e.ps.length ∧ ∀ (kV doc pm : Value) (an : Option Addr) (cdv ct : Value) (ws : List Value), ws.length = ks.length →
    bindArgs (PySem.W.fnOf e.nm e.nm (defArgs e.st) (defBody e.st) (defScope e.st) .none kV doc pm an cdv ct) ⟨[], ks.zip ws⟩ = pure (e.ps.zip (placeG .none ks.length pl ws))
section
variable {P : Program} {w : World} {K : PySem.W.Frag} {mg : Str → Option Value} {h : Heap} {L : Lw}
theorem facts_ok (X : K.In h) (G : h.Ns mainGlobals mg) (c : He.SaysD L.fa L.fn K) (sc : L.ents.all scB = true) (bd : ∀ e ∈ L.ents, BdOk L e) (gi : L.gl.all fun q => (intOf q.2).isSome) :
    (∀ f e, L.find f = some e → EntOk K mg L e) ∧ (∀ x ∈ bNames, mg (x : Str) = none) ∧ (∀ x d, L.gl.lookup x = some d → ∃ v u, mg x = some u ∧ RelV v u ∧ ∀ g, Rep ⟨P, w, K, mg⟩ g d v) := by
  have fact : ∀ f ∈ L.fa, f.ok K = true := fun f m => by
    obtain ⟨i, hi, e⟩ := List.getElem_of_mem m
    exact c.fact i (f := f) (by rw [List.getElem?_eq_getElem hi, e])
  have glo : ∀ e ∈ L.ents, mg e.nm = some (.ref (He.ga K e.nm)) := fun e m => He.glo_ok X G (fact _ (List.mem_append_left _ (List.mem_map.mpr ⟨e, m, rfl⟩)))
  refine ⟨fun f e hf => ?_, fun x m => ?_, fun x d hd => ?_⟩
  · obtain ⟨_, m⟩ := Lw.find_nm hf
    obtain ⟨i, hi, ee⟩ := List.getElem_of_mem m
    obtain ⟨fd, F⟩ := c.def_ i (d := e.dd) (by
      show (L.ents.map Ent.dd)[i]? = _
      rw [List.getElem?_map, List.getElem?_eq_getElem hi, ee]; rfl)
    exact ⟨⟨He.ga K e.nm, fd, F, glo e m⟩, scB_ok (List.all_eq_true.mp sc e m), (bd e m).bd, (bd e m).kw⟩
  · exact He.free_ok X G (fact _ (List.mem_append_right _ (List.mem_append_left _ (List.mem_map.mpr ⟨x, m, rfl⟩))))
  · have m : (x, d) ∈ L.gl := by
      have gen : ∀ {l : List (Str × D)}, l.lookup x = some d → (x, d) ∈ l := fun {l} => by
        induction l with
        | nil => intro h; cases h
        | cons p l ih =>
          intro h
          rw [List.lookup_cons] at h
          cases hx : x == p.1 with
          | true =>
            rw [hx] at h
            have h : some p.2 = some d := h
            have e1 := beq_iff_eq.mp hx
            cases h
            rw [e1]
            exact List.mem_cons_self ..
          | false =>
            rw [hx] at h
            exact List.mem_cons_of_mem _ (ih h)
      exact gen hd
    have gi := List.all_eq_true.mp gi _ m
    cases d <;> first | cases gi | skip
    rename_i i
    obtain ⟨t, ht⟩ := He.int_ok X G (fact (.int x i) (List.mem_append_right _ (List.mem_append_right _ (List.mem_filterMap.mpr ⟨(x, .int i), m, rfl⟩))))
    exact ⟨.int i, .int i t, ht, ⟨t, rfl⟩, fun g => .int i⟩
end
/-- a law, its promise by every World -/
theorem walk_W {l : PySem.W.OpenLaw} {n k : Nat} {q : Program} {loose : List Str} {XP : (Str → Option Value) → Heap → Prop} {YP : World → Heap → Prop} {d : DefRec} {x : Str}
    (hn : l.most = some n) (hn2 : n ≤ sizeLine) (hdf : d.params.defaults = []) (hr : Room k callerA)
    (F : ∀ (w : World) (mg : Str → Option Value) (fa : Addr) (h : Heap), YP w h → h.Ns mainGlobals mg → mg d.name = some (.ref fa) →
      ∃ (K : PySem.W.Frag) (fd : FuncData) (sp : Sp), K.In h ∧ (∀ (s : Shared) (u : Value), BindsTo s fd ⟨[u], []⟩ [(x, u)]) ∧
        (∀ (H : Hp) (a : Addr) (ns : List Int), ns.length ≤ n → Only H → SqL K H a (ns.map V.int) → sp [.ref a] H (fun v _ => v = .bl true) fun _ _ _ => False) ∧
        ∀ base : Heap, K.In base → base.Ns mainGlobals mg → FnOk l.prog w K mg base (L2.CX l.prog w) k fa fd [x] sp) :
    PySem.W.WalkO q loose XP YP l.row.toRowW d [] (fun f vs => PySem.call f vs) := by
  refine Att.attach_call hn hdf fun w s₀ s₁ mg mb fa o pm cd doc a vs ns G Y ho hd hcd hmg hobj hints hlen hg => ?_
  obtain ⟨K, fd, sp, KX, hb, hsp, hF⟩ := F w mg fa _ Y G.T.g hmg
  refine law_call KX G.T.g G.T.b G.T.builtins G.T.nolimit hg hobj hints (Nat.le_trans hlen hn2) hr hF hb (fun H hO hS => hsp H a ns hlen hO hS) fun H e s' z => ?_
  obtain ⟨_, _, _, _, _, _, _, _, _, _, _, _, q⟩ := z
  exact q
/-- from the core language's answer -/
theorem law_D {P : Program} {w : World} {K : PySem.W.Frag} {mg : Str → Option Value} {h : Heap} {L : Lw} {e : Ent} {k n : Nat} {fa : Addr} (X : K.In h) (G : h.Ns mainGlobals mg) (c : He.SaysD L.fa L.fn K) (sc : L.ents.all scB = true) (bd : ∀ e ∈ L.ents, BdOk L e) (gi : (L.gl.all fun q => (intOf q.2).isSome) = true)
    (he : L.find "law" = some e) (hps : e.ps = [("script" : Str)]) (hfr : frOf (defBody e.st) = false) (hmg : mg "law" = some (.ref fa))
    (run : ∀ ns : List Int, ns.length ≤ n → ∃ st, callF L.tab k "law" [.lst (ns.map D.int)] [] = some (.ok (.bl true), st)) :
    ∃ (fd : FuncData) (sp : Sp), (∀ (s : Shared) (u : Value), BindsTo s fd ⟨[u], []⟩ [(("script" : Str), u)]) ∧ (∀ (H : Hp) (a : Addr) (ns : List Int), ns.length ≤ n → Only H → SqL K H a (ns.map V.int) → sp [.ref a] H (fun v _ => v = .bl true) fun _ _ _ => False) ∧
      ∀ base : Heap, K.In base → base.Ns mainGlobals mg → FnOk P w K mg base (L2.CX P w) k fa fd [("script" : Str)] sp := by
  obtain ⟨ok, bi, gl⟩ := facts_ok (P := P) (w := w) X G c sc bd gi
  have oke := ok _ _ he
  obtain ⟨hnm, _⟩ := Lw.find_nm he
  obtain ⟨a0, fd, F, hm⟩ := oke.fd
  rw [hnm, hmg] at hm
  cases hm
  refine ⟨fd, spF ⟨P, w, K, mg⟩ (frOf (defBody e.st)) e.ps.length (callF L.tab k "law"), fun s u => ?_, fun H a ns hl hO hS => ?_, fun base _ _ => ?_⟩
  · have b := FunD.bindsA F oke.bd s [u] (by rw [hps]; rfl)
    rw [hps] at b
    exact b
  · refine ⟨by rw [hps]; rfl, ⟨H, []⟩, [.lst (ns.map D.int)], [], ⟨fun _ _ e => e, rfl, List.nodup_nil, fun n a d e => by cases e⟩, .cons (.lst hS ?_) .nil, ?_⟩
    · clear hS hl
      induction ns with
      | nil => exact .nil
      | cons i ns ih => exact .cons (.int i) ih
    · obtain ⟨st, hr⟩ := run ns hl
      rw [hr, hfr]
      intro v g' H' n' p
      cases p
      rfl
  · have r := tab_ok (P := P) (w := w) (base := base) ok bi gl k "law" e he fa fd F
    rw [hps] at r ⊢
    exact r
/-- a def that is called by position alone -/
theorem bd_pos {L : Lw} {e : Ent} (ps : List Str) (hps : e.ps = ps) (hk : (L.kw.all fun q => !(q.1 == e.nm)) = true)
    (b : ∀ (kV doc pm : Value) (an : Option Addr) (cdv ct : Value) (us : List Value), us.length = ps.length → bindArgs (PySem.W.fnOf e.nm e.nm (defArgs e.st) (defBody e.st) (defScope e.st) .none kV doc pm an cdv ct) ⟨us, []⟩ = pure (ps.zip us)) : BdOk L e := by
  subst hps
  refine ⟨b, fun ks pl h => ?_⟩
  unfold Lw.kwp at h
  split at h
  · rename_i q
    have m := List.contains_iff_mem.mp q
    have := List.all_eq_true.mp hk _ m
    simp at this
  · cases h
/-- .. and by these keywords too -/
theorem bd_kw {L : Lw} {e : Ent} (ps ks1 : List Str) (pl1 : List Nat) (hps : e.ps = ps) (hk : (L.kw.all fun q => !(q.1 == e.nm) || (q.2 == ks1)) = true) (hkw : L.kwp e.nm ks1 = some pl1) (hn : ks1 ≠ []) (h1 : pl1.length = ks1.length) (h2 : ks1.length = ps.length)
    (b : ∀ (kV doc pm : Value) (an : Option Addr) (cdv ct : Value) (us : List Value), us.length = ps.length → bindArgs (PySem.W.fnOf e.nm e.nm (defArgs e.st) (defBody e.st) (defScope e.st) .none kV doc pm an cdv ct) ⟨us, []⟩ = pure (ps.zip us))
    (b2 : ∀ (kV doc pm : Value) (an : Option Addr) (cdv ct : Value) (ws : List Value), ws.length = ks1.length → bindArgs (PySem.W.fnOf e.nm e.nm (defArgs e.st) (defBody e.st) (defScope e.st) .none kV doc pm an cdv ct) ⟨[], ks1.zip ws⟩ = pure (ps.zip (placeG .none ks1.length pl1 ws))) : BdOk L e := by
  subst hps
  refine ⟨b, fun ks pl h => ?_⟩
  have e1 : ks = ks1 := by
    have h' := h
    unfold Lw.kwp at h'
    split at h'
    · rename_i q
      have m := List.contains_iff_mem.mp q
      have := List.all_eq_true.mp hk _ m
      simpa using this
    · cases h'
  subst e1
  rw [hkw] at h
  cases h
  exact ⟨hn, h1, h2, b2⟩
theorem all_bd {L : Lw} : ∀ {es : List Ent}, (∀ i (h : i < es.length), BdOk L es[i]) → ∀ e ∈ es, BdOk L e := fun h e m => by
  obtain ⟨i, hi, ee⟩ := List.getElem_of_mem m
  rw [← ee]
  exact h i hi
end PyD

/-! PyDW: how a def's core text is evaluated by rewriting. -/
namespace PyD
open PySem
def Res.Ok {α : Type} (r : Res α) (Q : α → Stt → Prop) : Prop := ∃ a s, r = some (.ok a, s) ∧ Q a s
section
variable {α β : Type}
theorem Res.ok_bind (a : α) (s : Stt) (f : α → Stt → Res β) : Res.bind (some (O.ok a, s)) f = f a s := rfl
theorem Res.none_bind (f : α → Stt → Res β) : Res.bind none f = none := rfl
theorem Res.bind_assoc {γ : Type} (r : Res α) (f : α → Stt → Res β) (g : β → Stt → Res γ) : (r.bind f).bind g = r.bind fun a s => (f a s).bind g := by
  cases r with
  | none => rfl
  | some p => obtain ⟨o, s⟩ := p; cases o <;> rfl
theorem lift_some (a : α) (s : Stt) : lift (some a) s = some (O.ok a, s) := rfl
theorem lift_none (s : Stt) : lift (none : Option α) s = none := rfl
theorem Res.Ok.of_eq {r : Res α} {a : α} {s : Stt} {Q : α → Stt → Prop} (e : r = some (.ok a, s)) (q : Q a s) : r.Ok Q := ⟨a, s, e, q⟩
theorem Res.Ok.bind {r : Res α} {f : α → Stt → Res β} {P : α → Stt → Prop} {Q : β → Stt → Prop} (h : r.Ok P) (k : ∀ a s, P a s → (f a s).Ok Q) : (r.bind f).Ok Q := by
  obtain ⟨a, s, rfl, h⟩ := h
  exact k a s h
theorem Res.Ok.mono {r : Res α} {P Q : α → Stt → Prop} (h : r.Ok P) (k : ∀ a s, P a s → Q a s) : r.Ok Q := by
  obtain ⟨a, s, rfl, h⟩ := h
  exact ⟨a, s, rfl, k a s h⟩
theorem Res.Ok.ret {a : α} {s : Stt} {Q : α → Stt → Prop} (q : Q a s) : Res.Ok (some (.ok a, s)) Q := ⟨a, s, rfl, q⟩
end
theorem callF_succ (T : Tab) (n : Nat) {f : Str} {d : Def} (h : T.fn f = some d) (xs : List D) (s : Stt) : callF T (n + 1) f xs s = runD ⟨callF T n, T.gl, T.wf⟩ d xs s := by
  show (match T.fn f with | none => none | some d => runD ⟨callF T n, T.gl, T.wf⟩ d xs s) = _
  rw [h]
theorem getS_set {s : Stt} {c : Nat} {d w : D} : getS s c = some d → getS (s.set c w) c = some w := by
  induction s generalizing c with
  | nil => intro h; cases h
  | cons x s ih => intro h; cases c with
    | zero => rfl
    | succ c => exact ih (c := c) h
theorem getS_set_ne {s : Stt} {c e : Nat} {w : D} : c ≠ e → getS (s.set c w) e = getS s e := by
  induction s generalizing c e with
  | nil => intro _; rfl
  | cons x s ih => intro h; cases c with
    | zero => cases e with
      | zero => exact absurd rfl h
      | succ e => rfl
    | succ c => cases e with
      | zero => rfl
      | succ e => exact ih fun h' => h (congrArg Nat.succ h')
theorem getS_append {s : Stt} {c : Nat} {d : D} {l : Stt} : getS s c = some d → getS (s ++ l) c = some d := by
  induction s generalizing c with
  | nil => intro h; cases h
  | cons x s ih => intro h; cases c with
    | zero => exact h
    | succ c => exact ih (c := c) h
theorem getS_snoc {s : Stt} {d : D} : getS (s ++ [d]) s.length = some d := by
  induction s with
  | nil => rfl
  | cons x s ih => exact ih
theorem truth_bl (b : Bool) : truth (.bl b) = some b := rfl
theorem truth_int (i : Int) : truth (.int i) = some (i != 0) := rfl
theorem truth_tup (xs : List D) : truth (.tup xs) = some (!xs.isEmpty) := rfl
theorem truth_lst (xs : List D) : truth (.lst xs) = some (!xs.isEmpty) := rfl
theorem dr_lst (s : Stt) (xs : List D) : dr s (.lst xs) = some (.lst xs) := rfl
theorem dr_tup (s : Stt) (xs : List D) : dr s (.tup xs) = some (.tup xs) := rfl
theorem dr_int (s : Stt) (x : Int) : dr s (.int x) = some (.int x) := rfl
theorem dr_bl (s : Stt) (x : Bool) : dr s (.bl x) = some (.bl x) := rfl
theorem dr_str (s : Stt) (x : Str) : dr s (.str x) = some (.str x) := rfl
theorem dr_non (s : Stt) : dr s .non = some .non := rfl
theorem dr_cell (s : Stt) (n : Nat) : dr s (.cell n) = getS s n := rfl
theorem binF_add (i j : Int) : binF .add (.int i) (.int j) = some (.int (i + j)) := rfl
theorem binF_sub (i j : Int) : binF .sub (.int i) (.int j) = some (.int (i - j)) := rfl
theorem binF_mul (i j : Int) (h : mulOk i j = true) : binF .mul (.int i) (.int j) = some (.int (i * j)) := by
  show (if mulOk i j then _ else _) = _
  rw [if_pos h]
theorem binF_mod (i j : Int) (h : 0 < j) : binF .mod (.int i) (.int j) = some (.int (i % j)) := by
  show (if decide (0 < j) = true then _ else _) = _
  rw [if_pos (by simpa using h)]
theorem binF_fdv (i j : Int) (h : 0 < j) (h1 : j < 1073741824) : binF .fdv (.int i) (.int j) = some (.int (i / j)) := by
  show (if (decide (0 < j) && decide (j < 1073741824)) = true then _ else _) = _
  rw [if_pos (by simp [h, h1])]
theorem mulOk_r (i j : Int) (h : j.natAbs < 18446744073709551616) : mulOk i j = true := by unfold mulOk; simp [h]
theorem mulOk_l (i j : Int) (h : i.natAbs < 18446744073709551616) : mulOk i j = true := by unfold mulOk; simp [h]
theorem cmpF_gt (i j : Int) : cmpF .gt (.int i) (.int j) = some (decide (j < i)) := rfl
theorem cmpF_le (i j : Int) : cmpF .le (.int i) (.int j) = some (decide (i ≤ j)) := rfl
theorem cmpF_ge (i j : Int) : cmpF .ge (.int i) (.int j) = some (decide (j ≤ i)) := rfl
theorem cmpF_lt (i j : Int) : cmpF .lt (.int i) (.int j) = some (decide (i < j)) := rfl
theorem cmpF_eq (i j : Int) : cmpF .eq (.int i) (.int j) = some (i == j) := rfl
theorem cmpF_ne (i j : Int) : cmpF .ne (.int i) (.int j) = some (!(i == j)) := rfl
theorem idxF_lst0 (x : D) (xs : List D) : idxF (.lst (x :: xs)) (.int 0) = some x := rfl
theorem idxF_lst1 (x y : D) (xs : List D) : idxF (.lst (x :: y :: xs)) (.int 1) = some y := rfl
theorem idxF_lst2 (x y z : D) (xs : List D) : idxF (.lst (x :: y :: z :: xs)) (.int 2) = some z := rfl
theorem idxF_tup0 (x : D) (xs : List D) : idxF (.tup (x :: xs)) (.int 0) = some x := rfl
theorem idxF_tup1 (x y : D) (xs : List D) : idxF (.tup (x :: y :: xs)) (.int 1) = some y := rfl
theorem idxF_tup2 (x y z : D) (xs : List D) : idxF (.tup (x :: y :: z :: xs)) (.int 2) = some z := rfl

/-! ### drawing -/
def dDraw (M : Int) : Def := ⟨2, 4, false, [
    .ite (.cmp .gt (.idx (.pk 0) (.cst (.int 1))) (.cst (.int 0))) [.stoT 0 (.cst (.int 1)) (.nm 3) (.bi .divmod [(.idx (.pk 0) (.cst (.int 1))), (.pk 1)]), .ret none (.var 3)] [],
    .sto 0 (.cst (.int 2)) (.bin .add (.idx (.pk 0) (.cst (.int 2))) (.cst (.int 1))),
    .asg (.nm 2) (.bi .int [(.idx (.pk 0) (.cst (.int 0)))]),
    .sto 0 (.cst (.int 0)) (.bin .mod (.bi .int [(.bin .add (.bin .add (.bin .mul (.pk 2) (.bin .add (.bin .mod (.pk 2) (.cst (.int 20011))) (.cst (.int 30011)))) (.bin .mul (.cst (.int 70001)) (.idx (.pk 0) (.cst (.int 2))))) (.cst (.int 9)))]) (.cst (.int M))),
    .ret none (.bin .mod (.bi .int [(.bin .fdv (.idx (.pk 0) (.cst (.int 0))) (.cst (.int 128)))]) (.pk 1))]⟩
theorem draw_spec {T : Tab} {M : Int} (hM : 0 < M) (hT : T.fn "_law_draw" = some (dDraw M)) (n : Nat) {s : Stt} {c : Nat} {a b d k : Int} (hs : getS s c = some (.lst [.int a, .int b, .int d])) (h0 : 0 < k) (h1 : k < 1073741824) :
    (callF T (n + 1) "_law_draw" [.cell c, .int k] s).Ok fun r s' => ∃ x a' b' d' : Int, r = .int x ∧ 0 ≤ x ∧ x < k ∧ s' = s.set c (.lst [.int a', .int b', .int d']) := by
  have gk : ∀ w, getS (s.set c w) c = some w := fun w => getS_set hs
  have gk2 : ∀ v w, getS ((s.set c v).set c w) c = some w := fun v w => getS_set (gk v)
  have dm : biF .divmod [.int b, .int k] = some (.tup [.int (b / k), .int (b % k)]) := by
    show (if (decide (0 < k) && decide (k < 1073741824)) = true then _ else _) = _
    rw [if_pos (by simp [h0, h1])]
  have ii : ∀ i, biF .int [.int i] = some (.int i) := fun i => rfl
  have sf : ∀ x y z w, storeF (.lst [x, y, z]) (.int 1) w = some (.lst [x, w, z]) := fun x y z w => rfl
  have sf2 : ∀ x y z w, storeF (.lst [x, y, z]) (.int 2) w = some (.lst [x, y, w]) := fun x y z w => rfl
  have sf0 : ∀ x y z w, storeF (.lst [x, y, z]) (.int 0) w = some (.lst [w, y, z]) := fun x y z w => rfl
  have m2 : ∀ i, mulOk i (i % 20011 + 30011) = true := fun i => mulOk_r _ _ (by omega)
  have m3 : ∀ i, mulOk 70001 i = true := fun i => mulOk_l _ _ (by decide)
  rw [callF_succ T n hT]
  by_cases hb : 0 < b
  · refine .of_eq (a := .int (b % k)) (s := s.set c (.lst [.int a, .int (b / k), .int d])) ?_ ⟨_, _, _, _, rfl, Int.emod_nonneg _ (by omega), Int.emod_lt_of_pos _ h0, rfl⟩
    simp only [runD, dDraw, start, List.length_cons, List.length_nil, exSs, exS, ev, evs, evD, Res.ok_bind, lift_some, slot, put, getAny, getVal, List.map, List.replicate, dr_cell, dr_int, drs, idxF_lst0, idxF_lst1, idxF_lst2, cmpF_gt, truth_bl, hasS, change, bindT, List.cons_append, List.nil_append, hs, gk, gk2, Option.map, dm, ii, sf, sf2, sf0,
      hb, decide_true, if_true, Nat.reduceAdd, Nat.reduceSub, binF_add, binF_mul _ _ (m2 _), binF_mul _ _ (m3 _)]
  · refine .of_eq (a := .int (((a * (a % 20011 + 30011) + 70001 * (d + 1) + 9) % M) / 128 % k)) (s := (((s.set c (.lst [.int a, .int b, .int (d + 1)]))).set c (.lst [.int ((a * (a % 20011 + 30011) + 70001 * (d + 1) + 9) % M), .int b, .int (d + 1)]))) ?_ ⟨_, (a * (a % 20011 + 30011) + 70001 * (d + 1) + 9) % M, b, d + 1, rfl, ?_⟩
    · simp only [runD, dDraw, start, List.length_cons, List.length_nil, exSs, exS, ev, evs, evD, Res.ok_bind, lift_some, slot, put, getAny, getVal, List.map, List.replicate, dr_cell, dr_int, drs, idxF_lst0, idxF_lst1, idxF_lst2, cmpF_gt, truth_bl, hasS, change, bindT, List.cons_append, List.nil_append, hs, gk, gk2, Option.map, dm, ii, sf, sf2, sf0,
        hb, decide_true, decide_false, if_true, Nat.reduceAdd, Nat.reduceSub, binF_add, binF_mul _ _ (m2 _), binF_mul _ _ (m3 _), binF_mod _ 20011 (by decide), binF_mod _ M hM, binF_fdv _ 128 (by decide) (by decide), binF_mod _ k h0]
    · exact ⟨Int.emod_nonneg _ (by omega), Int.emod_lt_of_pos _ h0, by simp⟩
end PyD

/-! PyDX: loops of the evaluator in plain words. -/
namespace PyD
open PySem
theorem loopC_pure {α : Type} {step : D → Stt → Res (Option α)} {s : Stt} (g : D → Option α) : ∀ (ds : List D) (acc : List α), (∀ d, d ∈ ds → step d s = some (.ok (g d), s)) → szOk (acc.length + (ds.filterMap g).length) = true →
    loopC step ds acc s = some (.ok (acc ++ ds.filterMap g), s)
  | [], acc, _, h => by
    show (if szOk acc.length then some (O.ok acc, s) else none) = _
    simp only [List.filterMap_nil, List.length_nil, Nat.add_zero] at h
    rw [if_pos h]
    simp
  | d :: ds, acc, hs, h => by
    show (step d s).bind _ = _
    rw [hs d (List.mem_cons_self ..)]
    show (match g d with | none => loopC step ds acc s | some x => loopC step ds (acc ++ [x]) s) = _
    cases e : g d with
    | none =>
      rw [List.filterMap_cons, e] at h
      rw [List.filterMap_cons, e]
      exact loopC_pure g ds acc (fun d m => hs d (List.mem_cons_of_mem _ m)) h
    | some x =>
      rw [List.filterMap_cons, e] at h
      rw [List.filterMap_cons, e]
      show loopC step ds (acc ++ [x]) s = _
      rw [loopC_pure g ds (acc ++ [x]) (fun d m => hs d (List.mem_cons_of_mem _ m)) (by
        rw [← h]
        simp only [List.length_append, List.length_cons, List.length_nil]
        congr 1
        omega)]
      simp
/-- over data that stand for something: every one goes in -/
theorem loopC_map {α : Type} {step : D → Stt → Res (Option D)} {s : Stt} (enc : α → D) (g : α → D) (xs : List α) (hs : ∀ x, x ∈ xs → step (enc x) s = some (.ok (some (g x)), s)) (h : szOk xs.length = true) :
    loopC step (xs.map enc) [] s = some (.ok (xs.map g), s) := by
  have key : ∀ (xs : List α) (acc : List D), (∀ x, x ∈ xs → step (enc x) s = some (.ok (some (g x)), s)) → szOk (acc.length + xs.length) = true → loopC step (xs.map enc) acc s = some (.ok (acc ++ xs.map g), s) := by
    intro xs
    induction xs with
    | nil =>
      intro acc _ h
      show (if szOk acc.length then some (O.ok acc, s) else none) = _
      rw [if_pos (by simpa using h)]
      simp
    | cons x xs ih =>
      intro acc hs h
      show (step (enc x) s).bind _ = _
      rw [hs x (List.mem_cons_self ..)]
      show loopC step (xs.map enc) (acc ++ [g x]) s = _
      rw [ih (acc ++ [g x]) (fun x m => hs x (List.mem_cons_of_mem _ m)) (by rw [← h]; simp only [List.length_append, List.length_cons, List.length_nil]; congr 1; omega)]
      simp
  exact key xs [] hs (by simpa using h)
/-- .. those of which p holds -/
theorem loopC_filter {α : Type} {step : D → Stt → Res (Option D)} {s : Stt} (enc : α → D) (p : α → Bool) (g : α → D) (xs : List α) (hs : ∀ x, x ∈ xs → step (enc x) s = some (.ok (if p x then some (g x) else none), s)) (h : szOk xs.length = true) :
    loopC step (xs.map enc) [] s = some (.ok ((xs.filter p).map g), s) := by
  have key : ∀ (xs : List α) (acc : List D), (∀ x, x ∈ xs → step (enc x) s = some (.ok (if p x then some (g x) else none), s)) → acc.length + xs.length ≤ 16777216 → loopC step (xs.map enc) acc s = some (.ok (acc ++ (xs.filter p).map g), s) := by
    intro xs
    induction xs with
    | nil =>
      intro acc _ h
      show (if szOk acc.length then some (O.ok acc, s) else none) = _
      rw [if_pos (by simpa [szOk] using h)]
      simp
    | cons x xs ih =>
      intro acc hs h
      have h' : acc.length + (xs.length + 1) ≤ 16777216 := h
      show (step (enc x) s).bind _ = _
      rw [hs x (List.mem_cons_self ..)]
      cases e : p x with
      | true =>
        show loopC step (xs.map enc) (acc ++ [g x]) s = _
        rw [ih (acc ++ [g x]) (fun x m => hs x (List.mem_cons_of_mem _ m)) (by simp only [List.length_append, List.length_cons, List.length_nil]; omega)]
        simp [e]
      | false =>
        show loopC step (xs.map enc) acc s = _
        rw [ih acc (fun x m => hs x (List.mem_cons_of_mem _ m)) (by omega)]
        simp [e]
  exact key xs [] hs (by simpa [szOk] using h)
/-- a for whose body neither changes the state nor leaves -/
theorem loopF_fold {α σ : Type} {t : Tg} {body : Ev → Stt → Res Fl} {s : Stt} (enc : α → D) (R : σ → Ev → Prop) (stp : σ → α → σ) : ∀ (xs : List α) (x : σ) (env : Ev),
    (∀ a x env, a ∈ xs → R x env → ∃ e1 env', bindT t (enc a) env = some e1 ∧ body e1 s = some (.ok (.nx env'), s) ∧ R (stp x a) env') → R x env →
    ∃ env', loopF t body (xs.map enc) env s = some (.ok (.nx env'), s) ∧ R (xs.foldl stp x) env'
  | [], x, env, _, r => ⟨env, rfl, r⟩
  | a :: xs, x, env, h, r => by
    obtain ⟨e1, env1, h1, h2, h3⟩ := h a x env (List.mem_cons_self ..) r
    obtain ⟨env', h4, h5⟩ := loopF_fold enc R stp xs (stp x a) env1 (fun a x env m => h a x env (List.mem_cons_of_mem _ m)) h3
    refine ⟨env', ?_, h5⟩
    show (match bindT t (enc a) env with | none => none | some env => (body env s).bind _) = _
    rw [h1]
    show (body e1 s).bind _ = _
    rw [h2]
    exact h4
/-- a for with an invariant of slots and state; it may leave by return -/
theorem loopF_inv {α : Type} {t : Tg} {body : Ev → Stt → Res Fl} (enc : α → D) (J : List α → Ev → Stt → Prop) (K : D → Stt → Prop) : ∀ (pre xs : List α) (env : Ev) (s : Stt),
    (∀ pre a env s, J pre env s → a ∈ xs → ∃ e1, bindT t (enc a) env = some e1 ∧ (body e1 s).Ok fun f s' => match f with
      | .nx env' => J (pre ++ [a]) env' s'
      | .ct env' => J (pre ++ [a]) env' s'
      | .rt d => K d s'
      | .bk _ => False) → J pre env s →
    (loopF t body (xs.map enc) env s).Ok fun f s' => match f with
      | .nx env' => J (pre ++ xs) env' s'
      | .rt d => K d s'
      | _ => False
  | pre, [], env, s, _, r => ⟨.nx env, s, rfl, by simpa using r⟩
  | pre, a :: xs, env, s, h, r => by
    obtain ⟨e1, h1, f, s', h2, h3⟩ := h pre a env s r (List.mem_cons_self ..)
    have go : ∀ env' s', J (pre ++ [a]) env' s' → (loopF t body (xs.map enc) env' s').Ok fun f s' => match f with
      | .nx env' => J (pre ++ a :: xs) env' s'
      | .rt d => K d s'
      | _ => False := fun env' s' r' => by
      have := loopF_inv enc J K (pre ++ [a]) xs env' s' (fun pre a env s r m => h pre a env s r (List.mem_cons_of_mem _ m)) r'
      simpa using this
    have e : loopF t body ((a :: xs).map enc) env s = (body e1 s).bind fun f s => match f with
      | .nx env => loopF t body (xs.map enc) env s
      | .ct env => loopF t body (xs.map enc) env s
      | .bk env => some (.ok (.nx env), s)
      | .rt d => some (.ok (.rt d), s) := by
      show (match bindT t (enc a) env with | none => none | some env => (body env s).bind _) = _
      rw [h1] <;> rfl
    rw [e, h2]
    cases f with
    | nx env' => exact go env' s' h3
    | ct env' => exact go env' s' h3
    | rt d => exact ⟨.rt d, s', rfl, h3⟩
    | bk env' => exact h3.elim
theorem upTo_map (lo : Int) (n : Nat) : upTo lo n = (List.range n).map fun i : Nat => D.int (lo + i) := by
  induction n generalizing lo with
  | zero => rfl
  | succ n ih =>
    show D.int lo :: upTo (lo + 1) n = _
    rw [ih, List.range_succ_eq_map, List.map_cons, List.map_map]
    congr 1
    · simp
    · apply List.map_congr_left
      intro i _
      show D.int _ = D.int _
      congr 1
      simp only [Nat.succ_eq_add_one, Int.natCast_add]
      omega
theorem rngF1 (n : Nat) (h : n < 16777216) : rngF [.int (n : Int)] = some ((List.range n).map fun i : Nat => D.int (i : Int)) := by
  have e : (decide (-big ≤ (n : Int)) && decide ((n : Int) < big)) = true := by
    rw [Bool.and_eq_true, decide_eq_true_eq, decide_eq_true_eq]
    unfold big
    omega
  simp only [rngF, e, if_true, upTo_map, Int.toNat_natCast, Int.zero_add]
theorem rngF2 (a b : Nat) (h : b < 16777216) (h2 : a < 16777216) : rngF [.int (a : Int), .int (b : Int)] = some ((List.range (b - a)).map fun i : Nat => D.int ((a : Int) + (i : Int))) := by
  have e : ∀ n : Nat, n < 16777216 → (decide (-big ≤ (n : Int)) && decide ((n : Int) < big)) = true := by
    intro n h
    rw [Bool.and_eq_true, decide_eq_true_eq, decide_eq_true_eq]
    unfold big
    omega
  have : ((b : Int) - a).toNat = b - a := by omega
  simp only [rngF, e a h2, e b h, Bool.and_self, if_true, upTo_map, this]
theorem biF_len (x : D) : biF .len [x] = lenF x := rfl
theorem biF_list (x : D) : biF .list [x] = (seqF x).map D.lst := rfl
theorem biF_tuple (x : D) : biF .tuple [x] = (seqF x).map D.tup := rfl
theorem biF_sorted (ys : List D) : biF .sorted [.lst ys] = (sortF ys).map D.lst := rfl
theorem biF_sortedt (ys : List D) : biF .sorted [.tup ys] = (sortF ys).map D.lst := rfl
theorem biF_all (ys : List D) : biF .all [.lst ys] = (boolsD ys).map fun l => .bl (l.all id) := rfl
theorem biF_any (ys : List D) : biF .any [.lst ys] = (boolsD ys).map fun l => .bl (l.any id) := rfl
theorem biF_sum (ys : List D) : biF .sum [.lst ys] = (intsD ys).map fun l => .int l.sum := rfl
theorem biF_min (x : D) : biF .min [x] = minF x := rfl
theorem biF_max (x : D) : biF .max [x] = maxF x := rfl
theorem biF_min2 (i j : Int) : biF .min [.int i, .int j] = some (.int (if j < i then j else i)) := rfl
theorem biF_max2 (i j : Int) : biF .max [.int i, .int j] = some (.int (if j > i then j else i)) := rfl
theorem biF_int (i : Int) : biF .int [.int i] = some (.int i) := rfl
theorem biF_abs (i : Int) : biF .abs [.int i] = some (.int (if i < 0 then -i else i)) := rfl
theorem lenF_tup (xs : List D) : lenF (.tup xs) = some (.int xs.length) := rfl
theorem lenF_lst (xs : List D) : lenF (.lst xs) = some (.int xs.length) := rfl
theorem bnot_bl (b : Bool) : bnot (.bl b) = some (.bl !b) := rfl
theorem boolsD_map {α : Type} (f : α → Bool) (xs : List α) : boolsD (xs.map fun x => .bl (f x)) = some (xs.map f) := by
  induction xs with
  | nil => rfl
  | cons x xs ih =>
    show (match boolsD (xs.map fun x => .bl (f x)) with | some l => some (f x :: l) | none => none) = _
    rw [ih]; rfl
theorem intsD_map {α : Type} (f : α → Int) (xs : List α) : intsD (xs.map fun x => .int (f x)) = some (xs.map f) := by
  induction xs with
  | nil => rfl
  | cons x xs ih =>
    show (match intsD (xs.map fun x => .int (f x)) with | some l => some (f x :: l) | none => none) = _
    rw [ih]; rfl
theorem noEx_ok {α : Type} (a : α) (s : Stt) : noEx (some (.ok a, s)) = some (.ok a, s) := rfl
theorem getS_map {α : Type} (f : α → D) : ∀ (xs : List α) (i : Nat), getS (xs.map f) i = (xs[i]?).map f
  | [], i => by cases i <;> rfl
  | x :: xs, 0 => rfl
  | x :: xs, i + 1 => getS_map f xs i
theorem atF_map {α : Type} (f : α → D) (xs : List α) (i : Nat) (h : i < xs.length) : atF (xs.map f) (i : Int) = some (f xs[i]) := by
  unfold atF
  rw [if_pos (by omega), Int.toNat_natCast, getS_map, List.getElem?_eq_getElem h]
  rfl
theorem idxF_tup_map {α : Type} (f : α → D) (xs : List α) (i : Nat) (h : i < xs.length) : idxF (.tup (xs.map f)) (.int (i : Int)) = some (f xs[i]) := atF_map f xs i h
theorem idxF_lst_map {α : Type} (f : α → D) (xs : List α) (i : Nat) (h : i < xs.length) : idxF (.lst (xs.map f)) (.int (i : Int)) = some (f xs[i]) := atF_map f xs i h
theorem number_map {α : Type} (f : α → D) : ∀ (xs : List α) (k : Nat), number k (xs.map f) = (xs.zipIdx k).map fun p => D.tup [.int (p.2 : Int), f p.1]
  | [], k => rfl
  | x :: xs, k => by
    show D.tup [.int (k : Int), f x] :: number (k + 1) (xs.map f) = _
    rw [number_map f xs (k + 1)]
    rfl
def dP (p : Nat × Nat) : D := .tup [.int p.1, .int p.2]
def dW (n : Nat) (ts : List (Nat × Nat)) : D := .tup [.int n, .tup (ts.map dP)]
def dI (i : Nat) : D := .int i
def dL (l : List Nat) : D := .tup (l.map dI)
def ltP (p q : Nat × Nat) : Bool := decide (p.1 < q.1) || (p.1 == q.1 && decide (p.2 < q.2))
theorem ltB_dP (p q : Nat × Nat) : D.ltB (dP p) (dP q) = ltP p q := by
  have e1 : ∀ a b : Nat, D.eqv (.int (a : Int)) (.int (b : Int)) = (a == b) := fun a b => by
    show ((a : Int) == (b : Int)) = (a == b)
    by_cases h : a = b
    · subst h; rw [beq_self_eq_true, beq_self_eq_true]
    · have : (a : Int) ≠ b := by omega
      rw [beq_eq_false_iff_ne.mpr h, beq_eq_false_iff_ne.mpr this]
  have e2 : ∀ a b : Nat, D.ltB (.int (a : Int)) (.int (b : Int)) = decide (a < b) := fun a b => by
    show decide ((a : Int) < (b : Int)) = _
    by_cases h : a < b
    · have : (a : Int) < b := by omega
      simp [h, this]
    · have : ¬ (a : Int) < b := by omega
      simp [h, this]
  show (if D.eqv (.int (p.1 : Int)) (.int (q.1 : Int)) = true then (if D.eqv (.int (p.2 : Int)) (.int (q.2 : Int)) = true then ltAll [] [] else D.ltB (.int (p.2 : Int)) (.int (q.2 : Int))) else D.ltB (.int (p.1 : Int)) (.int (q.1 : Int))) = ltP p q
  rw [e1, e1, e2, e2]
  unfold ltP
  by_cases h : p.1 = q.1
  · by_cases h2 : p.2 = q.2
    · simp [h, h2, ltAll]
    · simp [h, h2]
  · simp [h]
theorem cmpF_lt_dP (p q : Nat × Nat) : cmpF .lt (dP p) (dP q) = some (ltP p q) := by
  rw [← ltB_dP]
  rfl
theorem dr_dP (s : Stt) (p : Nat × Nat) : dr s (dP p) = some (dP p) := rfl
theorem dr_dI (s : Stt) (p : Nat) : dr s (dI p) = some (dI p) := rfl
theorem dr_dL (s : Stt) (p : List Nat) : dr s (dL p) = some (dL p) := rfl
theorem dr_dW (s : Stt) (n : Nat) (p : List (Nat × Nat)) : dr s (dW n p) = some (dW n p) := rfl
theorem seqF_tup (xs : List D) : seqF (.tup xs) = some xs := rfl
theorem seqF_lst (xs : List D) : seqF (.lst xs) = some xs := rfl
theorem bindT_nm (i : Nat) (d : D) (env : Ev) : bindT (.nm i) d env = some (put env i (.val d)) := rfl
theorem bindT_tt (ts : List Tg) (ds : List D) (env : Ev) : bindT (.tup ts) (.tup ds) env = bindTs ts ds env := rfl
theorem bindT_tl (ts : List Tg) (ds : List D) (env : Ev) : bindT (.tup ts) (.lst ds) env = bindTs ts ds env := rfl
theorem bindTs_nil (env : Ev) : bindTs [] [] env = some env := rfl
theorem bindTs_nm (i : Nat) (ts : List Tg) (d : D) (ds : List D) (env : Ev) : bindTs (.nm i :: ts) (d :: ds) env = bindTs ts ds (put env i (.val d)) := rfl
/-- the same, with what comes behind it -/
theorem loopF_then {α σ β : Type} {t : Tg} {body : Ev → Stt → Res Fl} {s : Stt} {k : Fl → Stt → Res β} {r : Res β} (enc : α → D) (R : σ → Ev → Prop) (stp : σ → α → σ) (xs : List α) (x : σ) {env : Ev}
    (h : ∀ a x env, a ∈ xs → R x env → ∃ e1 env', bindT t (enc a) env = some e1 ∧ body e1 s = some (.ok (.nx env'), s) ∧ R (stp x a) env') (h0 : R x env) (hk : ∀ env', R (xs.foldl stp x) env' → k (.nx env') s = r) :
    (loopF t body (xs.map enc) env s).bind k = r := by
  obtain ⟨env', e, h'⟩ := loopF_fold enc R stp xs x env h h0
  rw [e]
  exact hk env' h'
theorem loopC_then {α β : Type} {step : D → Stt → Res (Option D)} {s : Stt} {k : List D → Stt → Res β} {r : Res β} (enc : α → D) (p : α → Bool) (g : α → D) (xs : List α) (hs : ∀ x, x ∈ xs → step (enc x) s = some (.ok (if p x then some (g x) else none), s)) (h : szOk xs.length = true)
    (hk : k ((xs.filter p).map g) s = r) : (loopC step (xs.map enc) [] s).bind k = r := by
  rw [loopC_filter enc p g xs hs h]
  exact hk
theorem szOk_le' {n : Nat} (h : n ≤ 16777216) : szOk n = true := decide_eq_true h
/-! ### sorting -/
theorem perm_map_inv {α : Type} (f : α → D) : ∀ (xs : List α) (l : List D), l.Perm (xs.map f) → ∃ ys : List α, ys.Perm xs ∧ l = ys.map f := by
  intro xs l h
  have h' := h.symm
  generalize e : xs.map f = m at h'
  clear h
  induction h' generalizing xs with
  | nil => exact ⟨[], by simpa using e, rfl⟩
  | cons x _ ih =>
    cases xs with
    | nil => cases e
    | cons a as =>
      cases e
      obtain ⟨ys, h1, h2⟩ := ih as rfl
      exact ⟨a :: ys, h1.cons a, by rw [h2]; rfl⟩
  | swap x y l =>
    cases xs with
    | nil => cases e
    | cons a as =>
      cases as with
      | nil => cases e
      | cons b bs =>
        cases e
        exact ⟨b :: a :: bs, .swap .., rfl⟩
  | trans _ _ ih1 ih2 =>
    obtain ⟨ys, h1, h2⟩ := ih1 xs e
    obtain ⟨zs, h3, h4⟩ := ih2 ys h2.symm
    exact ⟨zs, h3.trans h1, h4⟩
/-- what sorted answers, of data that may be compared -/
theorem sortF_map {α : Type} (f : α → D) (xs : List α) (h1 : ∀ x, x ∈ xs → okD (f x) = true) (h2 : ∀ x y, x ∈ xs → y ∈ xs → D.like (f x) (f y) = true) : ∃ ys : List α, ys.Perm xs ∧ sortF (xs.map f) = some (ys.map f) ∧ ys.map f = isort D.ltB (xs.map f) := by
  obtain ⟨ys, h3, h4⟩ := perm_map_inv f xs _ (isort_perm D.ltB (xs.map f))
  refine ⟨ys, h3, ?_, h4.symm⟩
  unfold sortF
  rw [if_pos, h4]
  rw [Bool.and_eq_true, List.all_eq_true, List.all_eq_true]
  refine ⟨fun d hd => ?_, fun d hd => ?_⟩
  · obtain ⟨x, hx, rfl⟩ := List.mem_map.mp hd
    exact h1 x hx
  · rw [List.all_eq_true]
    intro e he
    obtain ⟨x, hx, rfl⟩ := List.mem_map.mp hd
    obtain ⟨y, hy, rfl⟩ := List.mem_map.mp he
    exact h2 x y hx hy
theorem likeAll_ints : ∀ (xs ys : List Nat), likeAll (xs.map dI) (ys.map dI) = true
  | [], _ => rfl
  | _ :: _, [] => rfl
  | x :: xs, y :: ys => likeAll_ints xs ys
theorem okN_ints (n : Nat) (xs : List Nat) : (xs.map dI).all (D.okN (n + 1)) = true := by
  rw [List.all_eq_true]
  intro d hd
  obtain ⟨x, _, rfl⟩ := List.mem_map.mp hd
  rfl
theorem okD_dL (l : List Nat) : okD (dL l) = true := okN_ints 18 l
/-- the lots, in the order of doubling -/
def lots : Nat → List (List Nat)
  | 0 => [[]]
  | n + 1 => lots n ++ (lots n).map fun l => l ++ [n]
theorem lots_length (n : Nat) : (lots n).length = 2 ^ n := by
  induction n with
  | zero => rfl
  | succ n ih =>
    show (lots n ++ (lots n).map fun l => l ++ [n]).length = _
    rw [List.length_append, List.length_map, ih, Nat.pow_succ]
    omega
theorem szRange {m : Nat} (h : m ≤ 1000) : szOk (List.range m).length = true := szOk_le' (by rw [List.length_range]; exact Nat.le_trans h (by decide))
theorem rngF1' {m : Nat} (h : m ≤ 1000) : rngF [.int (m : Int)] = some ((List.range m).map fun i : Nat => D.int (i : Int)) := rngF1 m (Nat.lt_of_le_of_lt h (by decide))
end PyD

/-! PyDY: the evaluator's rules, one by one, for rewriting. -/
namespace PyD
open PySem
/-! the same as those of PyDW, but no steps of definition: the kernel is not to look within -/
theorem okb {α β : Type} (a : α) (s : Stt) (f : α → Stt → Res β) : Res.bind (some (O.ok a, s)) f = f a s := Eq.trans rfl rfl
theorem elimS {α β : Type} (a : α) (n : β) (f : α → β) : (some a).elim n f = f a := Eq.trans rfl rfl
theorem liftS {α : Type} (a : α) (s : Stt) : lift (some a) s = some (O.ok a, s) := Eq.trans rfl rfl
theorem condT {α : Type} (a b : α) : cond true a b = a := Eq.trans rfl rfl
theorem condF {α : Type} (a b : α) : cond false a b = b := Eq.trans rfl rfl
theorem condB (b : Bool) (s : Stt) : (cond b (some (O.ok true, s)) (some (O.ok false, s)) : Res Bool) = some (.ok b, s) := by cases b <;> rfl
def appF (e : Nat) (env : Ev) (y : D) (s : Stt) : Res Fl := (getS s e).elim none fun d => (mutF .append d y).elim none fun d' => some (.ok (.nx env), s.set e d')
theorem appF_ok {s : Stt} {e : Nat} {xs : List D} (h : getS s e = some (.lst xs)) (hz : xs.length < 1000) (env : Ev) (y : D) : appF e env y s = some (.ok (.nx env), s.set e (.lst (xs ++ [y]))) := by
  unfold appF
  rw [h, elimS]
  show (if szOk (xs.length + 1) then some (D.lst (xs ++ [y])) else none : Option D).elim none _ = _
  rw [if_pos (szOk_le' (by omega)), elimS]
theorem isi_bool_non : isiF .bool .non = some false := rfl
theorem isi_bool_bl (x : Bool) : isiF .bool (.bl x) = some true := rfl
theorem isi_bool_int (x : Int) : isiF .bool (.int x) = some false := rfl
theorem isi_bool_str (x : Str) : isiF .bool (.str x) = some false := rfl
theorem isi_bool_tup (x : List D) : isiF .bool (.tup x) = some false := rfl
theorem isi_bool_lst (x : List D) : isiF .bool (.lst x) = some false := rfl
theorem isi_int_non : isiF .int .non = some false := rfl
theorem isi_int_bl (x : Bool) : isiF .int (.bl x) = some true := rfl
theorem isi_int_int (x : Int) : isiF .int (.int x) = some true := rfl
theorem isi_int_str (x : Str) : isiF .int (.str x) = some false := rfl
theorem isi_int_tup (x : List D) : isiF .int (.tup x) = some false := rfl
theorem isi_int_lst (x : List D) : isiF .int (.lst x) = some false := rfl
theorem isi_str_non : isiF .str .non = some false := rfl
theorem isi_str_bl (x : Bool) : isiF .str (.bl x) = some false := rfl
theorem isi_str_int (x : Int) : isiF .str (.int x) = some false := rfl
theorem isi_str_str (x : Str) : isiF .str (.str x) = some true := rfl
theorem isi_str_tup (x : List D) : isiF .str (.tup x) = some false := rfl
theorem isi_str_lst (x : List D) : isiF .str (.lst x) = some false := rfl
theorem isi_tuple_non : isiF .tuple .non = some false := rfl
theorem isi_tuple_bl (x : Bool) : isiF .tuple (.bl x) = some false := rfl
theorem isi_tuple_int (x : Int) : isiF .tuple (.int x) = some false := rfl
theorem isi_tuple_str (x : Str) : isiF .tuple (.str x) = some false := rfl
theorem isi_tuple_tup (x : List D) : isiF .tuple (.tup x) = some true := rfl
theorem isi_tuple_lst (x : List D) : isiF .tuple (.lst x) = some false := rfl
theorem isi_list_non : isiF .list .non = some false := rfl
theorem isi_list_bl (x : Bool) : isiF .list (.bl x) = some false := rfl
theorem isi_list_int (x : Int) : isiF .list (.int x) = some false := rfl
theorem isi_list_str (x : Str) : isiF .list (.str x) = some false := rfl
theorem isi_list_tup (x : List D) : isiF .list (.tup x) = some false := rfl
theorem isi_list_lst (x : List D) : isiF .list (.lst x) = some true := rfl
theorem isi_dict_non : isiF .dict .non = some false := rfl
theorem isi_dict_bl (x : Bool) : isiF .dict (.bl x) = some false := rfl
theorem isi_dict_int (x : Int) : isiF .dict (.int x) = some false := rfl
theorem isi_dict_str (x : Str) : isiF .dict (.str x) = some false := rfl
theorem isi_dict_tup (x : List D) : isiF .dict (.tup x) = some false := rfl
theorem isi_dict_lst (x : List D) : isiF .dict (.lst x) = some false := rfl
def negF : D → Stt → Res D
  | .int i, s => some (.ok (.int (-i)), s)
  | _, _ => none
theorem negF_int (i : Int) (s : Stt) : negF (.int i) s = some (.ok (.int (-i)), s) := rfl
def boxF : D → Stt → Res D
  | .lst xs, s => some (.ok (.cell s.length), s ++ [.lst xs])
  | .dic xs, s => some (.ok (.cell s.length), s ++ [.dic xs])
  | _, _ => none
def goOn (k : Ev → Stt → Res Fl) : Fl → Stt → Res Fl
  | .nx env, s => k env s
  | .rt d, s => some (.ok (.rt d), s)
  | .bk env, s => some (.ok (.bk env), s)
  | .ct env, s => some (.ok (.ct env), s)
def frzF (env : Ev) (i : Nat) : Slot → Ev
  | .own d => put env i (.val d)
  | _ => env
def getOwn : Slot → Option D
  | .own d => some d
  | _ => none
theorem boxF_lst (xs : List D) (s : Stt) : boxF (.lst xs) s = some (.ok (.cell s.length), s ++ [.lst xs]) := rfl
theorem goOn_nx (k : Ev → Stt → Res Fl) (env : Ev) (s : Stt) : goOn k (.nx env) s = k env s := Eq.trans rfl rfl
theorem goOn_rt (k : Ev → Stt → Res Fl) (d : D) (s : Stt) : goOn k (.rt d) s = some (.ok (.rt d), s) := rfl
theorem frzF_own (env : Ev) (i : Nat) (d : D) : frzF env i (.own d) = put env i (.val d) := rfl
theorem frzF_val (env : Ev) (i : Nat) (d : D) : frzF env i (.val d) = env := rfl
theorem getOwn_own (d : D) : getOwn (.own d) = some d := rfl
section
variable (C : Cfg) (env : Ev) (s : Stt)
theorem ev_var (i : Nat) : ev C (.var i) env s = lift (getVal (slot env i)) s := by rw [ev]
theorem ev_pk (i : Nat) : ev C (.pk i) env s = lift (getAny (slot env i)) s := by rw [ev]
theorem ev_cst (d : D) : ev C (.cst d) env s = some (.ok d, s) := by rw [ev]
theorem ev_glb (x : Str) : ev C (.glb x) env s = lift (C.gl x) s := by rw [ev]
theorem ev_bin (o : BOp) (a b : E) : ev C (.bin o a b) env s = (ev C a env s).bind fun x s => (ev C b env s).bind fun y s => lift (binF o x y) s := by rw [ev]
theorem ev_not (a : E) : ev C (.not a) env s = (ev C a env s).bind fun x s => lift (bnot x) s := by rw [ev]
theorem ev_cmp (o : COp) (a b : E) : ev C (.cmp o a b) env s = (ev C a env s).bind fun x s => (ev C b env s).bind fun y s => (dr s x).elim none fun x => (dr s y).elim none fun y => lift ((cmpF o x y).map D.bl) s := by
  rw [ev]; congr 1; funext x s; congr 1; funext y s
  cases dr s x <;> cases dr s y <;> rfl
theorem ev_cmp2 (o p : COp) (a b c : E) : ev C (.cmp2 o p a b c) env s = (ev C a env s).bind fun x s => (ev C b env s).bind fun y s => (cmpF o x y).elim none fun t => cond t ((ev C c env s).bind fun z s => lift ((cmpF p y z).map D.bl) s) (some (.ok (.bl false), s)) := by
  rw [ev]; congr 1; funext x s; congr 1; funext y s
  cases cmpF o x y with
  | none => rfl
  | some t => cases t <;> rfl
theorem ev_cmp3 (o p q : COp) (a b c d : E) : ev C (.cmp3 o p q a b c d) env s = (ev C a env s).bind fun x s => (ev C b env s).bind fun y s => (cmpF o x y).elim none fun t => cond t ((ev C c env s).bind fun z s => (cmpF p y z).elim none fun t => cond t ((ev C d env s).bind fun w s => lift ((cmpF q z w).map D.bl) s) (some (.ok (.bl false), s))) (some (.ok (.bl false), s)) := by
  rw [ev]; congr 1; funext x s; congr 1; funext y s
  cases cmpF o x y with
  | none => rfl
  | some t =>
    cases t
    · rfl
    · show Res.bind _ _ = Res.bind _ _
      congr 1; funext z s
      cases cmpF p y z with
      | none => rfl
      | some t => cases t <;> rfl
theorem ev_and (a b : E) : ev C (.and a b) env s = (ev C a env s).bind fun x s => (truth x).elim none fun t => cond t (ev C b env s) (some (.ok x, s)) := by
  rw [ev]; congr 1; funext x s
  cases truth x with
  | none => rfl
  | some t => cases t <;> rfl
theorem ev_or (a b : E) : ev C (.or a b) env s = (ev C a env s).bind fun x s => (truth x).elim none fun t => cond t (some (.ok x, s)) (ev C b env s) := by
  rw [ev]; congr 1; funext x s
  cases truth x with
  | none => rfl
  | some t => cases t <;> rfl
theorem ev_ite (c a b : E) : ev C (.ite c a b) env s = (ev C c env s).bind fun x s => (truth x).elim none fun t => cond t (ev C a env s) (ev C b env s) := by
  rw [ev]; congr 1; funext x s
  cases truth x with
  | none => rfl
  | some t => cases t <;> rfl
theorem ev_tup (es : List (Bool × E)) : ev C (.tup es) env s = (evD C es env s).bind fun xs s => if szOk xs.length then some (.ok (.tup xs), s) else none := by rw [ev]
theorem ev_lst (es : List (Bool × E)) : ev C (.lst es) env s = (evD C es env s).bind fun xs s => if szOk xs.length then some (.ok (.lst xs), s) else none := by rw [ev]
theorem ev_idx (a i : E) : ev C (.idx a i) env s = (ev C a env s).bind fun x s => (ev C i env s).bind fun y s => (dr s x).elim none fun x => lift (idxF x y) s := by
  rw [ev]; congr 1; funext x s; congr 1; funext y s
  cases dr s x <;> rfl
theorem ev_slc (a lo hi : E) : ev C (.slc a lo hi) env s = (ev C a env s).bind fun x s => (ev C lo env s).bind fun y s => (endF lo y).elim none fun y => (ev C hi env s).bind fun z s => (endF hi z).elim none fun z => lift (slcF x y z) s := by
  rw [ev]; congr 1; funext x s; congr 1; funext y s
  cases endF lo y with
  | none => rfl
  | some y =>
    show Res.bind _ _ = Res.bind _ _
    congr 1; funext z s
    cases endF hi z <;> rfl
theorem ev_call0 (f : Str) (es : List E) : ev C (.call f es []) env s = (evs C es env s).bind fun xs s => C.fn f xs s := by rw [ev]
theorem ev_callk (f : Str) (es : List E) (p : Nat) (ps : List Nat) : ev C (.call f es (p :: ps)) env s = (evs C es env s).bind fun xs s => C.fn f (place xs.length (p :: ps) xs) s := by rw [ev]
theorem ev_lrng (es : List E) : ev C (.lrng es) env s = (evs C es env s).bind fun xs s => (rngF xs).elim none fun xs => if szOk xs.length then some (.ok (.lst xs), s) else none := by
  rw [ev]
  cases evs C es env s with
  | none => rfl
  | some p =>
    obtain ⟨o, s⟩ := p
    cases o with
    | ex => rfl
    | ok a =>
      show (match rngF a with | none => none | some xs => if szOk xs.length then some (O.ok (D.lst xs), s) else none) = (rngF a).elim none fun xs => if szOk xs.length then some (O.ok (D.lst xs), s) else none
      cases rngF a <;> rfl
theorem ev_bi (b : BI) (es : List E) : ev C (.bi b es) env s = (evs C es env s).bind fun xs s => (drs s xs).elim none fun xs => lift (biF b xs) s := by
  rw [ev]; congr 1; funext x s
  cases drs s x <;> rfl
theorem ev_isi (t : Ty) (a : E) : ev C (.isi t a) env s = (ev C a env s).bind fun x s => lift ((isiF t x).map D.bl) s := by rw [ev]
theorem ev_box (a : E) : ev C (.box a) env s = (ev C a env s).bind boxF := by
  rw [ev]; congr 1; funext x s
  cases x <;> rfl
theorem evs_nil : evs C [] env s = some (.ok [], s) := by rw [evs]
theorem evs_cons (e : E) (es : List E) : evs C (e :: es) env s = (ev C e env s).bind fun x s => (evs C es env s).bind fun xs s => some (.ok (x :: xs), s) := by rw [evs]
theorem evD_nil : evD C [] env s = some (.ok [], s) := by rw [evD]
theorem evD_f (e : E) (es : List (Bool × E)) : evD C ((false, e) :: es) env s = (ev C e env s).bind fun x s => (evD C es env s).bind fun xs s => some (.ok (x :: xs), s) := by rw [evD]; rfl
theorem evD_t (e : E) (es : List (Bool × E)) : evD C ((true, e) :: es) env s = (ev C e env s).bind fun x s => (seqF x).elim none fun ys => (evD C es env s).bind fun xs s => some (.ok (ys ++ xs), s) := by rw [evD]
theorem evT_nil : evT C [] env s = some (.ok true, s) := by rw [evT]
theorem evT_cons (e : E) (es : List E) : evT C (e :: es) env s = (ev C e env s).bind fun x s => (truth x).elim none fun t => cond t (evT C es env s) (some (.ok false, s)) := by
  rw [evT]; congr 1; funext x s
  cases truth x with
  | none => rfl
  | some t => cases t <;> rfl
theorem evI_seq (a : E) : evI C (.seq a) env s = (ev C a env s).bind fun x s => lift (seqF x) s := by rw [evI]
theorem evI_rng (es : List E) : evI C (.rng es) env s = (evs C es env s).bind fun xs s => lift (rngF xs) s := by rw [evI]
theorem evI_enm (a : E) : evI C (.enm a) env s = (ev C a env s).bind fun x s => (seqF x).elim none fun xs => some (.ok (number 0 xs), s) := by
  rw [evI]; congr 1; funext x s
  cases seqF x <;> rfl
/-! ### statements -/
theorem exSs_nil : exSs C [] env s = some (.ok (.nx env), s) := by rw [exSs]
theorem exSs_cons (st : S) (sts : List S) : exSs C (st :: sts) env s = (exS C st env s).bind (goOn fun env s => exSs C sts env s) := by
  rw [exSs]; congr 1; funext x s
  cases x <;> rfl
theorem exS_asg (t : Tg) (e : E) : exS C (.asg t e) env s = (ev C e env s).bind fun x s => lift ((bindT t x env).map Fl.nx) s := by rw [exS]
theorem exS_asgO (i : Nat) (e : E) : exS C (.asgO i e) env s = (ev C e env s).bind fun x s => if canOwn x then some (.ok (.nx (put env i (.own x))), s) else none := by rw [exS]
theorem exS_par (ts : List (Bool × Nat)) (es : List (Bool × E)) : exS C (.par ts es) env s = (evD C es env s).bind fun xs s => lift ((parF ts xs env).map Fl.nx) s := by rw [exS]
theorem exS_exp (e : E) : exS C (.exp e) env s = (ev C e env s).bind fun _ s => some (.ok (.nx env), s) := by rw [exS]
theorem exS_frz (i : Nat) : exS C (.frz i) env s = some (.ok (.nx (frzF env i (slot env i))), s) := by
  rw [exS]
  cases slot env i <;> rfl
theorem exS_retv (e : E) : exS C (.ret none e) env s = (ev C e env s).bind fun x s => some (.ok (.rt x), s) := by rw [exS]
theorem exS_reto (i : Nat) (e : E) : exS C (.ret (some i) e) env s = lift ((getOwn (slot env i)).map Fl.rt) s := by
  rw [exS]
  cases slot env i <;> rfl
theorem exS_ite (c : E) (a b : List S) : exS C (.ite c a b) env s = (ev C c env s).bind fun x s => (truth x).elim none fun t => cond t (exSs C a env s) (exSs C b env s) := by
  rw [exS]; congr 1; funext x s
  cases truth x with
  | none => rfl
  | some t => cases t <;> rfl
theorem exS_fr (t : Tg) (it : I) (body : List S) : exS C (.fr t it body) env s = (evI C it env s).bind fun xs s => loopF t (fun env s => exSs C body env s) xs env s := by rw [exS]
theorem exS_mut (m : MU) (a : Nat) (e : E) : exS C (.mut m a e) env s = if isLstS s (slot env a) then (ev C e env s).bind fun y s => (change a (fun x => mutF m x y) env s).bind fun env s => some (.ok (.nx env), s) else none := by rw [exS]
theorem exS_pass : exS C .pass env s = some (.ok (.nx env), s) := by rw [exS]
theorem elim_some {α β : Type} (a : α) (n : β) (f : α → β) : (some a).elim n f = f a := rfl
/-- a comprehension with one clause, nothing changing -/
theorem ev_comp {α : Type} {elt : E} {t : Tg} {it : I} {cs : List E} (enc : α → D) (p : α → Bool) (g : α → D) (xs : List α)
    (hI : evI C it env s = some (.ok (xs.map enc), s))
    (hs : ∀ x, x ∈ xs → ∃ env', bindT t (enc x) env = some env' ∧ evT C cs env' s = some (.ok (p x), s) ∧ (p x = true → ev C elt env' s = some (.ok (g x), s)))
    (hz : szOk xs.length = true) : ev C (.comp elt t it cs) env s = some (.ok (.lst ((xs.filter p).map g)), s) := by
  rw [ev, hI]
  show noEx (Res.bind (loopC _ _ _ _) _) = _
  rw [loopC_filter enc p g xs ?_ hz]
  · rfl
  · intro x hx
    obtain ⟨env', h1, h2, h3⟩ := hs x hx
    simp only [h1, h2, Res.ok_bind]
    cases hp : p x with
    | false => rfl
    | true =>
      simp only [h3 hp, Res.ok_bind]
      rfl
/-- .. without tests -/
theorem ev_comp0 {α : Type} {elt : E} {t : Tg} {it : I} (enc : α → D) (g : α → D) (xs : List α)
    (hI : evI C it env s = some (.ok (xs.map enc), s))
    (hs : ∀ x, x ∈ xs → ∃ env', bindT t (enc x) env = some env' ∧ ev C elt env' s = some (.ok (g x), s))
    (hz : szOk xs.length = true) : ev C (.comp elt t it []) env s = some (.ok (.lst (xs.map g)), s) := by
  have := ev_comp C env s (elt := elt) (t := t) (it := it) (cs := []) enc (fun _ => true) g xs hI (fun x hx => by
    obtain ⟨env', h1, h2⟩ := hs x hx
    exact ⟨env', h1, evT_nil .., fun _ => h2⟩) hz
  rwa [List.filter_eq_self.mpr fun _ _ => rfl] at this
/-- a for, nothing changing but the names -/
theorem exS_fold {α σ : Type} {t : Tg} {it : I} {body : List S} (enc : α → D) (R : σ → Ev → Prop) (stp : σ → α → σ) (xs : List α) (x : σ)
    (hI : evI C it env s = some (.ok (xs.map enc), s))
    (h : ∀ a x env, a ∈ xs → R x env → ∃ e1 env', bindT t (enc a) env = some e1 ∧ exSs C body e1 s = some (.ok (.nx env'), s) ∧ R (stp x a) env') (h0 : R x env) :
    ∃ env', exS C (.fr t it body) env s = some (.ok (.nx env'), s) ∧ R (xs.foldl stp x) env' := by
  obtain ⟨env', h1, h2⟩ := loopF_fold (body := fun env s => exSs C body env s) (s := s) enc R stp xs x env h h0
  refine ⟨env', ?_, h2⟩
  rw [exS_fr, hI]
  exact h1
/-- a for that changes the state, or leaves -/
theorem exS_inv {α : Type} {t : Tg} {it : I} {body : List S} (enc : α → D) (J : List α → Ev → Stt → Prop) (K : D → Stt → Prop) (xs : List α) {s1 : Stt}
    (hI : evI C it env s = some (.ok (xs.map enc), s1)) (h0 : J [] env s1)
    (h : ∀ pre a env s, J pre env s → a ∈ xs → ∃ e1, bindT t (enc a) env = some e1 ∧ (exSs C body e1 s).Ok fun f s' => match f with
      | .nx env' => J (pre ++ [a]) env' s'
      | .ct env' => J (pre ++ [a]) env' s'
      | .rt d => K d s'
      | .bk _ => False) :
    (exS C (.fr t it body) env s).Ok fun f s' => match f with
      | .nx env' => J xs env' s'
      | .rt d => K d s'
      | _ => False := by
  rw [exS_fr, hI]
  exact loopF_inv (body := fun env s => exSs C body env s) enc J K [] xs env s1 h h0
/-- a for with an invariant about what is done so far; nothing changes but the names -/
theorem exS_pre {α β : Type} {t : Tg} {it : I} {body : List S} {k : Fl → Stt → Res β} {r : Res β} (enc : α → D) (R : List α → Ev → Prop) (xs : List α)
    (hI : evI C it env s = some (.ok (xs.map enc), s))
    (h : ∀ pre a post env, xs = pre ++ a :: post → R pre env → ∃ e1 env', bindT t (enc a) env = some e1 ∧ exSs C body e1 s = some (.ok (.nx env'), s) ∧ R (pre ++ [a]) env')
    (h0 : R [] env) (hk : ∀ env', R xs env' → k (.nx env') s = r) : (exS C (.fr t it body) env s).bind k = r := by
  have key : ∀ (post pre : List α) (env : Ev), xs = pre ++ post → R pre env → ∃ env', loopF t (fun env s => exSs C body env s) (post.map enc) env s = some (.ok (.nx env'), s) ∧ R xs env' := by
    intro post
    induction post with
    | nil =>
      intro pre env e r
      rw [List.append_nil] at e
      exact ⟨env, rfl, e ▸ r⟩
    | cons a post ih =>
      intro pre env e r
      obtain ⟨e1, env1, h1, h2, h3⟩ := h pre a post env e r
      obtain ⟨env', h4, h5⟩ := ih (pre ++ [a]) env1 (by rw [e]; simp) h3
      refine ⟨env', ?_, h5⟩
      show (match bindT t (enc a) env with | none => none | some env => (exSs C body env s).bind _) = _
      rw [h1]
      show (exSs C body e1 s).bind _ = _
      rw [h2]
      exact h4
  obtain ⟨env', h1, h2⟩ := key xs [] env rfl h0
  rw [exS_fr, hI]
  show Res.bind (loopF t (fun env s => exSs C body env s) (xs.map enc) env s) k = r
  rw [h1]
  exact hk env' h2
/-- a for that changes the state, and does not leave -/
theorem exS_ok {α β : Type} {t : Tg} {it : I} {body : List S} {k : Fl → Stt → Res β} {Q : β → Stt → Prop} (enc : α → D) (J : List α → Ev → Stt → Prop) (xs : List α) {s1 : Stt}
    (hI : evI C it env s = some (.ok (xs.map enc), s1))
    (h : ∀ pre a post env s, xs = pre ++ a :: post → J pre env s → ∃ e1, bindT t (enc a) env = some e1 ∧ (exSs C body e1 s).Ok fun f s' => ∃ env', f = .nx env' ∧ J (pre ++ [a]) env' s')
    (h0 : J [] env s1) (hk : ∀ env' s', J xs env' s' → (k (.nx env') s').Ok Q) : ((exS C (.fr t it body) env s).bind k).Ok Q := by
  have key : ∀ (post pre : List α) (env : Ev) (s : Stt), xs = pre ++ post → J pre env s → (loopF t (fun env s => exSs C body env s) (post.map enc) env s).Ok fun f s' => ∃ env', f = .nx env' ∧ J xs env' s' := by
    intro post
    induction post with
    | nil =>
      intro pre env s e r
      rw [List.append_nil] at e
      exact ⟨.nx env, s, rfl, env, rfl, e ▸ r⟩
    | cons a post ih =>
      intro pre env s e r
      obtain ⟨e1, h1, f, s', h2, env', rfl, h3⟩ := h pre a post env s e r
      have : loopF t (fun env s => exSs C body env s) ((a :: post).map enc) env s = loopF t (fun env s => exSs C body env s) (post.map enc) env' s' := by
        show (match bindT t (enc a) env with | none => none | some env => (exSs C body env s).bind _) = _
        rw [h1]
        show (exSs C body e1 s).bind _ = _
        rw [h2]
        rfl
      rw [this]
      exact ih (pre ++ [a]) env' s' (by rw [e]; simp) h3
  obtain ⟨f, s', h1, env', rfl, h2⟩ := key xs [] env s1 rfl h0
  rw [exS_fr, hI]
  show Res.Ok (Res.bind (loopF t (fun env s => exSs C body env s) (xs.map enc) env s1) k) Q
  rw [h1]
  exact hk env' s' h2
theorem ev_neg (a : E) : ev C (.neg a) env s = (ev C a env s).bind negF := by
  rw [ev]; congr 1; funext x s
  cases x <;> rfl
theorem szOk0 : szOk 0 = true := rfl
theorem szOk1 : szOk 1 = true := rfl
theorem szOk2 : szOk 2 = true := rfl
theorem szOk3 : szOk 3 = true := rfl
theorem szOk4 : szOk 4 = true := rfl
theorem szOk5 : szOk 5 = true := rfl
theorem szOk6 : szOk 6 = true := rfl
theorem binF_addl (xs ys : List D) : binF .add (.lst xs) (.lst ys) = if szOk (xs.length + ys.length) then some (.lst (xs ++ ys)) else none := rfl
theorem binF_addt (xs ys : List D) : binF .add (.tup xs) (.tup ys) = if szOk (xs.length + ys.length) then some (.tup (xs ++ ys)) else none := rfl
theorem exS_app {i e : Nat} {ex : E} {xs : List D} (h1 : slot env i = .val (.cell e)) (h2 : getS s e = some (.lst xs)) : exS C (.mut .append i ex) env s = (ev C ex env s).bind (appF e env) := by
  have h3 : isLstS s (.val (.cell e)) = true := by
    show (match getS s e with | some (.lst _) => true | _ => false) = true
    rw [h2]
  rw [exS_mut, h1, if_pos h3]
  congr 1; funext y s
  unfold change appF
  rw [h1]
  show Res.bind (match getS s e with | some d => (match mutF .append d y with | some d => some (O.ok env, s.set e d) | none => none) | none => none) _ = _
  cases getS s e with
  | none => rfl
  | some d =>
    show Res.bind (match mutF .append d y with | some d => some (O.ok env, s.set e d) | none => none) _ = (mutF .append d y).elim none fun d' => some (O.ok (Fl.nx env), s.set e d')
    cases mutF .append d y <;> rfl
theorem exS_app_ok {β : Type} {i e : Nat} {ex : E} {xs : List D} {k : Fl → Stt → Res β} {Q : β → Stt → Prop} (h1 : slot env i = .val (.cell e)) (h2 : getS s e = some (.lst xs)) (h : ((ev C ex env s).bind fun y s => (appF e env y s).bind k).Ok Q) : ((exS C (.mut .append i ex) env s).bind k).Ok Q := by
  rw [exS_app C env s h1 h2, Res.bind_assoc]
  exact h
end
/-! ### drawing, in short -/
def PoolAt (s : Stt) (c : Nat) : Prop := ∃ a b d : Int, getS s c = some (.lst [.int a, .int b, .int d])
theorem draw_ok {T : Tab} {M : Int} (hM : 0 < M) (hT : T.fn "_law_draw" = some (dDraw M)) {n : Nat} (hn : 1 ≤ n) {s : Stt} {c : Nat} {k : Int} (hs : PoolAt s c) (h0 : 0 < k) (h1 : k < 1073741824) :
    (callF T n "_law_draw" [.cell c, .int k] s).Ok fun r s' => (∃ x : Nat, r = .int x ∧ (x : Int) < k) ∧ PoolAt s' c ∧ ∀ e, e ≠ c → getS s' e = getS s e := by
  obtain ⟨n, rfl⟩ : ∃ m, n = m + 1 := ⟨n - 1, by omega⟩
  obtain ⟨a, b, d, hs⟩ := hs
  obtain ⟨r, s', e, x, a', b', d', rfl, h2, h3, rfl⟩ := draw_spec hM hT n (k := k) hs h0 h1
  refine ⟨_, _, e, ⟨x.toNat, by rw [Int.toNat_of_nonneg h2], by omega⟩, ⟨a', b', d', getS_set hs⟩, fun e ne => getS_set_ne fun h => ne h.symm⟩
theorem getS_lt {s : Stt} {c : Nat} {d : D} : getS s c = some d → c < s.length := by
  induction s generalizing c with
  | nil => intro h; cases h
  | cons x s ih => intro h; cases c with
    | zero => exact Nat.succ_pos _
    | succ c => exact Nat.succ_lt_succ (ih (c := c) h)
theorem PoolAt.snoc {s : Stt} {c : Nat} (h : PoolAt s c) (d : D) : PoolAt (s ++ [d]) c := by
  obtain ⟨x, y, z, h⟩ := h
  exact ⟨x, y, z, getS_append h⟩
theorem PoolAt.lt {s : Stt} {c : Nat} (h : PoolAt s c) : c < s.length := by
  obtain ⟨x, y, z, h⟩ := h
  exact getS_lt h
theorem PoolAt.set {s : Stt} {c e : Nat} {w : D} (h : PoolAt s c) (ne : e ≠ c) : PoolAt (s.set e w) c := by
  obtain ⟨x, y, z, h⟩ := h
  exact ⟨x, y, z, by rw [getS_set_ne ne]; exact h⟩
end PyD

/-! PyDZ: sorting by insertion, rooms by doubling, widths, groups in plain words. -/
namespace PyD
open PySem
section
variable {α : Type} (lt : α → α → Bool)
def insA (x : α) : List α → List α
  | [] => [x]
  | y :: ys => if lt y x then y :: insA x ys else x :: y :: ys
def isortA : List α → List α
  | [] => []
  | x :: xs => insA lt x (isortA xs)
theorem insA_perm (x : α) : ∀ ys : List α, (insA lt x ys).Perm (x :: ys)
  | [] => .refl _
  | y :: ys => by
    unfold insA
    split
    · exact ((insA_perm x ys).cons y).trans (.swap ..)
    · exact .refl _
theorem isortA_perm : ∀ xs : List α, (isortA lt xs).Perm xs
  | [] => .refl _
  | x :: xs => (insA_perm lt x _).trans ((isortA_perm xs).cons x)
theorem insA_pw (tr : ∀ x y z, lt y x = false → lt z y = false → lt z x = false) (as : ∀ x y, lt x y = true → lt y x = false) (x : α) : ∀ ys : List α, ys.Pairwise (fun a b => lt b a = false) → (insA lt x ys).Pairwise (fun a b => lt b a = false)
  | [], _ => List.pairwise_singleton ..
  | y :: ys, h => by
    rw [List.pairwise_cons] at h
    unfold insA
    cases e : lt y x with
    | true =>
      rw [if_pos rfl, List.pairwise_cons]
      refine ⟨fun b hb => ?_, insA_pw tr as x ys h.2⟩
      rcases List.mem_cons.mp ((insA_perm lt x ys).mem_iff.mp hb) with rfl | hb
      · exact as _ _ e
      · exact h.1 b hb
    | false =>
      rw [if_neg (by simp), List.pairwise_cons]
      refine ⟨fun b hb => ?_, List.pairwise_cons.mpr h⟩
      rcases List.mem_cons.mp hb with rfl | hb
      · exact e
      · exact tr x y b e (h.1 b hb)
theorem isortA_pw (tr : ∀ x y z, lt y x = false → lt z y = false → lt z x = false) (as : ∀ x y, lt x y = true → lt y x = false) : ∀ xs : List α, (isortA lt xs).Pairwise (fun a b => lt b a = false)
  | [] => .nil
  | x :: xs => insA_pw lt tr as x _ (isortA_pw tr as xs)
theorem isortA_id : ∀ xs : List α, xs.Pairwise (fun a b => lt b a = false) → isortA lt xs = xs
  | [], _ => rfl
  | x :: xs, h => by
    rw [List.pairwise_cons] at h
    show insA lt x (isortA lt xs) = _
    rw [isortA_id xs h.2]
    cases xs with
    | nil => rfl
    | cons y ys =>
      unfold insA
      rw [if_neg (by rw [h.1 y (List.mem_cons_self ..)]; simp)]
theorem ins_map {f : α → D} (h : ∀ x y, D.ltB (f x) (f y) = lt x y) (x : α) : ∀ ys : List α, ins D.ltB (f x) (ys.map f) = (insA lt x ys).map f
  | [] => rfl
  | y :: ys => by
    show (if D.ltB (f y) (f x) then f y :: ins D.ltB (f x) (ys.map f) else f x :: f y :: ys.map f) = _
    rw [h, ins_map h x ys]
    show _ = List.map f (if lt y x = true then y :: insA lt x ys else x :: y :: ys)
    cases lt y x <;> simp
theorem isort_map {f : α → D} (h : ∀ x y, D.ltB (f x) (f y) = lt x y) : ∀ xs : List α, isort D.ltB (xs.map f) = (isortA lt xs).map f
  | [] => rfl
  | x :: xs => by
    show ins D.ltB (f x) (isort D.ltB (xs.map f)) = _
    rw [isort_map h xs, ins_map lt h]
    rfl
theorem sortF_enc {f : α → D} (h : ∀ x y, D.ltB (f x) (f y) = lt x y) (ok : ∀ x, okD (f x) = true) (li : ∀ x y, D.like (f x) (f y) = true) (xs : List α) : sortF (xs.map f) = some ((isortA lt xs).map f) := by
  unfold sortF
  rw [if_pos, isort_map lt h]
  rw [Bool.and_eq_true, List.all_eq_true, List.all_eq_true]
  refine ⟨fun d hd => ?_, fun d hd => ?_⟩
  · obtain ⟨x, _, rfl⟩ := List.mem_map.mp hd
    exact ok x
  · rw [List.all_eq_true]
    intro e he
    obtain ⟨x, _, rfl⟩ := List.mem_map.mp hd
    obtain ⟨y, _, rfl⟩ := List.mem_map.mp he
    exact li x y
end
theorem ltP_iff (p q : Nat × Nat) : ltP p q = true ↔ p.1 < q.1 ∨ (p.1 = q.1 ∧ p.2 < q.2) := by unfold ltP; simp
theorem ltP_no (p q : Nat × Nat) : ltP p q = false ↔ ¬(p.1 < q.1 ∨ (p.1 = q.1 ∧ p.2 < q.2)) := by rw [← ltP_iff, Bool.not_eq_true]
theorem ltP_tr : ∀ x y z, ltP y x = false → ltP z y = false → ltP z x = false := by
  intro x y z h1 h2
  rw [ltP_no] at h1 h2 ⊢
  omega
theorem ltP_as : ∀ x y, ltP x y = true → ltP y x = false := by
  intro x y h
  rw [ltP_iff] at h
  rw [ltP_no]
  omega
/-! the doubling of rooms -/
def dbl (R : List (List Nat)) (os : List Nat) : List (List Nat) := os.foldl (fun R p => R ++ R.map fun r => r ++ [p]) R
theorem dbl_has (f : Nat → Bool) : ∀ (os : List Nat) (R : List (List Nat)) (r : List Nat), r ∈ R → r ++ os.filter f ∈ dbl R os
  | [], R, r, h => by simpa [dbl] using h
  | o :: os, R, r, h => by
    show _ ∈ dbl (R ++ R.map fun r => r ++ [o]) os
    cases e : f o with
    | true =>
      have := dbl_has f os (R ++ R.map fun r => r ++ [o]) (r ++ [o]) (List.mem_append_right _ (List.mem_map.mpr ⟨r, h, rfl⟩))
      simpa [e] using this
    | false =>
      have := dbl_has f os (R ++ R.map fun r => r ++ [o]) r (List.mem_append_left _ h)
      simpa [e] using this
theorem dbl_in : ∀ (os : List Nat) (R : List (List Nat)) (r : List Nat), r ∈ dbl R os → ∃ q k, q ∈ R ∧ r = q ++ k ∧ k.Sublist os
  | [], R, r, h => ⟨r, [], by simpa [dbl] using h, by simp, .slnil⟩
  | o :: os, R, r, h => by
    obtain ⟨q, k, h1, h2, h3⟩ := dbl_in os (R ++ R.map fun r => r ++ [o]) r h
    rcases List.mem_append.mp h1 with h1 | h1
    · exact ⟨q, k, h1, h2, .cons _ h3⟩
    · obtain ⟨q', h4, rfl⟩ := List.mem_map.mp h1
      exact ⟨q', o :: k, h4, by rw [h2]; simp, .cons_cons _ h3⟩
theorem dbl_length : ∀ (os : List Nat) (R : List (List Nat)), (dbl R os).length = R.length * 2 ^ os.length
  | [], R => by simp [dbl]
  | o :: os, R => by
    show (dbl (R ++ R.map fun r => r ++ [o]) os).length = _
    rw [dbl_length os, List.length_append, List.length_map, List.length_cons, Nat.pow_succ, ← Nat.two_mul, Nat.mul_comm 2, Nat.mul_assoc, Nat.mul_comm 2]
/-! widths in plain words -/
def crossP (f : Nat → Bool) (p : Nat × Nat) : Bool := f p.1 != f p.2
def cross (ts : List (Nat × Nat)) (f : Nat → Bool) : Nat := (ts.filter (crossP f)).length
structure IsW (ts : List (Nat × Nat)) (a b w : Nat) : Prop where
  ex : ∃ f, f a = true ∧ f b = false ∧ cross ts f = w
  le : ∀ f, f a = true → f b = false → w ≤ cross ts f
theorem IsW.uniq {ts : List (Nat × Nat)} {a b w v : Nat} (h : IsW ts a b w) (k : IsW ts a b v) : w = v := by
  obtain ⟨f, h1, h2, h3⟩ := h.ex
  obtain ⟨g, k1, k2, k3⟩ := k.ex
  have := h.le g k1 k2
  have := k.le f h1 h2
  omega
theorem cross_not (ts : List (Nat × Nat)) (f : Nat → Bool) : cross ts (fun x => !f x) = cross ts f := by
  unfold cross
  congr 2
  funext p
  show ((!f p.1) != !f p.2) = (f p.1 != f p.2)
  cases f p.1 <;> cases f p.2 <;> rfl
theorem IsW.symm {ts : List (Nat × Nat)} {a b w : Nat} (h : IsW ts a b w) : IsW ts b a w := by
  obtain ⟨f, h1, h2, h3⟩ := h.ex
  refine ⟨⟨fun x => !f x, by simp [h2], by simp [h1], by rw [cross_not, h3]⟩, fun g g1 g2 => ?_⟩
  rw [← cross_not ts g]
  exact h.le _ (by simp [g2]) (by simp [g1])
theorem filter_le {α : Type} (p q : α → Bool) (xs : List α) (h : ∀ x, x ∈ xs → p x = true → q x = true) : (xs.filter p).length ≤ (xs.filter q).length := by
  rw [← List.countP_eq_length_filter, ← List.countP_eq_length_filter]
  exact List.countP_mono_left h
theorem IsW.deg1 {ts : List (Nat × Nat)} {a b w : Nat} (ne : a ≠ b) (h : IsW ts a b w) : w ≤ (ts.filter fun p => p.1 == a || p.2 == a).length := by
  refine Nat.le_trans (h.le (fun x => x == a) (by simp) (by simpa using fun e => ne e.symm)) ?_
  refine filter_le _ _ _ fun p _ hp => ?_
  unfold crossP at hp
  cases h1 : p.1 == a <;> cases h2 : p.2 == a <;> simp_all
theorem IsW.deg2 {ts : List (Nat × Nat)} {a b w : Nat} (ne : a ≠ b) (h : IsW ts a b w) : w ≤ (ts.filter fun p => p.1 == b || p.2 == b).length := h.symm.deg1 fun e => ne e.symm
theorem cross_append (xs ys : List (Nat × Nat)) (f : Nat → Bool) : cross (xs ++ ys) f = cross xs f + cross ys f := by
  unfold cross
  rw [List.filter_append, List.length_append]
theorem cross_less (ts : List (Nat × Nat)) (f : Nat → Bool) (i : Nat) (hi : i < ts.length) : cross (ts.take i ++ ts.drop (i + 1)) f ≤ cross ts f ∧ cross ts f ≤ cross (ts.take i ++ ts.drop (i + 1)) f + 1 := by
  have e : ts = ts.take i ++ (ts[i] :: ts.drop (i + 1)) := by rw [← List.drop_eq_getElem_cons hi, List.take_append_drop]
  have e2 : cross ts f = cross (ts.take i) f + cross [ts[i]] f + cross (ts.drop (i + 1)) f := by
    conv => lhs; rw [e, show (ts[i] :: ts.drop (i + 1)) = [ts[i]] ++ ts.drop (i + 1) from rfl, cross_append, cross_append]
    omega
  have : cross [ts[i]] f ≤ 1 := List.length_filter_le ..
  rw [cross_append]
  omega
theorem IsW.less {ts : List (Nat × Nat)} {a b w v i : Nat} (hi : i < ts.length) (h : IsW ts a b w) (k : IsW (ts.take i ++ ts.drop (i + 1)) a b v) : v ≤ w ∧ w ≤ v + 1 := by
  obtain ⟨f, h1, h2, h3⟩ := h.ex
  obtain ⟨g, k1, k2, k3⟩ := k.ex
  have := h.le g k1 k2
  have := k.le f h1 h2
  have := cross_less ts f i hi
  have := cross_less ts g i hi
  omega
theorem cross_congr {n : Nat} {ts : List (Nat × Nat)} (ht : ∀ p, p ∈ ts → p.1 < n ∧ p.2 < n) {f g : Nat → Bool} (e : ∀ x, x < n → f x = g x) : cross ts f = cross ts g := by
  unfold cross
  congr 1
  apply List.filter_congr
  intro p hp
  unfold crossP
  rw [e _ (ht p hp).1, e _ (ht p hp).2]
def inL (r : List Nat) (x : Nat) : Bool := r.contains x
/-- the least over a family of rooms that holds enough of them -/
theorem IsW.rooms {n : Nat} {ts : List (Nat × Nat)} (ht : ∀ p, p ∈ ts → p.1 < n ∧ p.2 < n) {a b m : Nat} (R : List (List Nat)) (h1 : ∀ r, r ∈ R → inL r a = true ∧ inL r b = false)
    (h2 : ∀ f : Nat → Bool, f a = true → f b = false → ∃ r, r ∈ R ∧ ∀ x, x < n → inL r x = f x) (m1 : ∃ r, r ∈ R ∧ cross ts (inL r) = m) (m2 : ∀ r, r ∈ R → m ≤ cross ts (inL r)) : IsW ts a b m := by
  obtain ⟨r, hr, e⟩ := m1
  refine ⟨⟨inL r, (h1 r hr).1, (h1 r hr).2, e⟩, fun f f1 f2 => ?_⟩
  obtain ⟨q, hq, e⟩ := h2 f f1 f2
  rw [← cross_congr ht e]
  exact m2 q hq
/-! ### lots -/
theorem mem_lots (n : Nat) (f : Nat → Bool) : (List.range n).filter f ∈ lots n := by
  induction n with
  | zero => exact List.mem_singleton.mpr rfl
  | succ n ih =>
    show _ ∈ lots n ++ (lots n).map fun l => l ++ [n]
    rw [List.range_succ, List.filter_append, List.mem_append]
    cases h : f n with
    | false => left; simpa [h] using ih
    | true => right; rw [List.mem_map]; exact ⟨_, ih, by simp [h]⟩
theorem lots_sub (n : Nat) : ∀ l, l ∈ lots n → ∃ f : Nat → Bool, l = (List.range n).filter f := by
  induction n with
  | zero => intro l hl; exact ⟨fun _ => false, by simpa [lots] using hl⟩
  | succ n ih =>
    intro l hl
    have hl : l ∈ lots n ++ (lots n).map fun l => l ++ [n] := hl
    rcases List.mem_append.mp hl with h | h
    · obtain ⟨f, rfl⟩ := ih l h
      refine ⟨fun x => f x && decide (x < n), ?_⟩
      rw [List.range_succ, List.filter_append]
      have e1 : (List.range n).filter (fun x => f x && decide (x < n)) = (List.range n).filter f := List.filter_congr fun x hx => by simp [List.mem_range.mp hx]
      rw [e1]; simp
    · obtain ⟨k, hk, rfl⟩ := List.mem_map.mp h
      obtain ⟨f, rfl⟩ := ih k hk
      refine ⟨fun x => f x || decide (x = n), ?_⟩
      rw [List.range_succ, List.filter_append]
      have e1 : (List.range n).filter (fun x => f x || decide (x = n)) = (List.range n).filter f := List.filter_congr fun x hx => by
        have := List.mem_range.mp hx
        simp; omega
      rw [e1]; simp
/-! ### groups -/
def gstep (gs : List (List Nat)) (p : Nat × Nat) : List (List Nat) := (gs.filter fun g => !inL g p.1 && !inL g p.2) ++ [(gs.filter fun g => inL g p.1 || inL g p.2).flatten]
def groups (n : Nat) (ps : List (Nat × Nat)) : List (List Nat) := ps.foldl gstep ((List.range n).map fun x => [x])
theorem inL_iff {r : List Nat} {x : Nat} : inL r x = true ↔ x ∈ r := by simp [inL]
theorem gstep_all {n : Nat} {gs : List (List Nat)} (p : Nat × Nat) (h : ∀ x, x < n → ∃ g, g ∈ gs ∧ x ∈ g) : ∀ x, x < n → ∃ g, g ∈ gstep gs p ∧ x ∈ g := by
  intro x hx
  obtain ⟨g, hg, hxg⟩ := h x hx
  cases e : (inL g p.1 || inL g p.2) with
  | true => exact ⟨_, List.mem_append_right _ (List.mem_singleton.mpr rfl), List.mem_flatten.mpr ⟨g, List.mem_filter.mpr ⟨hg, e⟩, hxg⟩⟩
  | false => exact ⟨g, List.mem_append_left _ (List.mem_filter.mpr ⟨hg, by simpa using e⟩), hxg⟩
theorem gstep_old {gs : List (List Nat)} (p q : Nat × Nat) (h : ∀ g, g ∈ gs → (q.1 ∈ g ↔ q.2 ∈ g)) : ∀ g, g ∈ gstep gs p → (q.1 ∈ g ↔ q.2 ∈ g) := by
  intro g hg
  rcases List.mem_append.mp hg with hg | hg
  · exact h g (List.mem_filter.mp hg).1
  · rw [List.mem_singleton.mp hg, List.mem_flatten, List.mem_flatten]
    constructor
    · rintro ⟨l, hl, m⟩; exact ⟨l, hl, (h l (List.mem_filter.mp hl).1).mp m⟩
    · rintro ⟨l, hl, m⟩; exact ⟨l, hl, (h l (List.mem_filter.mp hl).1).mpr m⟩
theorem gstep_new {n : Nat} {gs : List (List Nat)} (p : Nat × Nat) (hp : p.1 < n ∧ p.2 < n) (h : ∀ x, x < n → ∃ g, g ∈ gs ∧ x ∈ g) : ∀ g, g ∈ gstep gs p → (p.1 ∈ g ↔ p.2 ∈ g) := by
  intro g hg
  rcases List.mem_append.mp hg with hg | hg
  · have := (List.mem_filter.mp hg).2
    rw [Bool.and_eq_true, Bool.not_eq_true', Bool.not_eq_true'] at this
    rw [← inL_iff, ← inL_iff, this.1, this.2]
  · rw [List.mem_singleton.mp hg, List.mem_flatten, List.mem_flatten]
    obtain ⟨g1, m1, x1⟩ := h _ hp.1
    obtain ⟨g2, m2, x2⟩ := h _ hp.2
    exact ⟨fun _ => ⟨g2, List.mem_filter.mpr ⟨m2, by simp [inL_iff.mpr x2]⟩, x2⟩, fun _ => ⟨g1, List.mem_filter.mpr ⟨m1, by simp [inL_iff.mpr x1]⟩, x1⟩⟩
theorem gstep_like {gs : List (List Nat)} (f : Nat → Bool) (p : Nat × Nat) (e : f p.1 = f p.2) (h : ∀ g, g ∈ gs → ∀ x y, x ∈ g → y ∈ g → f x = f y) : ∀ g, g ∈ gstep gs p → ∀ x y, x ∈ g → y ∈ g → f x = f y := by
  intro g hg x y hx hy
  rcases List.mem_append.mp hg with hg | hg
  · exact h g (List.mem_filter.mp hg).1 x y hx hy
  · rw [List.mem_singleton.mp hg] at hx hy
    have key : ∀ z, z ∈ (gs.filter fun g => inL g p.1 || inL g p.2).flatten → f z = f p.1 := by
      intro z hz
      obtain ⟨l, hl, m⟩ := List.mem_flatten.mp hz
      obtain ⟨hl, e2⟩ := List.mem_filter.mp hl
      rcases Bool.or_eq_true_iff.mp e2 with e2 | e2
      · exact h l hl z _ m (inL_iff.mp e2)
      · rw [e]; exact h l hl z _ m (inL_iff.mp e2)
    rw [key x hx, key y hy]
theorem groups_inv {n : Nat} : ∀ (ps : List (Nat × Nat)) (gs : List (List Nat)) (old : List (Nat × Nat)), (∀ p, p ∈ ps → p.1 < n ∧ p.2 < n) → (∀ x, x < n → ∃ g, g ∈ gs ∧ x ∈ g) → (∀ q, q ∈ old → ∀ g, g ∈ gs → (q.1 ∈ g ↔ q.2 ∈ g)) →
    (∀ x, x < n → ∃ g, g ∈ ps.foldl gstep gs ∧ x ∈ g) ∧ (∀ q, q ∈ old ++ ps → ∀ g, g ∈ ps.foldl gstep gs → (q.1 ∈ g ↔ q.2 ∈ g))
  | [], gs, old, _, h1, h2 => ⟨h1, by simpa using h2⟩
  | p :: ps, gs, old, h0, h1, h2 => by
    have := groups_inv ps (gstep gs p) (old ++ [p]) (fun q m => h0 q (List.mem_cons_of_mem _ m)) (gstep_all p h1) (fun q hq => by
      rcases List.mem_append.mp hq with hq | hq
      · exact gstep_old p q (h2 q hq)
      · rw [List.mem_singleton.mp hq]; exact gstep_new p (h0 p (List.mem_cons_self ..)) h1)
    simpa using this
theorem groups_like (f : Nat → Bool) : ∀ (ps : List (Nat × Nat)) (gs : List (List Nat)), (∀ p, p ∈ ps → f p.1 = f p.2) → (∀ g, g ∈ gs → ∀ x y, x ∈ g → y ∈ g → f x = f y) → ∀ g, g ∈ ps.foldl gstep gs → ∀ x y, x ∈ g → y ∈ g → f x = f y
  | [], gs, _, h => h
  | p :: ps, gs, h0, h => groups_like f ps (gstep gs p) (fun q m => h0 q (List.mem_cons_of_mem _ m)) (gstep_like f p (h0 p (List.mem_cons_self ..)) h)
/-- both in one group -/
def joinsB (n : Nat) (ps : List (Nat × Nat)) (a b : Nat) : Bool := (groups n ps).any fun g => inL g a && inL g b
theorem not_joins {n : Nat} {ps : List (Nat × Nat)} {a b : Nat} (hp : ∀ p, p ∈ ps → p.1 < n ∧ p.2 < n) (ha : a < n) (h : joinsB n ps a b = false) : ∃ f : Nat → Bool, f a = true ∧ f b = false ∧ ∀ p, p ∈ ps → f p.1 = f p.2 := by
  have i := groups_inv (n := n) ps ((List.range n).map fun x => [x]) [] hp (fun x hx => ⟨[x], List.mem_map.mpr ⟨x, List.mem_range.mpr hx, rfl⟩, List.mem_singleton.mpr rfl⟩) (by simp)
  obtain ⟨g, hg, hag⟩ := i.1 a ha
  refine ⟨inL g, inL_iff.mpr hag, ?_, fun p m => ?_⟩
  · cases e : inL g b with
    | false => rfl
    | true =>
      have : joinsB n ps a b = true := List.any_eq_true.mpr ⟨g, hg, by rw [e, inL_iff.mpr hag]; rfl⟩
      rw [h] at this
      cases this
  · have := i.2 p (by simpa using m) g hg
    rw [Bool.eq_iff_iff, inL_iff, inL_iff]
    exact this
theorem joins_no {n : Nat} {ps : List (Nat × Nat)} {a b : Nat} {f : Nat → Bool} (fa : f a = true) (fb : f b = false) (hp : ∀ p, p ∈ ps → f p.1 = f p.2) : joinsB n ps a b = false := by
  cases e : joinsB n ps a b with
  | false => rfl
  | true =>
    obtain ⟨g, hg, h⟩ := List.any_eq_true.mp e
    rw [Bool.and_eq_true, inL_iff, inL_iff] at h
    have := groups_like f ps ((List.range n).map fun x => [x]) hp (fun g hg x y hx hy => by
      obtain ⟨z, _, rfl⟩ := List.mem_map.mp hg
      rw [List.mem_singleton.mp hx, List.mem_singleton.mp hy]) g hg a b h.1 h.2
    rw [fa, fb] at this
    cases this
/-! ### the other ties of a lot -/
def pick (ts : List (Nat × Nat)) (l : List Nat) : List (Nat × Nat) := l.map fun i => ts[i]?.getD (0, 0)
def rest (k : Nat) (l : List Nat) : List Nat := (List.range k).filter fun i => !inL l i
theorem cross_idx (q : Nat × Nat → Bool) (ts : List (Nat × Nat)) : (ts.filter q).length = ((List.range ts.length).filter fun i => q (ts[i]?.getD (0, 0))).length := by
  have e : ts = (List.range ts.length).map fun i => ts[i]?.getD (0, 0) := by
    apply List.ext_getElem
    · simp
    · intro i h1 h2; simp [h1]
  conv => lhs; rw [e, List.filter_map, List.length_map]
  rfl
theorem lots_w {n : Nat} {ts : List (Nat × Nat)} (ht : ∀ p, p ∈ ts → p.1 < n ∧ p.2 < n) {a b w : Nat} (ha : a < n) (h : IsW ts a b w) :
    (∃ l, l ∈ (lots ts.length).filter (fun l => !joinsB n (pick ts (rest ts.length l)) a b) ∧ l.length = w) ∧ ∀ l, l ∈ (lots ts.length).filter (fun l => !joinsB n (pick ts (rest ts.length l)) a b) → w ≤ l.length := by
  constructor
  · obtain ⟨f, h1, h2, h3⟩ := h.ex
    refine ⟨(List.range ts.length).filter fun i => crossP f (ts[i]?.getD (0, 0)), List.mem_filter.mpr ⟨mem_lots _ _, ?_⟩, by rw [← h3]; exact (cross_idx _ _).symm⟩
    rw [Bool.not_eq_true']
    refine joins_no h1 h2 fun p hp => ?_
    obtain ⟨i, hi, rfl⟩ := List.mem_map.mp hp
    obtain ⟨hi, e⟩ := List.mem_filter.mp hi
    rw [Bool.not_eq_true', ← Bool.not_eq_true, inL_iff, List.mem_filter] at e
    have : ¬ crossP f (ts[i]?.getD (0, 0)) = true := fun k => e ⟨hi, k⟩
    unfold crossP at this
    simpa using this
  · intro l hl
    obtain ⟨hl, e⟩ := List.mem_filter.mp hl
    rw [Bool.not_eq_true'] at e
    obtain ⟨g, rfl⟩ := lots_sub _ l hl
    have hp : ∀ p, p ∈ pick ts (rest ts.length ((List.range ts.length).filter g)) → p.1 < n ∧ p.2 < n := by
      intro p hp
      obtain ⟨i, hi, rfl⟩ := List.mem_map.mp hp
      have hi := List.mem_range.mp (List.mem_filter.mp hi).1
      have : ts[i]?.getD (0, 0) = ts[i] := by simp [hi]
      rw [this]
      exact ht _ (List.getElem_mem ..)
    obtain ⟨f, f1, f2, f3⟩ := not_joins hp ha e
    refine Nat.le_trans (h.le f f1 f2) ?_
    show (ts.filter (crossP f)).length ≤ _
    rw [cross_idx]
    refine filter_le _ _ _ fun i hi hc => ?_
    cases e : g i with
    | true => rfl
    | false =>
      have := f3 (ts[i]?.getD (0, 0)) (List.mem_map.mpr ⟨i, List.mem_filter.mpr ⟨hi, by simp [inL, e]⟩, rfl⟩)
      unfold crossP at hc
      rw [this] at hc
      simp at hc
/-! ### the evaluator's words in plain ones -/
theorem eqv_int (x y : Nat) : D.eqv (.int (x : Int)) (.int (y : Int)) = (x == y) := by
  show ((x : Int) == (y : Int)) = (x == y)
  by_cases h : x = y
  · subst h; rw [beq_self_eq_true, beq_self_eq_true]
  · have : (x : Int) ≠ y := by omega
    rw [beq_eq_false_iff_ne.mpr h, beq_eq_false_iff_ne.mpr this]
theorem any_eqvN (x : Nat) : ∀ l : List Nat, (l.map dI).any (fun z => D.eqv z (.int (x : Int))) = inL l x
  | [] => rfl
  | y :: l => by
    rw [List.map_cons, List.any_cons, any_eqvN x l]
    show (D.eqv (.int (y : Int)) (.int (x : Int)) || inL l x) = inL (y :: l) x
    rw [eqv_int]
    unfold inL
    rw [List.contains_cons]
    congr 1
    by_cases h : y = x
    · subst h; rfl
    · rw [beq_eq_false_iff_ne.mpr h, beq_eq_false_iff_ne.mpr fun e => h e.symm]
theorem all_okD_dI (l : List Nat) : (l.map dI).all okD = true := okN_ints 19 l
theorem inF_tup (x : Nat) (l : List Nat) : inF (.int x) (.tup (l.map dI)) = some (inL l x) := by
  show (if okD (.int x) && (l.map dI).all okD then some ((l.map dI).any fun z => D.eqv z (.int x)) else none) = _
  rw [all_okD_dI, any_eqvN]
  rfl
theorem inF_dL (x : Nat) (l : List Nat) : inF (.int x) (dL l) = some (inL l x) := inF_tup x l
theorem inF_lst (x : Nat) (l : List Nat) : inF (.int x) (.lst (l.map dI)) = some (inL l x) := inF_tup x l
theorem cmpF_in (x y : D) : cmpF .in_ x y = inF x y := rfl
theorem cmpF_nin (x y : D) : cmpF .nin x y = (inF x y).map (!·) := rfl
theorem cmpF_eqb (a b : Bool) : cmpF .eq (.bl a) (.bl b) = some (a == b) := rfl
theorem cmpF_neb (a b : Bool) : cmpF .ne (.bl a) (.bl b) = some (a != b) := by cases a <;> cases b <;> rfl
theorem minI_specN : ∀ (l : List Int) (i : Int), (minI i l = i ∨ minI i l ∈ l) ∧ minI i l ≤ i ∧ ∀ x, x ∈ l → minI i l ≤ x
  | [], i => ⟨.inl rfl, Int.le_refl _, fun x h => by cases h⟩
  | y :: l, i => by
    show (minI (if y < i then y else i) l = i ∨ minI (if y < i then y else i) l ∈ y :: l) ∧ minI (if y < i then y else i) l ≤ i ∧ ∀ x, x ∈ y :: l → minI (if y < i then y else i) l ≤ x
    obtain ⟨h1, h2, h3⟩ := minI_specN l (if y < i then y else i)
    by_cases h : y < i
    · rw [if_pos h] at h1 h2 h3 ⊢
      refine ⟨.inr ?_, by omega, fun x hx => ?_⟩
      · rcases h1 with h1 | h1
        · rw [h1]; exact List.mem_cons_self ..
        · exact List.mem_cons_of_mem _ h1
      · rcases List.mem_cons.mp hx with rfl | hx
        · exact h2
        · exact h3 x hx
    · rw [if_neg h] at h1 h2 h3 ⊢
      refine ⟨?_, h2, fun x hx => ?_⟩
      · rcases h1 with h1 | h1
        · exact .inl h1
        · exact .inr (List.mem_cons_of_mem _ h1)
      · rcases List.mem_cons.mp hx with rfl | hx
        · omega
        · exact h3 x hx
theorem minF_map {α : Type} (g : α → Nat) (xs : List α) (h : xs ≠ []) : ∃ m : Nat, minF (.lst (xs.map fun x => D.int (g x : Nat))) = some (.int m) ∧ (∃ x, x ∈ xs ∧ g x = m) ∧ ∀ x, x ∈ xs → m ≤ g x := by
  cases xs with
  | nil => exact absurd rfl h
  | cons y ys =>
    have e : minF (.lst ((y :: ys).map fun x => D.int (g x : Nat))) = some (.int (minI (g y : Nat) (ys.map fun x => ((g x : Nat) : Int)))) := by
      show (match intsD ((y :: ys).map fun x => D.int ((g x : Nat) : Int)) with | some (i :: l) => some (D.int (minI i l)) | _ => none) = _
      rw [intsD_map (fun x => ((g x : Nat) : Int))]
      rfl
    obtain ⟨h1, h2, h3⟩ := minI_specN (ys.map fun x => ((g x : Nat) : Int)) (g y : Nat)
    have h4 : ∃ x, x ∈ y :: ys ∧ ((g x : Nat) : Int) = minI (g y : Nat) (ys.map fun x => ((g x : Nat) : Int)) := by
      rcases h1 with h1 | h1
      · exact ⟨y, List.mem_cons_self .., h1.symm⟩
      · obtain ⟨x, hx, e⟩ := List.mem_map.mp h1
        exact ⟨x, List.mem_cons_of_mem _ hx, e⟩
    obtain ⟨x, hx, ex⟩ := h4
    refine ⟨g x, by rw [e, ex], ⟨x, hx, rfl⟩, fun z hz => ?_⟩
    rcases List.mem_cons.mp hz with rfl | hz
    · omega
    · have := h3 _ (List.mem_map.mpr ⟨z, hz, rfl⟩)
      omega
/-! ### the end of a def -/
def fin : Fl → Stt → Res D
  | .nx _, s => some (.ok .non, s)
  | .rt x, s => some (.ok x, s)
  | _, _ => none
theorem fin_nx (env : Ev) (s : Stt) : fin (.nx env) s = some (.ok .non, s) := rfl
theorem fin_rt (x : D) (s : Stt) : fin (.rt x) s = some (.ok x, s) := rfl
theorem callF_run (T : Tab) {n m : Nat} (hm : n = m + 1) {f : Str} {d : Def} (h : T.fn f = some d) (xs : List D) (s : Stt) (hl : xs.length = d.np) : callF T n f xs s = (exSs ⟨callF T m, T.gl, T.wf⟩ d.body (start d xs) s).bind fin := by
  subst hm
  rw [callF_succ T m h]
  unfold runD
  rw [if_pos hl]
  congr 1
  funext x s
  cases x <;> rfl
end PyD

namespace PyD.K42
open PySem PySem.Spec PyProof.Rows L2 PyD
abbrev body : List Stmt := PySem.Challenge.pw_joinorbar_k42_whole_widths.main.body
def top (i : Nat) : Stmt := body.getD i (.Pass ⟨0, 0, 0, 0⟩)
def ents : List Ent := [
  ⟨"is_whole", top 6, ["value"]⟩,
  ⟨"is_between", top 7, ["value", "low", "high"]⟩,
  ⟨"is_tuple_of", top 8, ["value", "many"]⟩,
  ⟨"is_place", top 13, ["many", "value"]⟩,
  ⟨"is_pair", top 14, ["many", "value", "each"]⟩,
  ⟨"are_two_parts", top 15, ["value"]⟩,
  ⟨"wrong_in_web", top 16, ["value", "many", "pairs", "index", "each"]⟩,
  ⟨"all_numbers", top 17, ["many"]⟩,
  ⟨"all_lots", top 18, ["many", "found", "number", "_", "lot"]⟩,
  ⟨"check_web", top 20, ["value", "index"]⟩,
  ⟨"check_place", top 21, ["web", "value"]⟩,
  ⟨"check_two", top 22, ["web", "one", "two"]⟩,
  ⟨"ties_out", top 24, ["pairs", "room", "tie", "pair"]⟩,
  ⟨"rooms_with", top 25, ["many", "poles", "room"]⟩,
  ⟨"width_by", top 27, ["web", "one", "two", "room"]⟩,
  ⟨"width", top 29, ["web", "one", "two"]⟩,
  ⟨"_law_pool", top 31, ["script", "lap", "cell", "own", "stirred"]⟩,
  ⟨"_law_draw", top 32, ["pool", "many", "held", "figure"]⟩,
  ⟨"_law_pick", top 33, ["pool", "some"]⟩,
  ⟨"_law_is_whole", top 34, ["told"]⟩,
  ⟨"_law_same", top 35, ["one", "other", "k"]⟩,
  ⟨"_law_web", top 36, ["pool", "most_places", "most_ties", "ties", "place", "lap", "many", "found", "one", "two", "other"]⟩,
  ⟨"_law_poles", top 37, ["pool", "web", "one", "two"]⟩,
  ⟨"_law_is_web", top 38, ["told", "tie"]⟩,
  ⟨"_law_groups", top 39, ["many", "pairs", "groups", "one", "two", "meet", "place", "group"]⟩,
  ⟨"_law_joins", top 40, ["web", "lot", "one", "two", "group", "tie"]⟩,
  ⟨"_law_lots", top 41, ["many", "found", "tie", "lot"]⟩,
  ⟨"_law_width", top 42, ["web", "one", "two", "others", "rooms", "place", "room", "a", "b"]⟩,
  ⟨"_law_right", top 43, ["pool", "lap", "bridge", "web", "many", "step", "due", "told", "lots", "one", "two", "at", "less", "lot", "place", "tie", "pair"]⟩,
  ⟨"law", top 44, ["script", "lap"]⟩]
def L : Lw := ⟨ents, [("LEAST_PLACES", .int 2), ("MOST_PLACES", .int 7), ("MOST_TIES", .int 12)], ["pool", "well"], [("_law_web", ["found"])], [("width", ["two", "one", "web"])], 1000⟩
theorem b_6 : BdOk L ⟨"is_whole", top 6, ["value"]⟩ := bd_pos ["value"] (by kernel_rfl) (by kernel_rfl) (fun _ _ _ _ _ _ us hl => match us, hl with | [_], _ => rfl)
theorem b_7 : BdOk L ⟨"is_between", top 7, ["value", "low", "high"]⟩ := bd_pos ["value", "low", "high"] (by kernel_rfl) (by kernel_rfl) (fun _ _ _ _ _ _ us hl => match us, hl with | [_, _, _], _ => rfl)
theorem b_8 : BdOk L ⟨"is_tuple_of", top 8, ["value", "many"]⟩ := bd_pos ["value", "many"] (by kernel_rfl) (by kernel_rfl) (fun _ _ _ _ _ _ us hl => match us, hl with | [_, _], _ => rfl)
theorem b_13 : BdOk L ⟨"is_place", top 13, ["many", "value"]⟩ := bd_pos ["many", "value"] (by kernel_rfl) (by kernel_rfl) (fun _ _ _ _ _ _ us hl => match us, hl with | [_, _], _ => rfl)
theorem b_14 : BdOk L ⟨"is_pair", top 14, ["many", "value", "each"]⟩ := bd_pos ["many", "value"] (by kernel_rfl) (by kernel_rfl) (fun _ _ _ _ _ _ us hl => match us, hl with | [_, _], _ => rfl)
theorem b_15 : BdOk L ⟨"are_two_parts", top 15, ["value"]⟩ := bd_pos ["value"] (by kernel_rfl) (by kernel_rfl) (fun _ _ _ _ _ _ us hl => match us, hl with | [_], _ => rfl)
theorem b_16 : BdOk L ⟨"wrong_in_web", top 16, ["value", "many", "pairs", "index", "each"]⟩ := bd_pos ["value"] (by kernel_rfl) (by kernel_rfl) (fun _ _ _ _ _ _ us hl => match us, hl with | [_], _ => rfl)
theorem b_17 : BdOk L ⟨"all_numbers", top 17, ["many"]⟩ := bd_pos ["many"] (by kernel_rfl) (by kernel_rfl) (fun _ _ _ _ _ _ us hl => match us, hl with | [_], _ => rfl)
theorem b_18 : BdOk L ⟨"all_lots", top 18, ["many", "found", "number", "_", "lot"]⟩ := bd_pos ["many"] (by kernel_rfl) (by kernel_rfl) (fun _ _ _ _ _ _ us hl => match us, hl with | [_], _ => rfl)
theorem b_20 : BdOk L ⟨"check_web", top 20, ["value", "index"]⟩ := bd_pos ["value"] (by kernel_rfl) (by kernel_rfl) (fun _ _ _ _ _ _ us hl => match us, hl with | [_], _ => rfl)
theorem b_21 : BdOk L ⟨"check_place", top 21, ["web", "value"]⟩ := bd_pos ["web", "value"] (by kernel_rfl) (by kernel_rfl) (fun _ _ _ _ _ _ us hl => match us, hl with | [_, _], _ => rfl)
theorem b_22 : BdOk L ⟨"check_two", top 22, ["web", "one", "two"]⟩ := bd_pos ["web", "one", "two"] (by kernel_rfl) (by kernel_rfl) (fun _ _ _ _ _ _ us hl => match us, hl with | [_, _, _], _ => rfl)
theorem b_24 : BdOk L ⟨"ties_out", top 24, ["pairs", "room", "tie", "pair"]⟩ := bd_pos ["pairs", "room"] (by kernel_rfl) (by kernel_rfl) (fun _ _ _ _ _ _ us hl => match us, hl with | [_, _], _ => rfl)
theorem b_25 : BdOk L ⟨"rooms_with", top 25, ["many", "poles", "room"]⟩ := bd_pos ["many", "poles"] (by kernel_rfl) (by kernel_rfl) (fun _ _ _ _ _ _ us hl => match us, hl with | [_, _], _ => rfl)
theorem b_27 : BdOk L ⟨"width_by", top 27, ["web", "one", "two", "room"]⟩ := bd_pos ["web", "one", "two"] (by kernel_rfl) (by kernel_rfl) (fun _ _ _ _ _ _ us hl => match us, hl with | [_, _, _], _ => rfl)
theorem b_29 : BdOk L ⟨"width", top 29, ["web", "one", "two"]⟩ := bd_kw ["web", "one", "two"] ["two", "one", "web"] [2, 1, 0] (by kernel_rfl) (by kernel_rfl) (by kernel_rfl) (by decide) rfl rfl (fun _ _ _ _ _ _ us hl => match us, hl with | [_, _, _], _ => rfl) (fun _ _ _ _ _ _ ws hl => match ws, hl with | [_, _, _], _ => rfl)
theorem b_31 : BdOk L ⟨"_law_pool", top 31, ["script", "lap", "cell", "own", "stirred"]⟩ := bd_pos ["script", "lap"] (by kernel_rfl) (by kernel_rfl) (fun _ _ _ _ _ _ us hl => match us, hl with | [_, _], _ => rfl)
theorem b_32 : BdOk L ⟨"_law_draw", top 32, ["pool", "many", "held", "figure"]⟩ := bd_pos ["pool", "many"] (by kernel_rfl) (by kernel_rfl) (fun _ _ _ _ _ _ us hl => match us, hl with | [_, _], _ => rfl)
theorem b_33 : BdOk L ⟨"_law_pick", top 33, ["pool", "some"]⟩ := bd_pos ["pool", "some"] (by kernel_rfl) (by kernel_rfl) (fun _ _ _ _ _ _ us hl => match us, hl with | [_, _], _ => rfl)
theorem b_34 : BdOk L ⟨"_law_is_whole", top 34, ["told"]⟩ := bd_pos ["told"] (by kernel_rfl) (by kernel_rfl) (fun _ _ _ _ _ _ us hl => match us, hl with | [_], _ => rfl)
theorem b_35 : BdOk L ⟨"_law_same", top 35, ["one", "other", "k"]⟩ := bd_pos ["one", "other"] (by kernel_rfl) (by kernel_rfl) (fun _ _ _ _ _ _ us hl => match us, hl with | [_, _], _ => rfl)
theorem b_36 : BdOk L ⟨"_law_web", top 36, ["pool", "most_places", "most_ties", "ties", "place", "lap", "many", "found", "one", "two", "other"]⟩ := bd_pos ["pool", "most_places", "most_ties"] (by kernel_rfl) (by kernel_rfl) (fun _ _ _ _ _ _ us hl => match us, hl with | [_, _, _], _ => rfl)
theorem b_37 : BdOk L ⟨"_law_poles", top 37, ["pool", "web", "one", "two"]⟩ := bd_pos ["pool", "web"] (by kernel_rfl) (by kernel_rfl) (fun _ _ _ _ _ _ us hl => match us, hl with | [_, _], _ => rfl)
theorem b_38 : BdOk L ⟨"_law_is_web", top 38, ["told", "tie"]⟩ := bd_pos ["told"] (by kernel_rfl) (by kernel_rfl) (fun _ _ _ _ _ _ us hl => match us, hl with | [_], _ => rfl)
theorem b_39 : BdOk L ⟨"_law_groups", top 39, ["many", "pairs", "groups", "one", "two", "meet", "place", "group"]⟩ := bd_pos ["many", "pairs"] (by kernel_rfl) (by kernel_rfl) (fun _ _ _ _ _ _ us hl => match us, hl with | [_, _], _ => rfl)
theorem b_40 : BdOk L ⟨"_law_joins", top 40, ["web", "lot", "one", "two", "group", "tie"]⟩ := bd_pos ["web", "lot", "one", "two"] (by kernel_rfl) (by kernel_rfl) (fun _ _ _ _ _ _ us hl => match us, hl with | [_, _, _, _], _ => rfl)
theorem b_41 : BdOk L ⟨"_law_lots", top 41, ["many", "found", "tie", "lot"]⟩ := bd_pos ["many"] (by kernel_rfl) (by kernel_rfl) (fun _ _ _ _ _ _ us hl => match us, hl with | [_], _ => rfl)
theorem b_42 : BdOk L ⟨"_law_width", top 42, ["web", "one", "two", "others", "rooms", "place", "room", "a", "b"]⟩ := bd_pos ["web", "one", "two"] (by kernel_rfl) (by kernel_rfl) (fun _ _ _ _ _ _ us hl => match us, hl with | [_, _, _], _ => rfl)
theorem b_43 : BdOk L ⟨"_law_right", top 43, ["pool", "lap", "bridge", "web", "many", "step", "due", "told", "lots", "one", "two", "at", "less", "lot", "place", "tie", "pair"]⟩ := bd_pos ["pool"] (by kernel_rfl) (by kernel_rfl) (fun _ _ _ _ _ _ us hl => match us, hl with | [_], _ => rfl)
theorem b_44 : BdOk L ⟨"law", top 44, ["script", "lap"]⟩ := bd_pos ["script"] (by kernel_rfl) (by kernel_rfl) (fun _ _ _ _ _ _ us hl => match us, hl with | [_], _ => rfl)
theorem bd : ∀ e ∈ L.ents, BdOk L e := by
  intro e m
  rcases List.mem_cons.mp m with h | m
  · subst h; exact b_6
  rcases List.mem_cons.mp m with h | m
  · subst h; exact b_7
  rcases List.mem_cons.mp m with h | m
  · subst h; exact b_8
  rcases List.mem_cons.mp m with h | m
  · subst h; exact b_13
  rcases List.mem_cons.mp m with h | m
  · subst h; exact b_14
  rcases List.mem_cons.mp m with h | m
  · subst h; exact b_15
  rcases List.mem_cons.mp m with h | m
  · subst h; exact b_16
  rcases List.mem_cons.mp m with h | m
  · subst h; exact b_17
  rcases List.mem_cons.mp m with h | m
  · subst h; exact b_18
  rcases List.mem_cons.mp m with h | m
  · subst h; exact b_20
  rcases List.mem_cons.mp m with h | m
  · subst h; exact b_21
  rcases List.mem_cons.mp m with h | m
  · subst h; exact b_22
  rcases List.mem_cons.mp m with h | m
  · subst h; exact b_24
  rcases List.mem_cons.mp m with h | m
  · subst h; exact b_25
  rcases List.mem_cons.mp m with h | m
  · subst h; exact b_27
  rcases List.mem_cons.mp m with h | m
  · subst h; exact b_29
  rcases List.mem_cons.mp m with h | m
  · subst h; exact b_31
  rcases List.mem_cons.mp m with h | m
  · subst h; exact b_32
  rcases List.mem_cons.mp m with h | m
  · subst h; exact b_33
  rcases List.mem_cons.mp m with h | m
  · subst h; exact b_34
  rcases List.mem_cons.mp m with h | m
  · subst h; exact b_35
  rcases List.mem_cons.mp m with h | m
  · subst h; exact b_36
  rcases List.mem_cons.mp m with h | m
  · subst h; exact b_37
  rcases List.mem_cons.mp m with h | m
  · subst h; exact b_38
  rcases List.mem_cons.mp m with h | m
  · subst h; exact b_39
  rcases List.mem_cons.mp m with h | m
  · subst h; exact b_40
  rcases List.mem_cons.mp m with h | m
  · subst h; exact b_41
  rcases List.mem_cons.mp m with h | m
  · subst h; exact b_42
  rcases List.mem_cons.mp m with h | m
  · subst h; exact b_43
  rcases List.mem_cons.mp m with h | m
  · subst h; exact b_44
  cases m
theorem sc : L.ents.all scB = true := by kernel_rfl
theorem gi : (L.gl.all fun q => (intOf q.2).isSome) = true := by kernel_rfl
abbrev R : PySem.W.OpenRow := PySem.W.OpenLaw.row PySem.Challenge.rw_joinorbar_k42_whole_widths
abbrev hk : PySem.W.Hook := He.hookD 4 L.fa L.fn
def ob (s : PySem.W.SharedT) : He.AlD := He.obsDG 4 L.fa L.fn (HandSHeadRun.getT s)
theorem ob_eq (s : PySem.W.SharedT) : ob s = hk.obs s.abs := He.obsDG_eq (HandSHeadRun.getT_eq s)
def loose : List Str := (["WebError", "InvalidPlace", "NotNow", "InvalidWeb", "is_whole", "is_between", "is_tuple_of", "LEAST_PLACES", "MOST_PLACES", "MOST_TIES", "is_place", "is_pair", "are_two_parts", "wrong_in_web", "all_numbers", "all_lots", "check_web", "check_place", "check_two", "ties_out", "rooms_with", "width_by", "width", "_law_pool", "_law_draw", "_law_pick", "_law_is_whole", "_law_same", "_law_web", "_law_poles", "_law_is_web", "_law_groups", "_law_joins", "_law_lots", "_law_width", "_law_right"] : List String).map Str.ofString
theorem run (w : World) : HandSHeadRun.RunEq R (PySem.W.view R.prog [44]) hk ob 4000 loose w := by
  intro os
  kernel_rfl
end PyD.K42

namespace PyD.K42
open PySem PyD
abbrev T : Tab := L.tab
def d_is_whole : Def := ⟨1, 1, false, [
    .ret none (.and (.isi .int (.pk 0)) (.not (.isi .bool (.pk 0))))]⟩
theorem fn_is_whole : T.fn "is_whole" = some d_is_whole := by kernel_rfl
def d_is_between : Def := ⟨3, 3, false, [
    .ret none (.and (.call "is_whole" [(.var 0)] []) (.cmp2 .le .le (.pk 1) (.pk 0) (.pk 2)))]⟩
theorem fn_is_between : T.fn "is_between" = some d_is_between := by kernel_rfl
def d_is_tuple_of : Def := ⟨2, 2, false, [
    .ret none (.and (.isi .tuple (.pk 0)) (.cmp .eq (.bi .len [(.pk 0)]) (.pk 1)))]⟩
theorem fn_is_tuple_of : T.fn "is_tuple_of" = some d_is_tuple_of := by kernel_rfl
def d_is_place : Def := ⟨2, 2, false, [
    .ret none (.call "is_between" [(.var 1), (.cst (.int 0)), (.bin .sub (.pk 0) (.cst (.int 1)))] [])]⟩
theorem fn_is_place : T.fn "is_place" = some d_is_place := by kernel_rfl
def d_is_pair : Def := ⟨2, 3, false, [
    .ite (.or (.not (.call "is_tuple_of" [(.var 1), (.cst (.int 2))] [])) (.not (.bi .all [(.comp (.call "is_place" [(.var 0), (.var 2)] []) (.nm 2) (.seq (.pk 1)) [])]))) [.ret none (.cst (.bl false))] [],
    .ret none (.cmp .lt (.idx (.pk 1) (.cst (.int 0))) (.idx (.pk 1) (.cst (.int 1))))]⟩
theorem fn_is_pair : T.fn "is_pair" = some d_is_pair := by kernel_rfl
def d_are_two_parts : Def := ⟨1, 1, false, [
    .ite (.or (.not (.call "is_tuple_of" [(.var 0), (.cst (.int 2))] [])) (.not (.call "is_between" [(.idx (.pk 0) (.cst (.int 0))), (.glb "LEAST_PLACES"), (.glb "MOST_PLACES")] []))) [.ret none (.cst (.bl false))] [],
    .ret none (.and (.isi .tuple (.idx (.pk 0) (.cst (.int 1)))) (.cmp2 .le .le (.cst (.int 1)) (.bi .len [(.idx (.pk 0) (.cst (.int 1)))]) (.glb "MOST_TIES")))]⟩
theorem fn_are_two_parts : T.fn "are_two_parts" = some d_are_two_parts := by kernel_rfl
def d_wrong_in_web : Def := ⟨1, 5, true, [
    .ite (.not (.call "are_two_parts" [(.var 0)] [])) [.ret none (.lst [(false, (.cst (.non)))])] [],
    .asg (.tup [(.nm 1), (.nm 2)]) (.var 0),
    .fr (.tup [(.nm 3), (.nm 4)]) (.enm (.var 2)) [.ite (.or (.not (.call "is_pair" [(.var 1), (.var 4)] [])) (.and (.cmp .gt (.pk 3) (.cst (.int 0))) (.cmp .lt (.pk 4) (.idx (.pk 2) (.bin .sub (.pk 3) (.cst (.int 1))))))) [.ret none (.lst [(false, (.var 3))])] []],
    .ret none (.lst [])]⟩
theorem fn_wrong_in_web : T.fn "wrong_in_web" = some d_wrong_in_web := by kernel_rfl
def d_all_numbers : Def := ⟨1, 1, false, [
    .ret none (.lrng [(.var 0)])]⟩
theorem fn_all_numbers : T.fn "all_numbers" = some d_all_numbers := by kernel_rfl
def d_all_lots : Def := ⟨1, 5, false, [
    .asg (.nm 1) (.lst [(false, (.tup []))]),
    .fr (.nm 2) (.seq (.call "all_numbers" [(.var 0)] [])) [.asg (.nm 1) (.bin .add (.pk 1) (.comp (.tup [(true, (.var 4)), (false, (.var 2))]) (.nm 4) (.seq (.pk 1)) []))],
    .ret none (.comp (.var 4) (.tup [(.nm 3), (.nm 4)]) (.seq (.bi .sorted [(.comp (.tup [(false, (.bi .len [(.pk 4)])), (false, (.var 4))]) (.nm 4) (.seq (.pk 1)) [])])) [])]⟩
theorem fn_all_lots : T.fn "all_lots" = some d_all_lots := by kernel_rfl
def d_check_web : Def := ⟨1, 2, false, [
    .fr (.nm 1) (.seq (.call "wrong_in_web" [(.var 0)] [])) [.stuck]]⟩
theorem fn_check_web : T.fn "check_web" = some d_check_web := by kernel_rfl
def d_check_place : Def := ⟨2, 2, false, [
    .ite (.not (.call "is_place" [(.idx (.pk 0) (.cst (.int 0))), (.var 1)] [])) [.stuck] []]⟩
theorem fn_check_place : T.fn "check_place" = some d_check_place := by kernel_rfl
def d_check_two : Def := ⟨3, 3, false, [
    .exp (.call "check_place" [(.var 0), (.var 1)] []),
    .exp (.call "check_place" [(.var 0), (.var 2)] []),
    .ite (.cmp .eq (.pk 1) (.pk 2)) [.stuck] []]⟩
theorem fn_check_two : T.fn "check_two" = some d_check_two := by kernel_rfl
def d_ties_out : Def := ⟨2, 4, false, [
    .ret none (.bi .tuple [(.comp (.var 2) (.tup [(.nm 2), (.nm 3)]) (.enm (.var 0)) [(.cmp .ne (.cmp .in_ (.idx (.pk 3) (.cst (.int 0))) (.pk 1)) (.cmp .in_ (.idx (.pk 3) (.cst (.int 1))) (.pk 1)))])])]⟩
theorem fn_ties_out : T.fn "ties_out" = some d_ties_out := by kernel_rfl
def d_rooms_with : Def := ⟨2, 3, false, [
    .ret none (.comp (.var 2) (.nm 2) (.seq (.call "all_lots" [(.var 0)] [])) [(.and (.cmp .in_ (.idx (.pk 1) (.cst (.int 0))) (.pk 2)) (.cmp .nin (.idx (.pk 1) (.cst (.int 1))) (.pk 2)))])]⟩
theorem fn_rooms_with : T.fn "rooms_with" = some d_rooms_with := by kernel_rfl
def d_width_by : Def := ⟨3, 4, false, [
    .ret none (.bi .min [(.comp (.bi .len [(.call "ties_out" [(.idx (.pk 0) (.cst (.int 1))), (.var 3)] [])]) (.nm 3) (.seq (.call "rooms_with" [(.idx (.pk 0) (.cst (.int 0))), (.tup [(false, (.var 1)), (false, (.var 2))])] [])) [])])]⟩
theorem fn_width_by : T.fn "width_by" = some d_width_by := by kernel_rfl
def d_width : Def := ⟨3, 3, false, [
    .exp (.call "check_web" [(.var 0)] []),
    .exp (.call "check_two" [(.var 0), (.var 1), (.var 2)] []),
    .ret none (.call "width_by" [(.var 0), (.var 1), (.var 2)] [])]⟩
theorem fn_width : T.fn "width" = some d_width := by kernel_rfl
def d__law_pool : Def := ⟨2, 5, true, [
    .par [(false, 3), (false, 4)] [(false, (.ite (.cmp .lt (.pk 1) (.bi .len [(.pk 0)])) (.bi .int [(.idx (.pk 0) (.pk 1))]) (.bin .add (.bin .mul (.cst (.int 70001)) (.pk 1)) (.cst (.int 27078))))), (false, (.bin .add (.cst (.int 3097186)) (.bin .mul (.cst (.int 5087)) (.pk 1))))],
    .fr (.nm 2) (.seq (.slc (.pk 0) (.cst (.non)) (.cst (.int 63)))) [.asg (.nm 4) (.bin .mod (.bi .int [(.bin .add (.bin .add (.bin .mul (.pk 4) (.cst (.int 48271))) (.bin .mod (.bi .int [(.pk 2)]) (.cst (.int 2147483579)))) (.cst (.int 6952)))]) (.cst (.int 2147483579)))],
    .ret none (.lst [(false, (.bin .mod (.bi .int [(.bin .add (.pk 4) (.bin .mul (.pk 3) (.cst (.int 1013))))]) (.cst (.int 2147483579)))), (false, (.ite (.or (.cmp .lt (.pk 3) (.cst (.int 0))) (.cmp .ge (.pk 3) (.bin .pow (.cst (.int 10)) (.cst (.int 18))))) (.bi .abs [(.pk 3)]) (.cst (.int 0)))), (false, (.cst (.int 0)))])]⟩
theorem fn__law_pool : T.fn "_law_pool" = some d__law_pool := by kernel_rfl
def d__law_draw : Def := ⟨2, 4, false, [
    .ite (.cmp .gt (.idx (.pk 0) (.cst (.int 1))) (.cst (.int 0))) [.stoT 0 (.cst (.int 1)) (.nm 3) (.bi .divmod [(.idx (.pk 0) (.cst (.int 1))), (.pk 1)]), .ret none (.var 3)] [],
    .sto 0 (.cst (.int 2)) (.bin .add (.idx (.pk 0) (.cst (.int 2))) (.cst (.int 1))),
    .asg (.nm 2) (.bi .int [(.idx (.pk 0) (.cst (.int 0)))]),
    .sto 0 (.cst (.int 0)) (.bin .mod (.bi .int [(.bin .add (.bin .add (.bin .mul (.pk 2) (.bin .add (.bin .mod (.pk 2) (.cst (.int 20011))) (.cst (.int 30011)))) (.bin .mul (.cst (.int 70001)) (.idx (.pk 0) (.cst (.int 2))))) (.cst (.int 9)))]) (.cst (.int 2147483579))),
    .ret none (.bin .mod (.bi .int [(.bin .fdv (.idx (.pk 0) (.cst (.int 0))) (.cst (.int 128)))]) (.pk 1))]⟩
theorem fn__law_draw : T.fn "_law_draw" = some d__law_draw := by kernel_rfl
def d__law_pick : Def := ⟨2, 2, false, [
    .ret none (.idx (.pk 1) (.call "_law_draw" [(.var 0), (.bi .len [(.pk 1)])] []))]⟩
theorem fn__law_pick : T.fn "_law_pick" = some d__law_pick := by kernel_rfl
def d__law_is_whole : Def := ⟨1, 1, false, [
    .ret none (.and (.isi .int (.pk 0)) (.not (.isi .bool (.pk 0))))]⟩
theorem fn__law_is_whole : T.fn "_law_is_whole" = some d__law_is_whole := by kernel_rfl
def d__law_same : Def := ⟨2, 3, false, [
    .ite (.isi .tuple (.pk 0)) [.ret none (.and (.isi .tuple (.pk 1)) (.and (.cmp .eq (.bi .len [(.pk 0)]) (.bi .len [(.pk 1)])) (.cmp .eq (.comp (.var 2) (.nm 2) (.rng [(.bi .len [(.pk 0)])]) [(.not (.call "_law_same" [(.idx (.pk 0) (.pk 2)), (.idx (.pk 1) (.pk 2))] []))]) (.lst []))))] [],
    .ite (.or (.isi .bool (.pk 0)) (.isi .bool (.pk 1))) [.ret none (.and (.isi .bool (.pk 0)) (.and (.isi .bool (.pk 1)) (.cmp .eq (.pk 0) (.pk 1))))] [],
    .ret none (.and (.cmp .eq (.isi .int (.pk 0)) (.isi .int (.pk 1))) (.and (.cmp .eq (.isi .str (.pk 0)) (.isi .str (.pk 1))) (.cmp .eq (.pk 0) (.pk 1))))]⟩
theorem fn__law_same : T.fn "_law_same" = some d__law_same := by kernel_rfl
def d__law_web : Def := ⟨3, 11, false, [
    .par [(false, 6), (false, 7)] [(false, (.bin .add (.cst (.int 2)) (.call "_law_draw" [(.var 0), (.bin .sub (.pk 1) (.cst (.int 1)))] []))), (false, (.box (.lst [])))],
    .asg (.nm 3) (.bin .add (.cst (.int 1)) (.call "_law_draw" [(.var 0), (.var 2)] [])),
    .fr (.nm 4) (.rng [(.cst (.int 1)), (.var 6)]) [.ite (.and (.cmp .lt (.bi .len [(.pk 7)]) (.pk 3)) (.cmp .gt (.call "_law_draw" [(.var 0), (.cst (.int 8))] []) (.cst (.int 0)))) [.asg (.nm 10) (.call "_law_draw" [(.var 0), (.var 4)] []), .mut .append 7 (.tup [(false, (.var 10)), (false, (.var 4))])] []],
    .fr (.nm 5) (.rng [(.bin .sub (.pk 3) (.bi .len [(.pk 7)]))]) [.asg (.nm 8) (.call "_law_draw" [(.var 0), (.var 6)] []), .asg (.nm 9) (.bin .mod (.bi .int [(.bin .add (.bin .add (.pk 8) (.cst (.int 1))) (.call "_law_draw" [(.var 0), (.bin .sub (.pk 6) (.cst (.int 1)))] []))]) (.pk 6)), .mut .append 7 (.ite (.or (.cmp .eq (.pk 7) (.lst [])) (.cmp .gt (.call "_law_draw" [(.var 0), (.cst (.int 4))] []) (.cst (.int 0)))) (.tup [(false, (.bi .min [(.pk 8), (.pk 9)])), (false, (.bi .max [(.pk 8), (.pk 9)]))]) (.call "_law_pick" [(.var 0), (.var 7)] []))],
    .ret none (.tup [(false, (.var 6)), (false, (.bi .tuple [(.bi .sorted [(.pk 7)])]))])]⟩
theorem fn__law_web : T.fn "_law_web" = some d__law_web := by kernel_rfl
def d__law_poles : Def := ⟨2, 4, false, [
    .asg (.nm 2) (.call "_law_draw" [(.var 0), (.idx (.pk 1) (.cst (.int 0)))] []),
    .asg (.nm 3) (.bin .mod (.bi .int [(.bin .add (.bin .add (.pk 2) (.cst (.int 1))) (.call "_law_draw" [(.var 0), (.bin .sub (.idx (.pk 1) (.cst (.int 0))) (.cst (.int 1)))] []))]) (.idx (.pk 1) (.cst (.int 0)))),
    .ret none (.tup [(false, (.bi .min [(.pk 2), (.pk 3)])), (false, (.bi .max [(.pk 2), (.pk 3)]))])]⟩
theorem fn__law_poles : T.fn "_law_poles" = some d__law_poles := by kernel_rfl
def d__law_is_web : Def := ⟨1, 2, false, [
    .ite (.or (.not (.isi .tuple (.pk 0))) (.or (.cmp .ne (.bi .len [(.pk 0)]) (.cst (.int 2))) (.or (.not (.call "_law_is_whole" [(.idx (.pk 0) (.cst (.int 0)))] [])) (.or (.not (.cmp2 .lt .lt (.cst (.int 1)) (.idx (.pk 0) (.cst (.int 0))) (.cst (.int 8)))) (.or (.not (.isi .tuple (.idx (.pk 0) (.cst (.int 1))))) (.not (.cmp2 .lt .lt (.cst (.int 0)) (.bi .len [(.idx (.pk 0) (.cst (.int 1)))]) (.cst (.int 13))))))))) [.ret none (.cst (.bl false))] [],
    .fr (.nm 1) (.seq (.idx (.pk 0) (.cst (.int 1)))) [.ite (.or (.not (.isi .tuple (.pk 1))) (.or (.cmp .ne (.bi .len [(.pk 1)]) (.cst (.int 2))) (.or (.not (.call "_law_is_whole" [(.idx (.pk 1) (.cst (.int 0)))] [])) (.or (.not (.call "_law_is_whole" [(.idx (.pk 1) (.cst (.int 1)))] [])) (.not (.cmp3 .lt .lt .lt (.neg (.cst (.int 1))) (.idx (.pk 1) (.cst (.int 0))) (.idx (.pk 1) (.cst (.int 1))) (.idx (.pk 0) (.cst (.int 0))))))))) [.ret none (.cst (.bl false))] []],
    .ret none (.cmp .eq (.bi .list [(.idx (.pk 0) (.cst (.int 1)))]) (.bi .sorted [(.idx (.pk 0) (.cst (.int 1)))]))]⟩
theorem fn__law_is_web : T.fn "_law_is_web" = some d__law_is_web := by kernel_rfl
def d__law_groups : Def := ⟨2, 8, false, [
    .asg (.nm 2) (.comp (.lst [(false, (.var 6))]) (.nm 6) (.rng [(.var 0)]) []),
    .fr (.tup [(.nm 3), (.nm 4)]) (.seq (.var 1)) [.asg (.nm 5) (.comp (.var 7) (.nm 7) (.seq (.pk 2)) [(.or (.cmp .in_ (.pk 3) (.pk 7)) (.cmp .in_ (.pk 4) (.pk 7)))]), .asg (.nm 2) (.bin .add (.comp (.var 7) (.nm 7) (.seq (.pk 2)) [(.and (.cmp .nin (.pk 3) (.pk 7)) (.cmp .nin (.pk 4) (.pk 7)))]) (.lst [(false, (.bi .sum [(.pk 5), (.lst [])]))]))],
    .ret none (.var 2)]⟩
theorem fn__law_groups : T.fn "_law_groups" = some d__law_groups := by kernel_rfl
def d__law_joins : Def := ⟨4, 6, false, [
    .ret none (.cmp .ne (.comp (.var 4) (.nm 4) (.seq (.call "_law_groups" [(.idx (.pk 0) (.cst (.int 0))), (.comp (.idx (.idx (.pk 0) (.cst (.int 1))) (.pk 5)) (.nm 5) (.seq (.pk 1)) [])] [])) [(.and (.cmp .in_ (.pk 2) (.pk 4)) (.cmp .in_ (.pk 3) (.pk 4)))]) (.lst []))]⟩
theorem fn__law_joins : T.fn "_law_joins" = some d__law_joins := by kernel_rfl
def d__law_lots : Def := ⟨1, 4, false, [
    .asg (.nm 1) (.lst [(false, (.tup []))]),
    .fr (.nm 2) (.rng [(.var 0)]) [.asg (.nm 1) (.bin .add (.pk 1) (.comp (.bin .add (.pk 3) (.tup [(false, (.var 2))])) (.nm 3) (.seq (.pk 1)) []))],
    .ret none (.var 1)]⟩
theorem fn__law_lots : T.fn "_law_lots" = some d__law_lots := by kernel_rfl
def d__law_width : Def := ⟨3, 9, false, [
    .asg (.nm 3) (.comp (.var 5) (.nm 5) (.rng [(.idx (.pk 0) (.cst (.int 0)))]) [(.cmp .nin (.pk 5) (.tup [(false, (.var 1)), (false, (.var 2))]))]),
    .asg (.nm 4) (.lst [(false, (.lst [(false, (.var 1))]))]),
    .fr (.nm 5) (.seq (.var 3)) [.asg (.nm 4) (.bin .add (.pk 4) (.comp (.bin .add (.pk 6) (.lst [(false, (.var 5))])) (.nm 6) (.seq (.pk 4)) []))],
    .ret none (.bi .min [(.comp (.bi .len [(.comp (.cst (.int 1)) (.tup [(.nm 7), (.nm 8)]) (.seq (.idx (.pk 0) (.cst (.int 1)))) [(.cmp .ne (.cmp .in_ (.pk 7) (.pk 6)) (.cmp .in_ (.pk 8) (.pk 6)))])]) (.nm 6) (.seq (.pk 4)) [])])]⟩
theorem fn__law_width : T.fn "_law_width" = some d__law_width := by kernel_rfl
def d__law_right : Def := ⟨1, 17, false, [
    .fr (.nm 1) (.rng [(.cst (.int 8))]) [.asg (.nm 3) (.call "_law_web" [(.var 0), (.cst (.int 6)), (.ite (.cmp .lt (.pk 1) (.cst (.int 5))) (.cst (.int 8)) (.cst (.int 6)))] []), .ite (.not (.call "_law_is_web" [(.var 3)] [])) [.ret none (.cst (.bl false))] [], .asg (.nm 4) (.bi .len [(.idx (.pk 3) (.cst (.int 1)))]), .fr (.nm 5) (.rng [(.cst (.int 5))]) [.asg (.tup [(.nm 9), (.nm 10)]) (.call "_law_poles" [(.var 0), (.var 3)] []), .asg (.nm 6) (.call "_law_width" [(.var 3), (.var 9), (.var 10)] []), .asg (.nm 7) (.ite (.cmp .eq (.call "_law_draw" [(.var 0), (.cst (.int 3))] []) (.cst (.int 0))) (.call "width" [(.var 10), (.var 9), (.var 3)] [2, 1, 0]) (.call "width" [(.var 3), (.var 9), (.var 10)] [])), .ite (.or (.not (.call "_law_same" [(.lst [(false, (.var 7)), (false, (.call "width" [(.var 3), (.var 10), (.var 9)] []))]), (.lst [(false, (.var 6)), (false, (.var 6))])] [])) (.cmp .gt (.pk 6) (.bi .min [(.comp (.bi .len [(.comp (.cst (.int 1)) (.nm 16) (.seq (.idx (.pk 3) (.cst (.int 1)))) [(.cmp .in_ (.pk 14) (.pk 16))])]) (.nm 14) (.seq (.tup [(false, (.var 9)), (false, (.var 10))])) [])]))) [.ret none (.cst (.bl false))] [], .ite (.cmp .gt (.pk 4) (.cst (.int 1))) [.asg (.nm 11) (.call "_law_draw" [(.var 0), (.var 4)] []), .asg (.nm 12) (.call "width" [(.tup [(false, (.idx (.pk 3) (.cst (.int 0)))), (false, (.bin .add (.slc (.idx (.pk 3) (.cst (.int 1))) (.cst (.non)) (.pk 11)) (.slc (.idx (.pk 3) (.cst (.int 1))) (.bin .add (.pk 11) (.cst (.int 1))) (.cst (.non)))))]), (.var 9), (.var 10)] []), .ite (.not (.cmp2 .le .le (.bin .sub (.pk 6) (.cst (.int 1))) (.pk 12) (.pk 6))) [.ret none (.cst (.bl false))] []] []], .ite (.cmp .gt (.pk 1) (.cst (.int 4))) [.asg (.tup [(.nm 9), (.nm 10)]) (.call "_law_poles" [(.var 0), (.var 3)] []), .asg (.nm 8) (.comp (.var 13) (.nm 13) (.seq (.call "_law_lots" [(.var 4)] [])) [(.not (.call "_law_joins" [(.var 3), (.comp (.var 15) (.nm 15) (.rng [(.var 4)]) [(.cmp .nin (.pk 15) (.pk 13))]), (.var 9), (.var 10)] []))]), .ite (.cmp .ne (.call "width" [(.var 3), (.var 9), (.var 10)] []) (.bi .min [(.comp (.bi .len [(.pk 13)]) (.nm 13) (.seq (.pk 8)) [])])) [.ret none (.cst (.bl false))] []] []],
    .asg (.nm 2) (.tup [(false, (.cst (.int 4))), (false, (.tup [(false, (.tup [(false, (.cst (.int 0))), (false, (.cst (.int 1)))])), (false, (.tup [(false, (.cst (.int 0))), (false, (.cst (.int 2)))])), (false, (.tup [(false, (.cst (.int 1))), (false, (.cst (.int 2)))])), (false, (.tup [(false, (.cst (.int 1))), (false, (.cst (.int 3)))])), (false, (.tup [(false, (.cst (.int 2))), (false, (.cst (.int 3)))]))]))]),
    .ret none (.call "_law_same" [(.lst [(false, (.call "width" [(.var 2), (.cst (.int 0)), (.cst (.int 3))] [])), (false, (.call "width" [(.var 2), (.cst (.int 1)), (.cst (.int 2))] [])), (false, (.call "width" [(.tup [(false, (.cst (.int 3))), (false, (.tup [(false, (.tup [(false, (.cst (.int 0))), (false, (.cst (.int 1)))]))]))]), (.cst (.int 0)), (.cst (.int 2))] [])), (false, (.call "width" [(.tup [(false, (.cst (.int 2))), (false, (.bin .mul (.tup [(false, (.tup [(false, (.cst (.int 0))), (false, (.cst (.int 1)))]))]) (.cst (.int 12))))]), (.cst (.int 1)), (.cst (.int 0))] []))]), (.lst [(false, (.cst (.int 2))), (false, (.cst (.int 3))), (false, (.cst (.int 0))), (false, (.cst (.int 12)))])] [])]⟩
theorem fn__law_right : T.fn "_law_right" = some d__law_right := by kernel_rfl
def d_law : Def := ⟨1, 2, false, [
    .fr (.nm 1) (.rng [(.bi .max [(.cst (.int 2)), (.bi .min [(.bi .len [(.pk 0)]), (.cst (.int 3))])])]) [.ite (.not (.call "_law_right" [(.box (.call "_law_pool" [(.var 0), (.var 1)] []))] [])) [.ret none (.cst (.bl false))] []],
    .ret none (.cst (.bl true))]⟩
theorem fn_law : T.fn "law" = some d_law := by kernel_rfl
end PyD.K42

namespace PyD.K42
open PySem PyD
theorem is_whole_s {n : Nat} (h : 1 ≤ n) (x : Int) (s : Stt) : callF T n "is_whole" [.int x] s = some (.ok (.bl true), s) := by
  rw [callF_run T (m := n - 1) (by omega) fn_is_whole _ _ rfl]
  simp only [d_is_whole, start, List.length_cons, List.length_nil, exSs_nil, exSs_cons, exS_asg, exS_asgO, exS_par, exS_exp, exS_frz, exS_retv, exS_reto, exS_ite, exS_pass, goOn_nx, goOn_rt, fin_nx, fin_rt, frzF_own, frzF_val, getOwn_own, ev_var, ev_pk, ev_cst, ev_glb, ev_bin, ev_not, ev_neg, negF_int, ev_cmp, ev_cmp2, ev_cmp3, ev_and, ev_or, ev_ite, ev_tup, ev_lst, ev_idx, ev_slc, ev_call0, ev_callk, ev_lrng, ev_bi, ev_isi, evs_nil, evs_cons, evD_nil, evD_f, evD_t, evT_nil, evT_cons, evI_seq, evI_rng, evI_enm, elimS, condT, condF, condB, okb, Res.none_bind, Res.bind_assoc, liftS, slot, put, getAny, getVal, List.map_cons, List.map_nil, List.replicate, List.cons_append, List.nil_append, List.append_nil, dr_cell, dr_dP, dr_dI, dr_dL, dr_dW, dr_int, dr_bl, dr_tup, dr_lst, dr_non, dr_str, drs, idxF_lst0, idxF_lst1, idxF_lst2, idxF_tup0, idxF_tup1, idxF_tup2, cmpF_gt, cmpF_le, cmpF_lt, cmpF_ge, cmpF_eq, cmpF_ne, cmpF_in, cmpF_nin, cmpF_eqb, cmpF_neb, inF_dL, inF_lst, inF_tup, truth_bl, truth_int, bindT_nm, bindT_tt, bindT_tl, bindTs_nil, bindTs_nm, seqF_tup, seqF_lst, Option.map_some, Option.map_none, if_true, if_false, Bool.false_eq_true, Nat.reduceAdd, Nat.reduceSub, Nat.reduceEqDiff, Nat.zero_add, binF_add, binF_sub, isi_bool_non, isi_bool_bl, isi_bool_int, isi_bool_str, isi_bool_tup, isi_bool_lst, isi_int_non, isi_int_bl, isi_int_int, isi_int_str, isi_int_tup, isi_int_lst, isi_str_non, isi_str_bl, isi_str_int, isi_str_str, isi_str_tup, isi_str_lst, isi_tuple_non, isi_tuple_bl, isi_tuple_int, isi_tuple_str, isi_tuple_tup, isi_tuple_lst, isi_list_non, isi_list_bl, isi_list_int, isi_list_str, isi_list_tup, isi_list_lst, isi_dict_non, isi_dict_bl, isi_dict_int, isi_dict_str, isi_dict_tup, isi_dict_lst, bnot_bl, Bool.not_true, Bool.not_false, biF_len, biF_list, biF_tuple, biF_sorted, biF_sortedt, biF_all, biF_any, biF_sum, biF_min, biF_max, biF_min2, biF_max2, biF_int, biF_abs, lenF_tup, lenF_lst, szOk0, szOk1, szOk2, szOk3, szOk4, szOk5, szOk6, number_map, Int.cast_ofNat_Int, Int.reduceBEq, Int.reduceBNe, Int.reduceLT, Int.reduceLE, Int.reduceSub, Int.reduceAdd, Int.reduceNeg, decide_true, decide_false, beq_self_eq_true, Int.natCast_zero, Int.natCast_one]
theorem is_between_s {n : Nat} (h : 2 ≤ n) {x a b : Int} (ha : a ≤ x) (hb : x ≤ b) (s : Stt) : callF T n "is_between" [.int x, .int a, .int b] s = some (.ok (.bl true), s) := by
  rw [callF_run T (m := n - 1) (by omega) fn_is_between _ _ rfl]
  have c1 := fun x s => is_whole_s (n := n - 1) (by omega) x s
  simp only [d_is_between, start, List.length_cons, List.length_nil, exSs_nil, exSs_cons, exS_asg, exS_asgO, exS_par, exS_exp, exS_frz, exS_retv, exS_reto, exS_ite, exS_pass, goOn_nx, goOn_rt, fin_nx, fin_rt, frzF_own, frzF_val, getOwn_own, ev_var, ev_pk, ev_cst, ev_glb, ev_bin, ev_not, ev_neg, negF_int, ev_cmp, ev_cmp2, ev_cmp3, ev_and, ev_or, ev_ite, ev_tup, ev_lst, ev_idx, ev_slc, ev_call0, ev_callk, ev_lrng, ev_bi, ev_isi, evs_nil, evs_cons, evD_nil, evD_f, evD_t, evT_nil, evT_cons, evI_seq, evI_rng, evI_enm, elimS, condT, condF, condB, okb, Res.none_bind, Res.bind_assoc, liftS, slot, put, getAny, getVal, List.map_cons, List.map_nil, List.replicate, List.cons_append, List.nil_append, List.append_nil, dr_cell, dr_dP, dr_dI, dr_dL, dr_dW, dr_int, dr_bl, dr_tup, dr_lst, dr_non, dr_str, drs, idxF_lst0, idxF_lst1, idxF_lst2, idxF_tup0, idxF_tup1, idxF_tup2, cmpF_gt, cmpF_le, cmpF_lt, cmpF_ge, cmpF_eq, cmpF_ne, cmpF_in, cmpF_nin, cmpF_eqb, cmpF_neb, inF_dL, inF_lst, inF_tup, truth_bl, truth_int, bindT_nm, bindT_tt, bindT_tl, bindTs_nil, bindTs_nm, seqF_tup, seqF_lst, Option.map_some, Option.map_none, if_true, if_false, Bool.false_eq_true, Nat.reduceAdd, Nat.reduceSub, Nat.reduceEqDiff, Nat.zero_add, binF_add, binF_sub, isi_bool_non, isi_bool_bl, isi_bool_int, isi_bool_str, isi_bool_tup, isi_bool_lst, isi_int_non, isi_int_bl, isi_int_int, isi_int_str, isi_int_tup, isi_int_lst, isi_str_non, isi_str_bl, isi_str_int, isi_str_str, isi_str_tup, isi_str_lst, isi_tuple_non, isi_tuple_bl, isi_tuple_int, isi_tuple_str, isi_tuple_tup, isi_tuple_lst, isi_list_non, isi_list_bl, isi_list_int, isi_list_str, isi_list_tup, isi_list_lst, isi_dict_non, isi_dict_bl, isi_dict_int, isi_dict_str, isi_dict_tup, isi_dict_lst, bnot_bl, Bool.not_true, Bool.not_false, biF_len, biF_list, biF_tuple, biF_sorted, biF_sortedt, biF_all, biF_any, biF_sum, biF_min, biF_max, biF_min2, biF_max2, biF_int, biF_abs, lenF_tup, lenF_lst, szOk0, szOk1, szOk2, szOk3, szOk4, szOk5, szOk6, number_map, Int.cast_ofNat_Int, Int.reduceBEq, Int.reduceBNe, Int.reduceLT, Int.reduceLE, Int.reduceSub, Int.reduceAdd, Int.reduceNeg, decide_true, decide_false, beq_self_eq_true, Int.natCast_zero, Int.natCast_one, c1, ha, hb, decide_true]
theorem is_place_s {n : Nat} (h : 3 ≤ n) {m x : Nat} (hx : x < m) (s : Stt) : callF T n "is_place" [.int m, .int x] s = some (.ok (.bl true), s) := by
  rw [callF_run T (m := n - 1) (by omega) fn_is_place _ _ rfl]
  have c1 := is_between_s (n := n - 1) (by omega) (x := x) (a := 0) (b := m - 1) (by omega) (by omega) s
  simp only [d_is_place, start, List.length_cons, List.length_nil, exSs_nil, exSs_cons, exS_asg, exS_asgO, exS_par, exS_exp, exS_frz, exS_retv, exS_reto, exS_ite, exS_pass, goOn_nx, goOn_rt, fin_nx, fin_rt, frzF_own, frzF_val, getOwn_own, ev_var, ev_pk, ev_cst, ev_glb, ev_bin, ev_not, ev_neg, negF_int, ev_cmp, ev_cmp2, ev_cmp3, ev_and, ev_or, ev_ite, ev_tup, ev_lst, ev_idx, ev_slc, ev_call0, ev_callk, ev_lrng, ev_bi, ev_isi, evs_nil, evs_cons, evD_nil, evD_f, evD_t, evT_nil, evT_cons, evI_seq, evI_rng, evI_enm, elimS, condT, condF, condB, okb, Res.none_bind, Res.bind_assoc, liftS, slot, put, getAny, getVal, List.map_cons, List.map_nil, List.replicate, List.cons_append, List.nil_append, List.append_nil, dr_cell, dr_dP, dr_dI, dr_dL, dr_dW, dr_int, dr_bl, dr_tup, dr_lst, dr_non, dr_str, drs, idxF_lst0, idxF_lst1, idxF_lst2, idxF_tup0, idxF_tup1, idxF_tup2, cmpF_gt, cmpF_le, cmpF_lt, cmpF_ge, cmpF_eq, cmpF_ne, cmpF_in, cmpF_nin, cmpF_eqb, cmpF_neb, inF_dL, inF_lst, inF_tup, truth_bl, truth_int, bindT_nm, bindT_tt, bindT_tl, bindTs_nil, bindTs_nm, seqF_tup, seqF_lst, Option.map_some, Option.map_none, if_true, if_false, Bool.false_eq_true, Nat.reduceAdd, Nat.reduceSub, Nat.reduceEqDiff, Nat.zero_add, binF_add, binF_sub, isi_bool_non, isi_bool_bl, isi_bool_int, isi_bool_str, isi_bool_tup, isi_bool_lst, isi_int_non, isi_int_bl, isi_int_int, isi_int_str, isi_int_tup, isi_int_lst, isi_str_non, isi_str_bl, isi_str_int, isi_str_str, isi_str_tup, isi_str_lst, isi_tuple_non, isi_tuple_bl, isi_tuple_int, isi_tuple_str, isi_tuple_tup, isi_tuple_lst, isi_list_non, isi_list_bl, isi_list_int, isi_list_str, isi_list_tup, isi_list_lst, isi_dict_non, isi_dict_bl, isi_dict_int, isi_dict_str, isi_dict_tup, isi_dict_lst, bnot_bl, Bool.not_true, Bool.not_false, biF_len, biF_list, biF_tuple, biF_sorted, biF_sortedt, biF_all, biF_any, biF_sum, biF_min, biF_max, biF_min2, biF_max2, biF_int, biF_abs, lenF_tup, lenF_lst, szOk0, szOk1, szOk2, szOk3, szOk4, szOk5, szOk6, number_map, Int.cast_ofNat_Int, Int.reduceBEq, Int.reduceBNe, Int.reduceLT, Int.reduceLE, Int.reduceSub, Int.reduceAdd, Int.reduceNeg, decide_true, decide_false, beq_self_eq_true, Int.natCast_zero, Int.natCast_one, c1]
theorem is_tuple_of_s {n : Nat} (h : 1 ≤ n) (xs : List D) (s : Stt) : callF T n "is_tuple_of" [.tup xs, .int xs.length] s = some (.ok (.bl true), s) := by
  rw [callF_run T (m := n - 1) (by omega) fn_is_tuple_of _ _ rfl]
  simp only [d_is_tuple_of, start, List.length_cons, List.length_nil, exSs_nil, exSs_cons, exS_asg, exS_asgO, exS_par, exS_exp, exS_frz, exS_retv, exS_reto, exS_ite, exS_pass, goOn_nx, goOn_rt, fin_nx, fin_rt, frzF_own, frzF_val, getOwn_own, ev_var, ev_pk, ev_cst, ev_glb, ev_bin, ev_not, ev_neg, negF_int, ev_cmp, ev_cmp2, ev_cmp3, ev_and, ev_or, ev_ite, ev_tup, ev_lst, ev_idx, ev_slc, ev_call0, ev_callk, ev_lrng, ev_bi, ev_isi, evs_nil, evs_cons, evD_nil, evD_f, evD_t, evT_nil, evT_cons, evI_seq, evI_rng, evI_enm, elimS, condT, condF, condB, okb, Res.none_bind, Res.bind_assoc, liftS, slot, put, getAny, getVal, List.map_cons, List.map_nil, List.replicate, List.cons_append, List.nil_append, List.append_nil, dr_cell, dr_dP, dr_dI, dr_dL, dr_dW, dr_int, dr_bl, dr_tup, dr_lst, dr_non, dr_str, drs, idxF_lst0, idxF_lst1, idxF_lst2, idxF_tup0, idxF_tup1, idxF_tup2, cmpF_gt, cmpF_le, cmpF_lt, cmpF_ge, cmpF_eq, cmpF_ne, cmpF_in, cmpF_nin, cmpF_eqb, cmpF_neb, inF_dL, inF_lst, inF_tup, truth_bl, truth_int, bindT_nm, bindT_tt, bindT_tl, bindTs_nil, bindTs_nm, seqF_tup, seqF_lst, Option.map_some, Option.map_none, if_true, if_false, Bool.false_eq_true, Nat.reduceAdd, Nat.reduceSub, Nat.reduceEqDiff, Nat.zero_add, binF_add, binF_sub, isi_bool_non, isi_bool_bl, isi_bool_int, isi_bool_str, isi_bool_tup, isi_bool_lst, isi_int_non, isi_int_bl, isi_int_int, isi_int_str, isi_int_tup, isi_int_lst, isi_str_non, isi_str_bl, isi_str_int, isi_str_str, isi_str_tup, isi_str_lst, isi_tuple_non, isi_tuple_bl, isi_tuple_int, isi_tuple_str, isi_tuple_tup, isi_tuple_lst, isi_list_non, isi_list_bl, isi_list_int, isi_list_str, isi_list_tup, isi_list_lst, isi_dict_non, isi_dict_bl, isi_dict_int, isi_dict_str, isi_dict_tup, isi_dict_lst, bnot_bl, Bool.not_true, Bool.not_false, biF_len, biF_list, biF_tuple, biF_sorted, biF_sortedt, biF_all, biF_any, biF_sum, biF_min, biF_max, biF_min2, biF_max2, biF_int, biF_abs, lenF_tup, lenF_lst, szOk0, szOk1, szOk2, szOk3, szOk4, szOk5, szOk6, number_map, Int.cast_ofNat_Int, Int.reduceBEq, Int.reduceBNe, Int.reduceLT, Int.reduceLE, Int.reduceSub, Int.reduceAdd, Int.reduceNeg, decide_true, decide_false, beq_self_eq_true, Int.natCast_zero, Int.natCast_one]
theorem is_pair_s {n : Nat} (h : 4 ≤ n) {m : Nat} {p : Nat × Nat} (h1 : p.1 < p.2) (h2 : p.2 < m) (s : Stt) : callF T n "is_pair" [.int m, dP p] s = some (.ok (.bl true), s) := by
  rw [callF_run T (m := n - 1) (by omega) fn_is_pair _ _ rfl]
  have c1 : ∀ s, callF T (n - 1) "is_tuple_of" [.tup [.int p.1, .int p.2], .int 2] s = some (.ok (.bl true), s) := fun s => is_tuple_of_s (n := n - 1) (by omega) [.int p.1, .int p.2] s
  have c4 : ((p.1 : Int) < (p.2 : Int)) := by omega
  simp only [d_is_pair, dP, start, List.length_cons, List.length_nil, exSs_nil, exSs_cons, exS_asg, exS_asgO, exS_par, exS_exp, exS_frz, exS_retv, exS_reto, exS_ite, exS_pass, goOn_nx, goOn_rt, fin_nx, fin_rt, frzF_own, frzF_val, getOwn_own, ev_var, ev_pk, ev_cst, ev_glb, ev_bin, ev_not, ev_neg, negF_int, ev_cmp, ev_cmp2, ev_cmp3, ev_and, ev_or, ev_ite, ev_tup, ev_lst, ev_idx, ev_slc, ev_call0, ev_callk, ev_lrng, ev_bi, ev_isi, evs_nil, evs_cons, evD_nil, evD_f, evD_t, evT_nil, evT_cons, evI_seq, evI_rng, evI_enm, elimS, condT, condF, condB, okb, Res.none_bind, Res.bind_assoc, liftS, slot, put, getAny, getVal, List.map_cons, List.map_nil, List.replicate, List.cons_append, List.nil_append, List.append_nil, dr_cell, dr_dP, dr_dI, dr_dL, dr_dW, dr_int, dr_bl, dr_tup, dr_lst, dr_non, dr_str, drs, idxF_lst0, idxF_lst1, idxF_lst2, idxF_tup0, idxF_tup1, idxF_tup2, cmpF_gt, cmpF_le, cmpF_lt, cmpF_ge, cmpF_eq, cmpF_ne, cmpF_in, cmpF_nin, cmpF_eqb, cmpF_neb, inF_dL, inF_lst, inF_tup, truth_bl, truth_int, bindT_nm, bindT_tt, bindT_tl, bindTs_nil, bindTs_nm, seqF_tup, seqF_lst, Option.map_some, Option.map_none, if_true, if_false, Bool.false_eq_true, Nat.reduceAdd, Nat.reduceSub, Nat.reduceEqDiff, Nat.zero_add, binF_add, binF_sub, isi_bool_non, isi_bool_bl, isi_bool_int, isi_bool_str, isi_bool_tup, isi_bool_lst, isi_int_non, isi_int_bl, isi_int_int, isi_int_str, isi_int_tup, isi_int_lst, isi_str_non, isi_str_bl, isi_str_int, isi_str_str, isi_str_tup, isi_str_lst, isi_tuple_non, isi_tuple_bl, isi_tuple_int, isi_tuple_str, isi_tuple_tup, isi_tuple_lst, isi_list_non, isi_list_bl, isi_list_int, isi_list_str, isi_list_tup, isi_list_lst, isi_dict_non, isi_dict_bl, isi_dict_int, isi_dict_str, isi_dict_tup, isi_dict_lst, bnot_bl, Bool.not_true, Bool.not_false, biF_len, biF_list, biF_tuple, biF_sorted, biF_sortedt, biF_all, biF_any, biF_sum, biF_min, biF_max, biF_min2, biF_max2, biF_int, biF_abs, lenF_tup, lenF_lst, szOk0, szOk1, szOk2, szOk3, szOk4, szOk5, szOk6, number_map, Int.cast_ofNat_Int, Int.reduceBEq, Int.reduceBNe, Int.reduceLT, Int.reduceLE, Int.reduceSub, Int.reduceAdd, Int.reduceNeg, decide_true, decide_false, beq_self_eq_true, Int.natCast_zero, Int.natCast_one, c1]
  rw [ev_comp0 _ _ _ dI (fun _ => .bl true) [p.1, p.2] (by simp only [start, List.length_cons, List.length_nil, exSs_nil, exSs_cons, exS_asg, exS_asgO, exS_par, exS_exp, exS_frz, exS_retv, exS_reto, exS_ite, exS_pass, goOn_nx, goOn_rt, fin_nx, fin_rt, frzF_own, frzF_val, getOwn_own, ev_var, ev_pk, ev_cst, ev_glb, ev_bin, ev_not, ev_neg, negF_int, ev_cmp, ev_cmp2, ev_cmp3, ev_and, ev_or, ev_ite, ev_tup, ev_lst, ev_idx, ev_slc, ev_call0, ev_callk, ev_lrng, ev_bi, ev_isi, evs_nil, evs_cons, evD_nil, evD_f, evD_t, evT_nil, evT_cons, evI_seq, evI_rng, evI_enm, elimS, condT, condF, condB, okb, Res.none_bind, Res.bind_assoc, liftS, slot, put, getAny, getVal, List.map_cons, List.map_nil, List.replicate, List.cons_append, List.nil_append, List.append_nil, dr_cell, dr_dP, dr_dI, dr_dL, dr_dW, dr_int, dr_bl, dr_tup, dr_lst, dr_non, dr_str, drs, idxF_lst0, idxF_lst1, idxF_lst2, idxF_tup0, idxF_tup1, idxF_tup2, cmpF_gt, cmpF_le, cmpF_lt, cmpF_ge, cmpF_eq, cmpF_ne, cmpF_in, cmpF_nin, cmpF_eqb, cmpF_neb, inF_dL, inF_lst, inF_tup, truth_bl, truth_int, bindT_nm, bindT_tt, bindT_tl, bindTs_nil, bindTs_nm, seqF_tup, seqF_lst, Option.map_some, Option.map_none, if_true, if_false, Bool.false_eq_true, Nat.reduceAdd, Nat.reduceSub, Nat.reduceEqDiff, Nat.zero_add, binF_add, binF_sub, isi_bool_non, isi_bool_bl, isi_bool_int, isi_bool_str, isi_bool_tup, isi_bool_lst, isi_int_non, isi_int_bl, isi_int_int, isi_int_str, isi_int_tup, isi_int_lst, isi_str_non, isi_str_bl, isi_str_int, isi_str_str, isi_str_tup, isi_str_lst, isi_tuple_non, isi_tuple_bl, isi_tuple_int, isi_tuple_str, isi_tuple_tup, isi_tuple_lst, isi_list_non, isi_list_bl, isi_list_int, isi_list_str, isi_list_tup, isi_list_lst, isi_dict_non, isi_dict_bl, isi_dict_int, isi_dict_str, isi_dict_tup, isi_dict_lst, bnot_bl, Bool.not_true, Bool.not_false, biF_len, biF_list, biF_tuple, biF_sorted, biF_sortedt, biF_all, biF_any, biF_sum, biF_min, biF_max, biF_min2, biF_max2, biF_int, biF_abs, lenF_tup, lenF_lst, szOk0, szOk1, szOk2, szOk3, szOk4, szOk5, szOk6, number_map, Int.cast_ofNat_Int, Int.reduceBEq, Int.reduceBNe, Int.reduceLT, Int.reduceLE, Int.reduceSub, Int.reduceAdd, Int.reduceNeg, decide_true, decide_false, beq_self_eq_true, Int.natCast_zero, Int.natCast_one, dI]) ?_ rfl]
  · simp only [start, List.length_cons, List.length_nil, exSs_nil, exSs_cons, exS_asg, exS_asgO, exS_par, exS_exp, exS_frz, exS_retv, exS_reto, exS_ite, exS_pass, goOn_nx, goOn_rt, fin_nx, fin_rt, frzF_own, frzF_val, getOwn_own, ev_var, ev_pk, ev_cst, ev_glb, ev_bin, ev_not, ev_neg, negF_int, ev_cmp, ev_cmp2, ev_cmp3, ev_and, ev_or, ev_ite, ev_tup, ev_lst, ev_idx, ev_slc, ev_call0, ev_callk, ev_lrng, ev_bi, ev_isi, evs_nil, evs_cons, evD_nil, evD_f, evD_t, evT_nil, evT_cons, evI_seq, evI_rng, evI_enm, elimS, condT, condF, condB, okb, Res.none_bind, Res.bind_assoc, liftS, slot, put, getAny, getVal, List.map_cons, List.map_nil, List.replicate, List.cons_append, List.nil_append, List.append_nil, dr_cell, dr_dP, dr_dI, dr_dL, dr_dW, dr_int, dr_bl, dr_tup, dr_lst, dr_non, dr_str, drs, idxF_lst0, idxF_lst1, idxF_lst2, idxF_tup0, idxF_tup1, idxF_tup2, cmpF_gt, cmpF_le, cmpF_lt, cmpF_ge, cmpF_eq, cmpF_ne, cmpF_in, cmpF_nin, cmpF_eqb, cmpF_neb, inF_dL, inF_lst, inF_tup, truth_bl, truth_int, bindT_nm, bindT_tt, bindT_tl, bindTs_nil, bindTs_nm, seqF_tup, seqF_lst, Option.map_some, Option.map_none, if_true, if_false, Bool.false_eq_true, Nat.reduceAdd, Nat.reduceSub, Nat.reduceEqDiff, Nat.zero_add, binF_add, binF_sub, isi_bool_non, isi_bool_bl, isi_bool_int, isi_bool_str, isi_bool_tup, isi_bool_lst, isi_int_non, isi_int_bl, isi_int_int, isi_int_str, isi_int_tup, isi_int_lst, isi_str_non, isi_str_bl, isi_str_int, isi_str_str, isi_str_tup, isi_str_lst, isi_tuple_non, isi_tuple_bl, isi_tuple_int, isi_tuple_str, isi_tuple_tup, isi_tuple_lst, isi_list_non, isi_list_bl, isi_list_int, isi_list_str, isi_list_tup, isi_list_lst, isi_dict_non, isi_dict_bl, isi_dict_int, isi_dict_str, isi_dict_tup, isi_dict_lst, bnot_bl, Bool.not_true, Bool.not_false, biF_len, biF_list, biF_tuple, biF_sorted, biF_sortedt, biF_all, biF_any, biF_sum, biF_min, biF_max, biF_min2, biF_max2, biF_int, biF_abs, lenF_tup, lenF_lst, szOk0, szOk1, szOk2, szOk3, szOk4, szOk5, szOk6, number_map, Int.cast_ofNat_Int, Int.reduceBEq, Int.reduceBNe, Int.reduceLT, Int.reduceLE, Int.reduceSub, Int.reduceAdd, Int.reduceNeg, decide_true, decide_false, beq_self_eq_true, Int.natCast_zero, Int.natCast_one, boolsD, List.all_cons, List.all_nil, id, Bool.and_self, Bool.and_true, c4, decide_true]
  · intro x hx
    have hx : x < m := by
      simp only [List.mem_cons, List.not_mem_nil, or_false] at hx
      omega
    have c2 := fun s => is_place_s (n := n - 1) (by omega) (m := m) (x := x) hx s
    exact ⟨_, rfl, by simp only [start, List.length_cons, List.length_nil, exSs_nil, exSs_cons, exS_asg, exS_asgO, exS_par, exS_exp, exS_frz, exS_retv, exS_reto, exS_ite, exS_pass, goOn_nx, goOn_rt, fin_nx, fin_rt, frzF_own, frzF_val, getOwn_own, ev_var, ev_pk, ev_cst, ev_glb, ev_bin, ev_not, ev_neg, negF_int, ev_cmp, ev_cmp2, ev_cmp3, ev_and, ev_or, ev_ite, ev_tup, ev_lst, ev_idx, ev_slc, ev_call0, ev_callk, ev_lrng, ev_bi, ev_isi, evs_nil, evs_cons, evD_nil, evD_f, evD_t, evT_nil, evT_cons, evI_seq, evI_rng, evI_enm, elimS, condT, condF, condB, okb, Res.none_bind, Res.bind_assoc, liftS, slot, put, getAny, getVal, List.map_cons, List.map_nil, List.replicate, List.cons_append, List.nil_append, List.append_nil, dr_cell, dr_dP, dr_dI, dr_dL, dr_dW, dr_int, dr_bl, dr_tup, dr_lst, dr_non, dr_str, drs, idxF_lst0, idxF_lst1, idxF_lst2, idxF_tup0, idxF_tup1, idxF_tup2, cmpF_gt, cmpF_le, cmpF_lt, cmpF_ge, cmpF_eq, cmpF_ne, cmpF_in, cmpF_nin, cmpF_eqb, cmpF_neb, inF_dL, inF_lst, inF_tup, truth_bl, truth_int, bindT_nm, bindT_tt, bindT_tl, bindTs_nil, bindTs_nm, seqF_tup, seqF_lst, Option.map_some, Option.map_none, if_true, if_false, Bool.false_eq_true, Nat.reduceAdd, Nat.reduceSub, Nat.reduceEqDiff, Nat.zero_add, binF_add, binF_sub, isi_bool_non, isi_bool_bl, isi_bool_int, isi_bool_str, isi_bool_tup, isi_bool_lst, isi_int_non, isi_int_bl, isi_int_int, isi_int_str, isi_int_tup, isi_int_lst, isi_str_non, isi_str_bl, isi_str_int, isi_str_str, isi_str_tup, isi_str_lst, isi_tuple_non, isi_tuple_bl, isi_tuple_int, isi_tuple_str, isi_tuple_tup, isi_tuple_lst, isi_list_non, isi_list_bl, isi_list_int, isi_list_str, isi_list_tup, isi_list_lst, isi_dict_non, isi_dict_bl, isi_dict_int, isi_dict_str, isi_dict_tup, isi_dict_lst, bnot_bl, Bool.not_true, Bool.not_false, biF_len, biF_list, biF_tuple, biF_sorted, biF_sortedt, biF_all, biF_any, biF_sum, biF_min, biF_max, biF_min2, biF_max2, biF_int, biF_abs, lenF_tup, lenF_lst, szOk0, szOk1, szOk2, szOk3, szOk4, szOk5, szOk6, number_map, Int.cast_ofNat_Int, Int.reduceBEq, Int.reduceBNe, Int.reduceLT, Int.reduceLE, Int.reduceSub, Int.reduceAdd, Int.reduceNeg, decide_true, decide_false, beq_self_eq_true, Int.natCast_zero, Int.natCast_one, dI, c2]⟩
structure WebOk (n : Nat) (ts : List (Nat × Nat)) : Prop where
  n2 : 2 ≤ n
  n7 : n ≤ 7
  t1 : 1 ≤ ts.length
  t12 : ts.length ≤ 12
  pairs : ∀ p, p ∈ ts → p.1 < p.2 ∧ p.2 < n
  sorted : ts.Pairwise fun a b => ltP b a = false
theorem WebOk.adj {n : Nat} {ts : List (Nat × Nat)} (w : WebOk n ts) (i : Nat) (h : i + 1 < ts.length) : ltP (ts[i + 1]) (ts[i]'(by omega)) = false :=
  List.pairwise_iff_getElem.mp w.sorted i (i + 1) (by omega) h (by omega)
theorem WebOk.two {n : Nat} {ts : List (Nat × Nat)} (w : WebOk n ts) : ∀ p, p ∈ ts → p.1 < n ∧ p.2 < n := fun p m => by
  have := w.pairs p m
  omega
theorem gl1 : T.gl "LEAST_PLACES" = some (.int 2) := by rfl
theorem gl2 : T.gl "MOST_PLACES" = some (.int 7) := by rfl
theorem gl3 : T.gl "MOST_TIES" = some (.int 12) := by rfl
theorem are_two_parts_s {n : Nat} (h : 3 ≤ n) {m : Nat} {ts : List (Nat × Nat)} (w : WebOk m ts) (s : Stt) : callF T n "are_two_parts" [dW m ts] s = some (.ok (.bl true), s) := by
  rw [callF_run T (m := n - 1) (by omega) fn_are_two_parts _ _ rfl]
  have c1 : ∀ s, callF T (n - 1) "is_tuple_of" [.tup [.int m, .tup (ts.map dP)], .int 2] s = some (.ok (.bl true), s) := fun s => is_tuple_of_s (n := n - 1) (by omega) [.int m, .tup (ts.map dP)] s
  have := w.n2
  have := w.n7
  have c2 := fun s => is_between_s (n := n - 1) (by omega) (x := m) (a := 2) (b := 7) (by omega) (by omega) s
  have h1 := w.t1
  have h2 := w.t12
  have c3 : (1 : Int) ≤ ((ts.map dP).length : Nat) := by rw [List.length_map]; omega
  have c4 : (((ts.map dP).length : Nat) : Int) ≤ 12 := by rw [List.length_map]; omega
  simp only [d_are_two_parts, dW, start, List.length_cons, List.length_nil, exSs_nil, exSs_cons, exS_asg, exS_asgO, exS_par, exS_exp, exS_frz, exS_retv, exS_reto, exS_ite, exS_pass, goOn_nx, goOn_rt, fin_nx, fin_rt, frzF_own, frzF_val, getOwn_own, ev_var, ev_pk, ev_cst, ev_glb, ev_bin, ev_not, ev_neg, negF_int, ev_cmp, ev_cmp2, ev_cmp3, ev_and, ev_or, ev_ite, ev_tup, ev_lst, ev_idx, ev_slc, ev_call0, ev_callk, ev_lrng, ev_bi, ev_isi, evs_nil, evs_cons, evD_nil, evD_f, evD_t, evT_nil, evT_cons, evI_seq, evI_rng, evI_enm, elimS, condT, condF, condB, okb, Res.none_bind, Res.bind_assoc, liftS, slot, put, getAny, getVal, List.map_cons, List.map_nil, List.replicate, List.cons_append, List.nil_append, List.append_nil, dr_cell, dr_dP, dr_dI, dr_dL, dr_dW, dr_int, dr_bl, dr_tup, dr_lst, dr_non, dr_str, drs, idxF_lst0, idxF_lst1, idxF_lst2, idxF_tup0, idxF_tup1, idxF_tup2, cmpF_gt, cmpF_le, cmpF_lt, cmpF_ge, cmpF_eq, cmpF_ne, cmpF_in, cmpF_nin, cmpF_eqb, cmpF_neb, inF_dL, inF_lst, inF_tup, truth_bl, truth_int, bindT_nm, bindT_tt, bindT_tl, bindTs_nil, bindTs_nm, seqF_tup, seqF_lst, Option.map_some, Option.map_none, if_true, if_false, Bool.false_eq_true, Nat.reduceAdd, Nat.reduceSub, Nat.reduceEqDiff, Nat.zero_add, binF_add, binF_sub, isi_bool_non, isi_bool_bl, isi_bool_int, isi_bool_str, isi_bool_tup, isi_bool_lst, isi_int_non, isi_int_bl, isi_int_int, isi_int_str, isi_int_tup, isi_int_lst, isi_str_non, isi_str_bl, isi_str_int, isi_str_str, isi_str_tup, isi_str_lst, isi_tuple_non, isi_tuple_bl, isi_tuple_int, isi_tuple_str, isi_tuple_tup, isi_tuple_lst, isi_list_non, isi_list_bl, isi_list_int, isi_list_str, isi_list_tup, isi_list_lst, isi_dict_non, isi_dict_bl, isi_dict_int, isi_dict_str, isi_dict_tup, isi_dict_lst, bnot_bl, Bool.not_true, Bool.not_false, biF_len, biF_list, biF_tuple, biF_sorted, biF_sortedt, biF_all, biF_any, biF_sum, biF_min, biF_max, biF_min2, biF_max2, biF_int, biF_abs, lenF_tup, lenF_lst, szOk0, szOk1, szOk2, szOk3, szOk4, szOk5, szOk6, number_map, Int.cast_ofNat_Int, Int.reduceBEq, Int.reduceBNe, Int.reduceLT, Int.reduceLE, Int.reduceSub, Int.reduceAdd, Int.reduceNeg, decide_true, decide_false, beq_self_eq_true, Int.natCast_zero, Int.natCast_one, c1, c2, gl1, gl2, gl3, c3, c4, decide_true, beq_self_eq_true]
theorem wrong_in_web_s {n : Nat} (h : 5 ≤ n) {m : Nat} {ts : List (Nat × Nat)} (w : WebOk m ts) (s : Stt) : callF T n "wrong_in_web" [dW m ts] s = some (.ok (.lst []), s) := by
  rw [callF_run T (m := n - 1) (by omega) fn_wrong_in_web _ _ rfl]
  have c1 := fun s => are_two_parts_s (n := n - 1) (by omega) w s
  simp only [d_wrong_in_web, dW, start, List.length_cons, List.length_nil, exSs_nil, exSs_cons, exS_asg, exS_asgO, exS_par, exS_exp, exS_frz, exS_retv, exS_reto, exS_ite, exS_pass, goOn_nx, goOn_rt, fin_nx, fin_rt, frzF_own, frzF_val, getOwn_own, ev_var, ev_pk, ev_cst, ev_glb, ev_bin, ev_not, ev_neg, negF_int, ev_cmp, ev_cmp2, ev_cmp3, ev_and, ev_or, ev_ite, ev_tup, ev_lst, ev_idx, ev_slc, ev_call0, ev_callk, ev_lrng, ev_bi, ev_isi, evs_nil, evs_cons, evD_nil, evD_f, evD_t, evT_nil, evT_cons, evI_seq, evI_rng, evI_enm, elimS, condT, condF, condB, okb, Res.none_bind, Res.bind_assoc, liftS, slot, put, getAny, getVal, List.map_cons, List.map_nil, List.replicate, List.cons_append, List.nil_append, List.append_nil, dr_cell, dr_dP, dr_dI, dr_dL, dr_dW, dr_int, dr_bl, dr_tup, dr_lst, dr_non, dr_str, drs, idxF_lst0, idxF_lst1, idxF_lst2, idxF_tup0, idxF_tup1, idxF_tup2, cmpF_gt, cmpF_le, cmpF_lt, cmpF_ge, cmpF_eq, cmpF_ne, cmpF_in, cmpF_nin, cmpF_eqb, cmpF_neb, inF_dL, inF_lst, inF_tup, truth_bl, truth_int, bindT_nm, bindT_tt, bindT_tl, bindTs_nil, bindTs_nm, seqF_tup, seqF_lst, Option.map_some, Option.map_none, if_true, if_false, Bool.false_eq_true, Nat.reduceAdd, Nat.reduceSub, Nat.reduceEqDiff, Nat.zero_add, binF_add, binF_sub, isi_bool_non, isi_bool_bl, isi_bool_int, isi_bool_str, isi_bool_tup, isi_bool_lst, isi_int_non, isi_int_bl, isi_int_int, isi_int_str, isi_int_tup, isi_int_lst, isi_str_non, isi_str_bl, isi_str_int, isi_str_str, isi_str_tup, isi_str_lst, isi_tuple_non, isi_tuple_bl, isi_tuple_int, isi_tuple_str, isi_tuple_tup, isi_tuple_lst, isi_list_non, isi_list_bl, isi_list_int, isi_list_str, isi_list_tup, isi_list_lst, isi_dict_non, isi_dict_bl, isi_dict_int, isi_dict_str, isi_dict_tup, isi_dict_lst, bnot_bl, Bool.not_true, Bool.not_false, biF_len, biF_list, biF_tuple, biF_sorted, biF_sortedt, biF_all, biF_any, biF_sum, biF_min, biF_max, biF_min2, biF_max2, biF_int, biF_abs, lenF_tup, lenF_lst, szOk0, szOk1, szOk2, szOk3, szOk4, szOk5, szOk6, number_map, Int.cast_ofNat_Int, Int.reduceBEq, Int.reduceBNe, Int.reduceLT, Int.reduceLE, Int.reduceSub, Int.reduceAdd, Int.reduceNeg, decide_true, decide_false, beq_self_eq_true, Int.natCast_zero, Int.natCast_one] at c1 ⊢
  simp only [c1, start, List.length_cons, List.length_nil, exSs_nil, exSs_cons, exS_asg, exS_asgO, exS_par, exS_exp, exS_frz, exS_retv, exS_reto, exS_ite, exS_pass, goOn_nx, goOn_rt, fin_nx, fin_rt, frzF_own, frzF_val, getOwn_own, ev_var, ev_pk, ev_cst, ev_glb, ev_bin, ev_not, ev_neg, negF_int, ev_cmp, ev_cmp2, ev_cmp3, ev_and, ev_or, ev_ite, ev_tup, ev_lst, ev_idx, ev_slc, ev_call0, ev_callk, ev_lrng, ev_bi, ev_isi, evs_nil, evs_cons, evD_nil, evD_f, evD_t, evT_nil, evT_cons, evI_seq, evI_rng, evI_enm, elimS, condT, condF, condB, okb, Res.none_bind, Res.bind_assoc, liftS, slot, put, getAny, getVal, List.map_cons, List.map_nil, List.replicate, List.cons_append, List.nil_append, List.append_nil, dr_cell, dr_dP, dr_dI, dr_dL, dr_dW, dr_int, dr_bl, dr_tup, dr_lst, dr_non, dr_str, drs, idxF_lst0, idxF_lst1, idxF_lst2, idxF_tup0, idxF_tup1, idxF_tup2, cmpF_gt, cmpF_le, cmpF_lt, cmpF_ge, cmpF_eq, cmpF_ne, cmpF_in, cmpF_nin, cmpF_eqb, cmpF_neb, inF_dL, inF_lst, inF_tup, truth_bl, truth_int, bindT_nm, bindT_tt, bindT_tl, bindTs_nil, bindTs_nm, seqF_tup, seqF_lst, Option.map_some, Option.map_none, if_true, if_false, Bool.false_eq_true, Nat.reduceAdd, Nat.reduceSub, Nat.reduceEqDiff, Nat.zero_add, binF_add, binF_sub, isi_bool_non, isi_bool_bl, isi_bool_int, isi_bool_str, isi_bool_tup, isi_bool_lst, isi_int_non, isi_int_bl, isi_int_int, isi_int_str, isi_int_tup, isi_int_lst, isi_str_non, isi_str_bl, isi_str_int, isi_str_str, isi_str_tup, isi_str_lst, isi_tuple_non, isi_tuple_bl, isi_tuple_int, isi_tuple_str, isi_tuple_tup, isi_tuple_lst, isi_list_non, isi_list_bl, isi_list_int, isi_list_str, isi_list_tup, isi_list_lst, isi_dict_non, isi_dict_bl, isi_dict_int, isi_dict_str, isi_dict_tup, isi_dict_lst, bnot_bl, Bool.not_true, Bool.not_false, biF_len, biF_list, biF_tuple, biF_sorted, biF_sortedt, biF_all, biF_any, biF_sum, biF_min, biF_max, biF_min2, biF_max2, biF_int, biF_abs, lenF_tup, lenF_lst, szOk0, szOk1, szOk2, szOk3, szOk4, szOk5, szOk6, number_map, Int.cast_ofNat_Int, Int.reduceBEq, Int.reduceBNe, Int.reduceLT, Int.reduceLE, Int.reduceSub, Int.reduceAdd, Int.reduceNeg, decide_true, decide_false, beq_self_eq_true, Int.natCast_zero, Int.natCast_one]
  refine exS_pre _ _ _ (fun p : (Nat × Nat) × Nat => D.tup [.int (p.2 : Int), dP p.1]) (fun _ env => ∃ a b, env = [Slot.val (dW m ts), .val (.int m), .val (.tup (ts.map dP)), a, b]) (ts.zipIdx 0) (by simp only [start, List.length_cons, List.length_nil, exSs_nil, exSs_cons, exS_asg, exS_asgO, exS_par, exS_exp, exS_frz, exS_retv, exS_reto, exS_ite, exS_pass, goOn_nx, goOn_rt, fin_nx, fin_rt, frzF_own, frzF_val, getOwn_own, ev_var, ev_pk, ev_cst, ev_glb, ev_bin, ev_not, ev_neg, negF_int, ev_cmp, ev_cmp2, ev_cmp3, ev_and, ev_or, ev_ite, ev_tup, ev_lst, ev_idx, ev_slc, ev_call0, ev_callk, ev_lrng, ev_bi, ev_isi, evs_nil, evs_cons, evD_nil, evD_f, evD_t, evT_nil, evT_cons, evI_seq, evI_rng, evI_enm, elimS, condT, condF, condB, okb, Res.none_bind, Res.bind_assoc, liftS, slot, put, getAny, getVal, List.map_cons, List.map_nil, List.replicate, List.cons_append, List.nil_append, List.append_nil, dr_cell, dr_dP, dr_dI, dr_dL, dr_dW, dr_int, dr_bl, dr_tup, dr_lst, dr_non, dr_str, drs, idxF_lst0, idxF_lst1, idxF_lst2, idxF_tup0, idxF_tup1, idxF_tup2, cmpF_gt, cmpF_le, cmpF_lt, cmpF_ge, cmpF_eq, cmpF_ne, cmpF_in, cmpF_nin, cmpF_eqb, cmpF_neb, inF_dL, inF_lst, inF_tup, truth_bl, truth_int, bindT_nm, bindT_tt, bindT_tl, bindTs_nil, bindTs_nm, seqF_tup, seqF_lst, Option.map_some, Option.map_none, if_true, if_false, Bool.false_eq_true, Nat.reduceAdd, Nat.reduceSub, Nat.reduceEqDiff, Nat.zero_add, binF_add, binF_sub, isi_bool_non, isi_bool_bl, isi_bool_int, isi_bool_str, isi_bool_tup, isi_bool_lst, isi_int_non, isi_int_bl, isi_int_int, isi_int_str, isi_int_tup, isi_int_lst, isi_str_non, isi_str_bl, isi_str_int, isi_str_str, isi_str_tup, isi_str_lst, isi_tuple_non, isi_tuple_bl, isi_tuple_int, isi_tuple_str, isi_tuple_tup, isi_tuple_lst, isi_list_non, isi_list_bl, isi_list_int, isi_list_str, isi_list_tup, isi_list_lst, isi_dict_non, isi_dict_bl, isi_dict_int, isi_dict_str, isi_dict_tup, isi_dict_lst, bnot_bl, Bool.not_true, Bool.not_false, biF_len, biF_list, biF_tuple, biF_sorted, biF_sortedt, biF_all, biF_any, biF_sum, biF_min, biF_max, biF_min2, biF_max2, biF_int, biF_abs, lenF_tup, lenF_lst, szOk0, szOk1, szOk2, szOk3, szOk4, szOk5, szOk6, number_map, Int.cast_ofNat_Int, Int.reduceBEq, Int.reduceBNe, Int.reduceLT, Int.reduceLE, Int.reduceSub, Int.reduceAdd, Int.reduceNeg, decide_true, decide_false, beq_self_eq_true, Int.natCast_zero, Int.natCast_one]) ?_ ⟨_, _, rfl⟩ ?_
  · rintro pre ⟨p, i⟩ post _ e ⟨a, b, rfl⟩
    have hp : (p, i) ∈ ts.zipIdx 0 := by rw [e]; simp
    obtain ⟨_, hp1, hp2⟩ := List.mem_zipIdx hp
    simp only [Nat.zero_add, Nat.sub_zero] at hp1 hp2
    refine ⟨_, [Slot.val (dW m ts), .val (.int m), .val (.tup (ts.map dP)), .val (.int i), .val (dP p)], rfl, ?_, _, _, rfl⟩
    have pm : p ∈ ts := hp2 ▸ List.getElem_mem ..
    have c2 := is_pair_s (n := n - 1) (by omega) (m := m) (p := p) (w.pairs p pm).1 (w.pairs p pm).2 s
    simp only [dW, start, List.length_cons, List.length_nil, exSs_nil, exSs_cons, exS_asg, exS_asgO, exS_par, exS_exp, exS_frz, exS_retv, exS_reto, exS_ite, exS_pass, goOn_nx, goOn_rt, fin_nx, fin_rt, frzF_own, frzF_val, getOwn_own, ev_var, ev_pk, ev_cst, ev_glb, ev_bin, ev_not, ev_neg, negF_int, ev_cmp, ev_cmp2, ev_cmp3, ev_and, ev_or, ev_ite, ev_tup, ev_lst, ev_idx, ev_slc, ev_call0, ev_callk, ev_lrng, ev_bi, ev_isi, evs_nil, evs_cons, evD_nil, evD_f, evD_t, evT_nil, evT_cons, evI_seq, evI_rng, evI_enm, elimS, condT, condF, condB, okb, Res.none_bind, Res.bind_assoc, liftS, slot, put, getAny, getVal, List.map_cons, List.map_nil, List.replicate, List.cons_append, List.nil_append, List.append_nil, dr_cell, dr_dP, dr_dI, dr_dL, dr_dW, dr_int, dr_bl, dr_tup, dr_lst, dr_non, dr_str, drs, idxF_lst0, idxF_lst1, idxF_lst2, idxF_tup0, idxF_tup1, idxF_tup2, cmpF_gt, cmpF_le, cmpF_lt, cmpF_ge, cmpF_eq, cmpF_ne, cmpF_in, cmpF_nin, cmpF_eqb, cmpF_neb, inF_dL, inF_lst, inF_tup, truth_bl, truth_int, bindT_nm, bindT_tt, bindT_tl, bindTs_nil, bindTs_nm, seqF_tup, seqF_lst, Option.map_some, Option.map_none, if_true, if_false, Bool.false_eq_true, Nat.reduceAdd, Nat.reduceSub, Nat.reduceEqDiff, Nat.zero_add, binF_add, binF_sub, isi_bool_non, isi_bool_bl, isi_bool_int, isi_bool_str, isi_bool_tup, isi_bool_lst, isi_int_non, isi_int_bl, isi_int_int, isi_int_str, isi_int_tup, isi_int_lst, isi_str_non, isi_str_bl, isi_str_int, isi_str_str, isi_str_tup, isi_str_lst, isi_tuple_non, isi_tuple_bl, isi_tuple_int, isi_tuple_str, isi_tuple_tup, isi_tuple_lst, isi_list_non, isi_list_bl, isi_list_int, isi_list_str, isi_list_tup, isi_list_lst, isi_dict_non, isi_dict_bl, isi_dict_int, isi_dict_str, isi_dict_tup, isi_dict_lst, bnot_bl, Bool.not_true, Bool.not_false, biF_len, biF_list, biF_tuple, biF_sorted, biF_sortedt, biF_all, biF_any, biF_sum, biF_min, biF_max, biF_min2, biF_max2, biF_int, biF_abs, lenF_tup, lenF_lst, szOk0, szOk1, szOk2, szOk3, szOk4, szOk5, szOk6, number_map, Int.cast_ofNat_Int, Int.reduceBEq, Int.reduceBNe, Int.reduceLT, Int.reduceLE, Int.reduceSub, Int.reduceAdd, Int.reduceNeg, decide_true, decide_false, beq_self_eq_true, Int.natCast_zero, Int.natCast_one, c2]
    cases i with
    | zero => simp only [start, List.length_cons, List.length_nil, exSs_nil, exSs_cons, exS_asg, exS_asgO, exS_par, exS_exp, exS_frz, exS_retv, exS_reto, exS_ite, exS_pass, goOn_nx, goOn_rt, fin_nx, fin_rt, frzF_own, frzF_val, getOwn_own, ev_var, ev_pk, ev_cst, ev_glb, ev_bin, ev_not, ev_neg, negF_int, ev_cmp, ev_cmp2, ev_cmp3, ev_and, ev_or, ev_ite, ev_tup, ev_lst, ev_idx, ev_slc, ev_call0, ev_callk, ev_lrng, ev_bi, ev_isi, evs_nil, evs_cons, evD_nil, evD_f, evD_t, evT_nil, evT_cons, evI_seq, evI_rng, evI_enm, elimS, condT, condF, condB, okb, Res.none_bind, Res.bind_assoc, liftS, slot, put, getAny, getVal, List.map_cons, List.map_nil, List.replicate, List.cons_append, List.nil_append, List.append_nil, dr_cell, dr_dP, dr_dI, dr_dL, dr_dW, dr_int, dr_bl, dr_tup, dr_lst, dr_non, dr_str, drs, idxF_lst0, idxF_lst1, idxF_lst2, idxF_tup0, idxF_tup1, idxF_tup2, cmpF_gt, cmpF_le, cmpF_lt, cmpF_ge, cmpF_eq, cmpF_ne, cmpF_in, cmpF_nin, cmpF_eqb, cmpF_neb, inF_dL, inF_lst, inF_tup, truth_bl, truth_int, bindT_nm, bindT_tt, bindT_tl, bindTs_nil, bindTs_nm, seqF_tup, seqF_lst, Option.map_some, Option.map_none, if_true, if_false, Bool.false_eq_true, Nat.reduceAdd, Nat.reduceSub, Nat.reduceEqDiff, Nat.zero_add, binF_add, binF_sub, isi_bool_non, isi_bool_bl, isi_bool_int, isi_bool_str, isi_bool_tup, isi_bool_lst, isi_int_non, isi_int_bl, isi_int_int, isi_int_str, isi_int_tup, isi_int_lst, isi_str_non, isi_str_bl, isi_str_int, isi_str_str, isi_str_tup, isi_str_lst, isi_tuple_non, isi_tuple_bl, isi_tuple_int, isi_tuple_str, isi_tuple_tup, isi_tuple_lst, isi_list_non, isi_list_bl, isi_list_int, isi_list_str, isi_list_tup, isi_list_lst, isi_dict_non, isi_dict_bl, isi_dict_int, isi_dict_str, isi_dict_tup, isi_dict_lst, bnot_bl, Bool.not_true, Bool.not_false, biF_len, biF_list, biF_tuple, biF_sorted, biF_sortedt, biF_all, biF_any, biF_sum, biF_min, biF_max, biF_min2, biF_max2, biF_int, biF_abs, lenF_tup, lenF_lst, szOk0, szOk1, szOk2, szOk3, szOk4, szOk5, szOk6, number_map, Int.cast_ofNat_Int, Int.reduceBEq, Int.reduceBNe, Int.reduceLT, Int.reduceLE, Int.reduceSub, Int.reduceAdd, Int.reduceNeg, decide_true, decide_false, beq_self_eq_true, Int.natCast_zero, Int.natCast_one, Int.natCast_zero, Int.lt_irrefl, decide_false]
    | succ i =>
      have c4 : (0 : Int) < ((i + 1 : Nat) : Int) := by omega
      have c5 : ((i + 1 : Nat) : Int) - 1 = (i : Int) := by omega
      have c6 := w.adj i hp1
      rw [← hp2] at c6
      have c7 := idxF_tup_map dP ts i (by omega)
      simp only [start, List.length_cons, List.length_nil, exSs_nil, exSs_cons, exS_asg, exS_asgO, exS_par, exS_exp, exS_frz, exS_retv, exS_reto, exS_ite, exS_pass, goOn_nx, goOn_rt, fin_nx, fin_rt, frzF_own, frzF_val, getOwn_own, ev_var, ev_pk, ev_cst, ev_glb, ev_bin, ev_not, ev_neg, negF_int, ev_cmp, ev_cmp2, ev_cmp3, ev_and, ev_or, ev_ite, ev_tup, ev_lst, ev_idx, ev_slc, ev_call0, ev_callk, ev_lrng, ev_bi, ev_isi, evs_nil, evs_cons, evD_nil, evD_f, evD_t, evT_nil, evT_cons, evI_seq, evI_rng, evI_enm, elimS, condT, condF, condB, okb, Res.none_bind, Res.bind_assoc, liftS, slot, put, getAny, getVal, List.map_cons, List.map_nil, List.replicate, List.cons_append, List.nil_append, List.append_nil, dr_cell, dr_dP, dr_dI, dr_dL, dr_dW, dr_int, dr_bl, dr_tup, dr_lst, dr_non, dr_str, drs, idxF_lst0, idxF_lst1, idxF_lst2, idxF_tup0, idxF_tup1, idxF_tup2, cmpF_gt, cmpF_le, cmpF_lt, cmpF_ge, cmpF_eq, cmpF_ne, cmpF_in, cmpF_nin, cmpF_eqb, cmpF_neb, inF_dL, inF_lst, inF_tup, truth_bl, truth_int, bindT_nm, bindT_tt, bindT_tl, bindTs_nil, bindTs_nm, seqF_tup, seqF_lst, Option.map_some, Option.map_none, if_true, if_false, Bool.false_eq_true, Nat.reduceAdd, Nat.reduceSub, Nat.reduceEqDiff, Nat.zero_add, binF_add, binF_sub, isi_bool_non, isi_bool_bl, isi_bool_int, isi_bool_str, isi_bool_tup, isi_bool_lst, isi_int_non, isi_int_bl, isi_int_int, isi_int_str, isi_int_tup, isi_int_lst, isi_str_non, isi_str_bl, isi_str_int, isi_str_str, isi_str_tup, isi_str_lst, isi_tuple_non, isi_tuple_bl, isi_tuple_int, isi_tuple_str, isi_tuple_tup, isi_tuple_lst, isi_list_non, isi_list_bl, isi_list_int, isi_list_str, isi_list_tup, isi_list_lst, isi_dict_non, isi_dict_bl, isi_dict_int, isi_dict_str, isi_dict_tup, isi_dict_lst, bnot_bl, Bool.not_true, Bool.not_false, biF_len, biF_list, biF_tuple, biF_sorted, biF_sortedt, biF_all, biF_any, biF_sum, biF_min, biF_max, biF_min2, biF_max2, biF_int, biF_abs, lenF_tup, lenF_lst, szOk0, szOk1, szOk2, szOk3, szOk4, szOk5, szOk6, number_map, Int.cast_ofNat_Int, Int.reduceBEq, Int.reduceBNe, Int.reduceLT, Int.reduceLE, Int.reduceSub, Int.reduceAdd, Int.reduceNeg, decide_true, decide_false, beq_self_eq_true, Int.natCast_zero, Int.natCast_one, c4, c5, c7, decide_true, cmpF_lt_dP, c6]
  · rintro _ ⟨a, b, rfl⟩
    simp only [start, List.length_cons, List.length_nil, exSs_nil, exSs_cons, exS_asg, exS_asgO, exS_par, exS_exp, exS_frz, exS_retv, exS_reto, exS_ite, exS_pass, goOn_nx, goOn_rt, fin_nx, fin_rt, frzF_own, frzF_val, getOwn_own, ev_var, ev_pk, ev_cst, ev_glb, ev_bin, ev_not, ev_neg, negF_int, ev_cmp, ev_cmp2, ev_cmp3, ev_and, ev_or, ev_ite, ev_tup, ev_lst, ev_idx, ev_slc, ev_call0, ev_callk, ev_lrng, ev_bi, ev_isi, evs_nil, evs_cons, evD_nil, evD_f, evD_t, evT_nil, evT_cons, evI_seq, evI_rng, evI_enm, elimS, condT, condF, condB, okb, Res.none_bind, Res.bind_assoc, liftS, slot, put, getAny, getVal, List.map_cons, List.map_nil, List.replicate, List.cons_append, List.nil_append, List.append_nil, dr_cell, dr_dP, dr_dI, dr_dL, dr_dW, dr_int, dr_bl, dr_tup, dr_lst, dr_non, dr_str, drs, idxF_lst0, idxF_lst1, idxF_lst2, idxF_tup0, idxF_tup1, idxF_tup2, cmpF_gt, cmpF_le, cmpF_lt, cmpF_ge, cmpF_eq, cmpF_ne, cmpF_in, cmpF_nin, cmpF_eqb, cmpF_neb, inF_dL, inF_lst, inF_tup, truth_bl, truth_int, bindT_nm, bindT_tt, bindT_tl, bindTs_nil, bindTs_nm, seqF_tup, seqF_lst, Option.map_some, Option.map_none, if_true, if_false, Bool.false_eq_true, Nat.reduceAdd, Nat.reduceSub, Nat.reduceEqDiff, Nat.zero_add, binF_add, binF_sub, isi_bool_non, isi_bool_bl, isi_bool_int, isi_bool_str, isi_bool_tup, isi_bool_lst, isi_int_non, isi_int_bl, isi_int_int, isi_int_str, isi_int_tup, isi_int_lst, isi_str_non, isi_str_bl, isi_str_int, isi_str_str, isi_str_tup, isi_str_lst, isi_tuple_non, isi_tuple_bl, isi_tuple_int, isi_tuple_str, isi_tuple_tup, isi_tuple_lst, isi_list_non, isi_list_bl, isi_list_int, isi_list_str, isi_list_tup, isi_list_lst, isi_dict_non, isi_dict_bl, isi_dict_int, isi_dict_str, isi_dict_tup, isi_dict_lst, bnot_bl, Bool.not_true, Bool.not_false, biF_len, biF_list, biF_tuple, biF_sorted, biF_sortedt, biF_all, biF_any, biF_sum, biF_min, biF_max, biF_min2, biF_max2, biF_int, biF_abs, lenF_tup, lenF_lst, szOk0, szOk1, szOk2, szOk3, szOk4, szOk5, szOk6, number_map, Int.cast_ofNat_Int, Int.reduceBEq, Int.reduceBNe, Int.reduceLT, Int.reduceLE, Int.reduceSub, Int.reduceAdd, Int.reduceNeg, decide_true, decide_false, beq_self_eq_true, Int.natCast_zero, Int.natCast_one]
theorem check_web_s {n : Nat} (h : 6 ≤ n) {m : Nat} {ts : List (Nat × Nat)} (w : WebOk m ts) (s : Stt) : callF T n "check_web" [dW m ts] s = some (.ok .non, s) := by
  rw [callF_run T (m := n - 1) (by omega) fn_check_web _ _ rfl]
  have c1 := fun s => wrong_in_web_s (n := n - 1) (by omega) w s
  simp only [d_check_web, start, List.length_cons, List.length_nil, exSs_nil, exSs_cons, exS_asg, exS_asgO, exS_par, exS_exp, exS_frz, exS_retv, exS_reto, exS_ite, exS_pass, goOn_nx, goOn_rt, fin_nx, fin_rt, frzF_own, frzF_val, getOwn_own, ev_var, ev_pk, ev_cst, ev_glb, ev_bin, ev_not, ev_neg, negF_int, ev_cmp, ev_cmp2, ev_cmp3, ev_and, ev_or, ev_ite, ev_tup, ev_lst, ev_idx, ev_slc, ev_call0, ev_callk, ev_lrng, ev_bi, ev_isi, evs_nil, evs_cons, evD_nil, evD_f, evD_t, evT_nil, evT_cons, evI_seq, evI_rng, evI_enm, elimS, condT, condF, condB, okb, Res.none_bind, Res.bind_assoc, liftS, slot, put, getAny, getVal, List.map_cons, List.map_nil, List.replicate, List.cons_append, List.nil_append, List.append_nil, dr_cell, dr_dP, dr_dI, dr_dL, dr_dW, dr_int, dr_bl, dr_tup, dr_lst, dr_non, dr_str, drs, idxF_lst0, idxF_lst1, idxF_lst2, idxF_tup0, idxF_tup1, idxF_tup2, cmpF_gt, cmpF_le, cmpF_lt, cmpF_ge, cmpF_eq, cmpF_ne, cmpF_in, cmpF_nin, cmpF_eqb, cmpF_neb, inF_dL, inF_lst, inF_tup, truth_bl, truth_int, bindT_nm, bindT_tt, bindT_tl, bindTs_nil, bindTs_nm, seqF_tup, seqF_lst, Option.map_some, Option.map_none, if_true, if_false, Bool.false_eq_true, Nat.reduceAdd, Nat.reduceSub, Nat.reduceEqDiff, Nat.zero_add, binF_add, binF_sub, isi_bool_non, isi_bool_bl, isi_bool_int, isi_bool_str, isi_bool_tup, isi_bool_lst, isi_int_non, isi_int_bl, isi_int_int, isi_int_str, isi_int_tup, isi_int_lst, isi_str_non, isi_str_bl, isi_str_int, isi_str_str, isi_str_tup, isi_str_lst, isi_tuple_non, isi_tuple_bl, isi_tuple_int, isi_tuple_str, isi_tuple_tup, isi_tuple_lst, isi_list_non, isi_list_bl, isi_list_int, isi_list_str, isi_list_tup, isi_list_lst, isi_dict_non, isi_dict_bl, isi_dict_int, isi_dict_str, isi_dict_tup, isi_dict_lst, bnot_bl, Bool.not_true, Bool.not_false, biF_len, biF_list, biF_tuple, biF_sorted, biF_sortedt, biF_all, biF_any, biF_sum, biF_min, biF_max, biF_min2, biF_max2, biF_int, biF_abs, lenF_tup, lenF_lst, szOk0, szOk1, szOk2, szOk3, szOk4, szOk5, szOk6, number_map, Int.cast_ofNat_Int, Int.reduceBEq, Int.reduceBNe, Int.reduceLT, Int.reduceLE, Int.reduceSub, Int.reduceAdd, Int.reduceNeg, decide_true, decide_false, beq_self_eq_true, Int.natCast_zero, Int.natCast_one]
  exact exS_pre _ _ _ (fun x : Nat => dI x) (fun _ env => True) [] (by simp only [start, List.length_cons, List.length_nil, exSs_nil, exSs_cons, exS_asg, exS_asgO, exS_par, exS_exp, exS_frz, exS_retv, exS_reto, exS_ite, exS_pass, goOn_nx, goOn_rt, fin_nx, fin_rt, frzF_own, frzF_val, getOwn_own, ev_var, ev_pk, ev_cst, ev_glb, ev_bin, ev_not, ev_neg, negF_int, ev_cmp, ev_cmp2, ev_cmp3, ev_and, ev_or, ev_ite, ev_tup, ev_lst, ev_idx, ev_slc, ev_call0, ev_callk, ev_lrng, ev_bi, ev_isi, evs_nil, evs_cons, evD_nil, evD_f, evD_t, evT_nil, evT_cons, evI_seq, evI_rng, evI_enm, elimS, condT, condF, condB, okb, Res.none_bind, Res.bind_assoc, liftS, slot, put, getAny, getVal, List.map_cons, List.map_nil, List.replicate, List.cons_append, List.nil_append, List.append_nil, dr_cell, dr_dP, dr_dI, dr_dL, dr_dW, dr_int, dr_bl, dr_tup, dr_lst, dr_non, dr_str, drs, idxF_lst0, idxF_lst1, idxF_lst2, idxF_tup0, idxF_tup1, idxF_tup2, cmpF_gt, cmpF_le, cmpF_lt, cmpF_ge, cmpF_eq, cmpF_ne, cmpF_in, cmpF_nin, cmpF_eqb, cmpF_neb, inF_dL, inF_lst, inF_tup, truth_bl, truth_int, bindT_nm, bindT_tt, bindT_tl, bindTs_nil, bindTs_nm, seqF_tup, seqF_lst, Option.map_some, Option.map_none, if_true, if_false, Bool.false_eq_true, Nat.reduceAdd, Nat.reduceSub, Nat.reduceEqDiff, Nat.zero_add, binF_add, binF_sub, isi_bool_non, isi_bool_bl, isi_bool_int, isi_bool_str, isi_bool_tup, isi_bool_lst, isi_int_non, isi_int_bl, isi_int_int, isi_int_str, isi_int_tup, isi_int_lst, isi_str_non, isi_str_bl, isi_str_int, isi_str_str, isi_str_tup, isi_str_lst, isi_tuple_non, isi_tuple_bl, isi_tuple_int, isi_tuple_str, isi_tuple_tup, isi_tuple_lst, isi_list_non, isi_list_bl, isi_list_int, isi_list_str, isi_list_tup, isi_list_lst, isi_dict_non, isi_dict_bl, isi_dict_int, isi_dict_str, isi_dict_tup, isi_dict_lst, bnot_bl, Bool.not_true, Bool.not_false, biF_len, biF_list, biF_tuple, biF_sorted, biF_sortedt, biF_all, biF_any, biF_sum, biF_min, biF_max, biF_min2, biF_max2, biF_int, biF_abs, lenF_tup, lenF_lst, szOk0, szOk1, szOk2, szOk3, szOk4, szOk5, szOk6, number_map, Int.cast_ofNat_Int, Int.reduceBEq, Int.reduceBNe, Int.reduceLT, Int.reduceLE, Int.reduceSub, Int.reduceAdd, Int.reduceNeg, decide_true, decide_false, beq_self_eq_true, Int.natCast_zero, Int.natCast_one, c1]) (fun pre a post _ e _ => by simp at e) trivial (fun env' _ => by simp only [start, List.length_cons, List.length_nil, exSs_nil, exSs_cons, exS_asg, exS_asgO, exS_par, exS_exp, exS_frz, exS_retv, exS_reto, exS_ite, exS_pass, goOn_nx, goOn_rt, fin_nx, fin_rt, frzF_own, frzF_val, getOwn_own, ev_var, ev_pk, ev_cst, ev_glb, ev_bin, ev_not, ev_neg, negF_int, ev_cmp, ev_cmp2, ev_cmp3, ev_and, ev_or, ev_ite, ev_tup, ev_lst, ev_idx, ev_slc, ev_call0, ev_callk, ev_lrng, ev_bi, ev_isi, evs_nil, evs_cons, evD_nil, evD_f, evD_t, evT_nil, evT_cons, evI_seq, evI_rng, evI_enm, elimS, condT, condF, condB, okb, Res.none_bind, Res.bind_assoc, liftS, slot, put, getAny, getVal, List.map_cons, List.map_nil, List.replicate, List.cons_append, List.nil_append, List.append_nil, dr_cell, dr_dP, dr_dI, dr_dL, dr_dW, dr_int, dr_bl, dr_tup, dr_lst, dr_non, dr_str, drs, idxF_lst0, idxF_lst1, idxF_lst2, idxF_tup0, idxF_tup1, idxF_tup2, cmpF_gt, cmpF_le, cmpF_lt, cmpF_ge, cmpF_eq, cmpF_ne, cmpF_in, cmpF_nin, cmpF_eqb, cmpF_neb, inF_dL, inF_lst, inF_tup, truth_bl, truth_int, bindT_nm, bindT_tt, bindT_tl, bindTs_nil, bindTs_nm, seqF_tup, seqF_lst, Option.map_some, Option.map_none, if_true, if_false, Bool.false_eq_true, Nat.reduceAdd, Nat.reduceSub, Nat.reduceEqDiff, Nat.zero_add, binF_add, binF_sub, isi_bool_non, isi_bool_bl, isi_bool_int, isi_bool_str, isi_bool_tup, isi_bool_lst, isi_int_non, isi_int_bl, isi_int_int, isi_int_str, isi_int_tup, isi_int_lst, isi_str_non, isi_str_bl, isi_str_int, isi_str_str, isi_str_tup, isi_str_lst, isi_tuple_non, isi_tuple_bl, isi_tuple_int, isi_tuple_str, isi_tuple_tup, isi_tuple_lst, isi_list_non, isi_list_bl, isi_list_int, isi_list_str, isi_list_tup, isi_list_lst, isi_dict_non, isi_dict_bl, isi_dict_int, isi_dict_str, isi_dict_tup, isi_dict_lst, bnot_bl, Bool.not_true, Bool.not_false, biF_len, biF_list, biF_tuple, biF_sorted, biF_sortedt, biF_all, biF_any, biF_sum, biF_min, biF_max, biF_min2, biF_max2, biF_int, biF_abs, lenF_tup, lenF_lst, szOk0, szOk1, szOk2, szOk3, szOk4, szOk5, szOk6, number_map, Int.cast_ofNat_Int, Int.reduceBEq, Int.reduceBNe, Int.reduceLT, Int.reduceLE, Int.reduceSub, Int.reduceAdd, Int.reduceNeg, decide_true, decide_false, beq_self_eq_true, Int.natCast_zero, Int.natCast_one])
theorem check_place_s {n : Nat} (h : 4 ≤ n) {m x : Nat} {y : D} (hx : x < m) (s : Stt) : callF T n "check_place" [.tup [.int m, y], .int x] s = some (.ok .non, s) := by
  rw [callF_run T (m := n - 1) (by omega) fn_check_place _ _ rfl]
  have c1 := fun s => is_place_s (n := n - 1) (by omega) hx s
  simp only [d_check_place, start, List.length_cons, List.length_nil, exSs_nil, exSs_cons, exS_asg, exS_asgO, exS_par, exS_exp, exS_frz, exS_retv, exS_reto, exS_ite, exS_pass, goOn_nx, goOn_rt, fin_nx, fin_rt, frzF_own, frzF_val, getOwn_own, ev_var, ev_pk, ev_cst, ev_glb, ev_bin, ev_not, ev_neg, negF_int, ev_cmp, ev_cmp2, ev_cmp3, ev_and, ev_or, ev_ite, ev_tup, ev_lst, ev_idx, ev_slc, ev_call0, ev_callk, ev_lrng, ev_bi, ev_isi, evs_nil, evs_cons, evD_nil, evD_f, evD_t, evT_nil, evT_cons, evI_seq, evI_rng, evI_enm, elimS, condT, condF, condB, okb, Res.none_bind, Res.bind_assoc, liftS, slot, put, getAny, getVal, List.map_cons, List.map_nil, List.replicate, List.cons_append, List.nil_append, List.append_nil, dr_cell, dr_dP, dr_dI, dr_dL, dr_dW, dr_int, dr_bl, dr_tup, dr_lst, dr_non, dr_str, drs, idxF_lst0, idxF_lst1, idxF_lst2, idxF_tup0, idxF_tup1, idxF_tup2, cmpF_gt, cmpF_le, cmpF_lt, cmpF_ge, cmpF_eq, cmpF_ne, cmpF_in, cmpF_nin, cmpF_eqb, cmpF_neb, inF_dL, inF_lst, inF_tup, truth_bl, truth_int, bindT_nm, bindT_tt, bindT_tl, bindTs_nil, bindTs_nm, seqF_tup, seqF_lst, Option.map_some, Option.map_none, if_true, if_false, Bool.false_eq_true, Nat.reduceAdd, Nat.reduceSub, Nat.reduceEqDiff, Nat.zero_add, binF_add, binF_sub, isi_bool_non, isi_bool_bl, isi_bool_int, isi_bool_str, isi_bool_tup, isi_bool_lst, isi_int_non, isi_int_bl, isi_int_int, isi_int_str, isi_int_tup, isi_int_lst, isi_str_non, isi_str_bl, isi_str_int, isi_str_str, isi_str_tup, isi_str_lst, isi_tuple_non, isi_tuple_bl, isi_tuple_int, isi_tuple_str, isi_tuple_tup, isi_tuple_lst, isi_list_non, isi_list_bl, isi_list_int, isi_list_str, isi_list_tup, isi_list_lst, isi_dict_non, isi_dict_bl, isi_dict_int, isi_dict_str, isi_dict_tup, isi_dict_lst, bnot_bl, Bool.not_true, Bool.not_false, biF_len, biF_list, biF_tuple, biF_sorted, biF_sortedt, biF_all, biF_any, biF_sum, biF_min, biF_max, biF_min2, biF_max2, biF_int, biF_abs, lenF_tup, lenF_lst, szOk0, szOk1, szOk2, szOk3, szOk4, szOk5, szOk6, number_map, Int.cast_ofNat_Int, Int.reduceBEq, Int.reduceBNe, Int.reduceLT, Int.reduceLE, Int.reduceSub, Int.reduceAdd, Int.reduceNeg, decide_true, decide_false, beq_self_eq_true, Int.natCast_zero, Int.natCast_one, c1]
theorem check_two_s {n : Nat} (h : 5 ≤ n) {m x z : Nat} {y : D} (hx : x < m) (hz : z < m) (ne : x ≠ z) (s : Stt) : callF T n "check_two" [.tup [.int m, y], .int x, .int z] s = some (.ok .non, s) := by
  rw [callF_run T (m := n - 1) (by omega) fn_check_two _ _ rfl]
  have c1 := fun s => check_place_s (n := n - 1) (by omega) (y := y) hx s
  have c2 := fun s => check_place_s (n := n - 1) (by omega) (y := y) hz s
  have c3 : ((x : Int) == (z : Int)) = false := by rw [beq_eq_false_iff_ne]; omega
  simp only [d_check_two, start, List.length_cons, List.length_nil, exSs_nil, exSs_cons, exS_asg, exS_asgO, exS_par, exS_exp, exS_frz, exS_retv, exS_reto, exS_ite, exS_pass, goOn_nx, goOn_rt, fin_nx, fin_rt, frzF_own, frzF_val, getOwn_own, ev_var, ev_pk, ev_cst, ev_glb, ev_bin, ev_not, ev_neg, negF_int, ev_cmp, ev_cmp2, ev_cmp3, ev_and, ev_or, ev_ite, ev_tup, ev_lst, ev_idx, ev_slc, ev_call0, ev_callk, ev_lrng, ev_bi, ev_isi, evs_nil, evs_cons, evD_nil, evD_f, evD_t, evT_nil, evT_cons, evI_seq, evI_rng, evI_enm, elimS, condT, condF, condB, okb, Res.none_bind, Res.bind_assoc, liftS, slot, put, getAny, getVal, List.map_cons, List.map_nil, List.replicate, List.cons_append, List.nil_append, List.append_nil, dr_cell, dr_dP, dr_dI, dr_dL, dr_dW, dr_int, dr_bl, dr_tup, dr_lst, dr_non, dr_str, drs, idxF_lst0, idxF_lst1, idxF_lst2, idxF_tup0, idxF_tup1, idxF_tup2, cmpF_gt, cmpF_le, cmpF_lt, cmpF_ge, cmpF_eq, cmpF_ne, cmpF_in, cmpF_nin, cmpF_eqb, cmpF_neb, inF_dL, inF_lst, inF_tup, truth_bl, truth_int, bindT_nm, bindT_tt, bindT_tl, bindTs_nil, bindTs_nm, seqF_tup, seqF_lst, Option.map_some, Option.map_none, if_true, if_false, Bool.false_eq_true, Nat.reduceAdd, Nat.reduceSub, Nat.reduceEqDiff, Nat.zero_add, binF_add, binF_sub, isi_bool_non, isi_bool_bl, isi_bool_int, isi_bool_str, isi_bool_tup, isi_bool_lst, isi_int_non, isi_int_bl, isi_int_int, isi_int_str, isi_int_tup, isi_int_lst, isi_str_non, isi_str_bl, isi_str_int, isi_str_str, isi_str_tup, isi_str_lst, isi_tuple_non, isi_tuple_bl, isi_tuple_int, isi_tuple_str, isi_tuple_tup, isi_tuple_lst, isi_list_non, isi_list_bl, isi_list_int, isi_list_str, isi_list_tup, isi_list_lst, isi_dict_non, isi_dict_bl, isi_dict_int, isi_dict_str, isi_dict_tup, isi_dict_lst, bnot_bl, Bool.not_true, Bool.not_false, biF_len, biF_list, biF_tuple, biF_sorted, biF_sortedt, biF_all, biF_any, biF_sum, biF_min, biF_max, biF_min2, biF_max2, biF_int, biF_abs, lenF_tup, lenF_lst, szOk0, szOk1, szOk2, szOk3, szOk4, szOk5, szOk6, number_map, Int.cast_ofNat_Int, Int.reduceBEq, Int.reduceBNe, Int.reduceLT, Int.reduceLE, Int.reduceSub, Int.reduceAdd, Int.reduceNeg, decide_true, decide_false, beq_self_eq_true, Int.natCast_zero, Int.natCast_one, c1, c2, c3]
theorem all_numbers_s {n : Nat} (h : 1 ≤ n) {m : Nat} (hm : m ≤ 1000) (s : Stt) : callF T n "all_numbers" [.int m] s = some (.ok (.lst ((List.range m).map dI)), s) := by
  rw [callF_run T (m := n - 1) (by omega) fn_all_numbers _ _ rfl]
  have c2 := rngF1' hm
  simp only [d_all_numbers, start, List.length_cons, List.length_nil, exSs_nil, exSs_cons, exS_asg, exS_asgO, exS_par, exS_exp, exS_frz, exS_retv, exS_reto, exS_ite, exS_pass, goOn_nx, goOn_rt, fin_nx, fin_rt, frzF_own, frzF_val, getOwn_own, ev_var, ev_pk, ev_cst, ev_glb, ev_bin, ev_not, ev_neg, negF_int, ev_cmp, ev_cmp2, ev_cmp3, ev_and, ev_or, ev_ite, ev_tup, ev_lst, ev_idx, ev_slc, ev_call0, ev_callk, ev_lrng, ev_bi, ev_isi, evs_nil, evs_cons, evD_nil, evD_f, evD_t, evT_nil, evT_cons, evI_seq, evI_rng, evI_enm, elimS, condT, condF, condB, okb, Res.none_bind, Res.bind_assoc, liftS, slot, put, getAny, getVal, List.map_cons, List.map_nil, List.replicate, List.cons_append, List.nil_append, List.append_nil, dr_cell, dr_dP, dr_dI, dr_dL, dr_dW, dr_int, dr_bl, dr_tup, dr_lst, dr_non, dr_str, drs, idxF_lst0, idxF_lst1, idxF_lst2, idxF_tup0, idxF_tup1, idxF_tup2, cmpF_gt, cmpF_le, cmpF_lt, cmpF_ge, cmpF_eq, cmpF_ne, cmpF_in, cmpF_nin, cmpF_eqb, cmpF_neb, inF_dL, inF_lst, inF_tup, truth_bl, truth_int, bindT_nm, bindT_tt, bindT_tl, bindTs_nil, bindTs_nm, seqF_tup, seqF_lst, Option.map_some, Option.map_none, if_true, if_false, Bool.false_eq_true, Nat.reduceAdd, Nat.reduceSub, Nat.reduceEqDiff, Nat.zero_add, binF_add, binF_sub, isi_bool_non, isi_bool_bl, isi_bool_int, isi_bool_str, isi_bool_tup, isi_bool_lst, isi_int_non, isi_int_bl, isi_int_int, isi_int_str, isi_int_tup, isi_int_lst, isi_str_non, isi_str_bl, isi_str_int, isi_str_str, isi_str_tup, isi_str_lst, isi_tuple_non, isi_tuple_bl, isi_tuple_int, isi_tuple_str, isi_tuple_tup, isi_tuple_lst, isi_list_non, isi_list_bl, isi_list_int, isi_list_str, isi_list_tup, isi_list_lst, isi_dict_non, isi_dict_bl, isi_dict_int, isi_dict_str, isi_dict_tup, isi_dict_lst, bnot_bl, Bool.not_true, Bool.not_false, biF_len, biF_list, biF_tuple, biF_sorted, biF_sortedt, biF_all, biF_any, biF_sum, biF_min, biF_max, biF_min2, biF_max2, biF_int, biF_abs, lenF_tup, lenF_lst, szOk0, szOk1, szOk2, szOk3, szOk4, szOk5, szOk6, number_map, Int.cast_ofNat_Int, Int.reduceBEq, Int.reduceBNe, Int.reduceLT, Int.reduceLE, Int.reduceSub, Int.reduceAdd, Int.reduceNeg, decide_true, decide_false, beq_self_eq_true, Int.natCast_zero, Int.natCast_one, c2, List.length_map, szRange hm]
  rfl
end PyD.K42

namespace PyD.K42
open PySem PyD
theorem zipIdx_filter {α : Type} (q : α → Bool) : ∀ (xs : List α) (k : Nat), ((xs.zipIdx k).filter fun p => q p.1).length = (xs.filter q).length
  | [], _ => rfl
  | x :: xs, k => by
    rw [List.zipIdx_cons, List.filter_cons, List.filter_cons]
    split <;> simp_all [zipIdx_filter q xs (k + 1)]
theorem lots_dbl (m : Nat) : dbl [[]] (List.range m) = lots m := by
  induction m with
  | zero => rfl
  | succ m ih =>
    unfold dbl at ih ⊢
    rw [List.range_succ, List.foldl_append, ih]
    rfl
theorem dbl_snoc (R : List (List Nat)) (pre : List Nat) (a : Nat) : dbl R (pre ++ [a]) = dbl R pre ++ (dbl R pre).map fun r => r ++ [a] := by
  unfold dbl
  rw [List.foldl_append]
  rfl
theorem dL_snoc (l : List Nat) (a : Nat) : dL (l ++ [a]) = .tup (l.map dI ++ [.int a]) := by
  show D.tup ((l ++ [a]).map dI) = _
  rw [List.map_append]
  rfl
theorem pre_le {α : Type} {xs pre post : List α} {a : α} (e : xs = pre ++ a :: post) : pre.length + 1 ≤ xs.length := by
  rw [e, List.length_append, List.length_cons]
  omega
theorem szPow {k n : Nat} (h : k ≤ n) (hn : n ≤ 16) {c : Nat} (hc : c ≤ 256) : c * 2 ^ k ≤ 16777216 := by
  have h1 : 2 ^ k ≤ 2 ^ 16 := Nat.pow_le_pow_right (by decide) (Nat.le_trans h hn)
  calc c * 2 ^ k ≤ 256 * 2 ^ 16 := Nat.mul_le_mul hc h1
    _ = 16777216 := by decide
def enS (l : List Nat) : D := .tup [.int l.length, dL l]
theorem okD_enS (l : List Nat) : okD (enS l) = true := by
  show ([D.int l.length, dL l].all (D.okN 19)) = true
  rw [List.all_cons, List.all_cons, List.all_nil]
  have h1 : D.okN 19 (.int l.length) = true := rfl
  have h2 : D.okN 19 (dL l) = true := okN_ints 17 l
  rw [h1, h2]
  rfl
theorem like_enS (l k : List Nat) : D.like (enS l) (enS k) = true := by
  show (true && (likeAll (l.map dI) (k.map dI) && true)) = true
  rw [likeAll_ints]
  rfl
theorem all_lots_s {n : Nat} (h : 2 ≤ n) {m : Nat} (hm : m ≤ 16) : ∃ ls : List (List Nat), ls.Perm (lots m) ∧ ∀ s, callF T n "all_lots" [.int m] s = some (.ok (.lst (ls.map dL)), s) := by
  obtain ⟨ls, h1, h2, h3⟩ := sortF_map enS (lots m) (fun l _ => okD_enS l) (fun l k _ _ => like_enS l k)
  refine ⟨ls, h1, fun s => ?_⟩
  have c1 := fun s => all_numbers_s (n := n - 1) (by omega) (m := m) (by omega) s
  rw [callF_run T (m := n - 1) (by omega) fn_all_lots _ _ rfl]
  simp only [d_all_lots, start, List.length_cons, List.length_nil, exSs_nil, exSs_cons, exS_asg, exS_asgO, exS_par, exS_exp, exS_frz, exS_retv, exS_reto, exS_ite, exS_pass, goOn_nx, goOn_rt, fin_nx, fin_rt, frzF_own, frzF_val, getOwn_own, ev_var, ev_pk, ev_cst, ev_glb, ev_bin, ev_not, ev_neg, negF_int, ev_cmp, ev_cmp2, ev_cmp3, ev_and, ev_or, ev_ite, ev_tup, ev_lst, ev_idx, ev_slc, ev_call0, ev_callk, ev_lrng, ev_bi, ev_isi, evs_nil, evs_cons, evD_nil, evD_f, evD_t, evT_nil, evT_cons, evI_seq, evI_rng, evI_enm, elimS, condT, condF, condB, okb, Res.none_bind, Res.bind_assoc, liftS, slot, put, getAny, getVal, List.map_cons, List.map_nil, List.replicate, List.cons_append, List.nil_append, List.append_nil, dr_cell, dr_dP, dr_dI, dr_dL, dr_dW, dr_int, dr_bl, dr_tup, dr_lst, dr_non, dr_str, drs, idxF_lst0, idxF_lst1, idxF_lst2, idxF_tup0, idxF_tup1, idxF_tup2, cmpF_gt, cmpF_le, cmpF_lt, cmpF_ge, cmpF_eq, cmpF_ne, cmpF_in, cmpF_nin, cmpF_eqb, cmpF_neb, inF_dL, inF_lst, inF_tup, truth_bl, truth_int, bindT_nm, bindT_tt, bindT_tl, bindTs_nil, bindTs_nm, seqF_tup, seqF_lst, Option.map_some, Option.map_none, if_true, if_false, Bool.false_eq_true, Nat.reduceAdd, Nat.reduceSub, Nat.reduceEqDiff, Nat.zero_add, binF_add, binF_sub, isi_bool_non, isi_bool_bl, isi_bool_int, isi_bool_str, isi_bool_tup, isi_bool_lst, isi_int_non, isi_int_bl, isi_int_int, isi_int_str, isi_int_tup, isi_int_lst, isi_str_non, isi_str_bl, isi_str_int, isi_str_str, isi_str_tup, isi_str_lst, isi_tuple_non, isi_tuple_bl, isi_tuple_int, isi_tuple_str, isi_tuple_tup, isi_tuple_lst, isi_list_non, isi_list_bl, isi_list_int, isi_list_str, isi_list_tup, isi_list_lst, isi_dict_non, isi_dict_bl, isi_dict_int, isi_dict_str, isi_dict_tup, isi_dict_lst, bnot_bl, Bool.not_true, Bool.not_false, biF_len, biF_list, biF_tuple, biF_sorted, biF_sortedt, biF_all, biF_any, biF_sum, biF_min, biF_max, biF_min2, biF_max2, biF_int, biF_abs, lenF_tup, lenF_lst, szOk0, szOk1, szOk2, szOk3, szOk4, szOk5, szOk6, number_map, Int.cast_ofNat_Int, Int.reduceBEq, Int.reduceBNe, Int.reduceLT, Int.reduceLE, Int.reduceSub, Int.reduceAdd, Int.reduceNeg, decide_true, decide_false, beq_self_eq_true, Int.natCast_zero, Int.natCast_one, c1]
  refine exS_pre _ _ _ dI (fun pre env => ∃ a b c, env = [Slot.val (.int m), .val (.lst ((dbl [[]] pre).map dL)), a, b, c]) (List.range m) (by simp only [start, List.length_cons, List.length_nil, exSs_nil, exSs_cons, exS_asg, exS_asgO, exS_par, exS_exp, exS_frz, exS_retv, exS_reto, exS_ite, exS_pass, goOn_nx, goOn_rt, fin_nx, fin_rt, frzF_own, frzF_val, getOwn_own, ev_var, ev_pk, ev_cst, ev_glb, ev_bin, ev_not, ev_neg, negF_int, ev_cmp, ev_cmp2, ev_cmp3, ev_and, ev_or, ev_ite, ev_tup, ev_lst, ev_idx, ev_slc, ev_call0, ev_callk, ev_lrng, ev_bi, ev_isi, evs_nil, evs_cons, evD_nil, evD_f, evD_t, evT_nil, evT_cons, evI_seq, evI_rng, evI_enm, elimS, condT, condF, condB, okb, Res.none_bind, Res.bind_assoc, liftS, slot, put, getAny, getVal, List.map_cons, List.map_nil, List.replicate, List.cons_append, List.nil_append, List.append_nil, dr_cell, dr_dP, dr_dI, dr_dL, dr_dW, dr_int, dr_bl, dr_tup, dr_lst, dr_non, dr_str, drs, idxF_lst0, idxF_lst1, idxF_lst2, idxF_tup0, idxF_tup1, idxF_tup2, cmpF_gt, cmpF_le, cmpF_lt, cmpF_ge, cmpF_eq, cmpF_ne, cmpF_in, cmpF_nin, cmpF_eqb, cmpF_neb, inF_dL, inF_lst, inF_tup, truth_bl, truth_int, bindT_nm, bindT_tt, bindT_tl, bindTs_nil, bindTs_nm, seqF_tup, seqF_lst, Option.map_some, Option.map_none, if_true, if_false, Bool.false_eq_true, Nat.reduceAdd, Nat.reduceSub, Nat.reduceEqDiff, Nat.zero_add, binF_add, binF_sub, isi_bool_non, isi_bool_bl, isi_bool_int, isi_bool_str, isi_bool_tup, isi_bool_lst, isi_int_non, isi_int_bl, isi_int_int, isi_int_str, isi_int_tup, isi_int_lst, isi_str_non, isi_str_bl, isi_str_int, isi_str_str, isi_str_tup, isi_str_lst, isi_tuple_non, isi_tuple_bl, isi_tuple_int, isi_tuple_str, isi_tuple_tup, isi_tuple_lst, isi_list_non, isi_list_bl, isi_list_int, isi_list_str, isi_list_tup, isi_list_lst, isi_dict_non, isi_dict_bl, isi_dict_int, isi_dict_str, isi_dict_tup, isi_dict_lst, bnot_bl, Bool.not_true, Bool.not_false, biF_len, biF_list, biF_tuple, biF_sorted, biF_sortedt, biF_all, biF_any, biF_sum, biF_min, biF_max, biF_min2, biF_max2, biF_int, biF_abs, lenF_tup, lenF_lst, szOk0, szOk1, szOk2, szOk3, szOk4, szOk5, szOk6, number_map, Int.cast_ofNat_Int, Int.reduceBEq, Int.reduceBNe, Int.reduceLT, Int.reduceLE, Int.reduceSub, Int.reduceAdd, Int.reduceNeg, decide_true, decide_false, beq_self_eq_true, Int.natCast_zero, Int.natCast_one, c1]) ?_ ⟨_, _, _, rfl⟩ ?_
  · rintro pre a post _ e ⟨x, y, z, rfl⟩
    have hl := pre_le e
    rw [List.length_range] at hl
    have hd : (dbl [[]] pre).length = 2 ^ pre.length := by rw [dbl_length]; simp
    have hp : 2 ^ pre.length ≤ 16777216 := by have := szPow (k := pre.length) (n := m) (c := 1) (by omega) hm (by decide); omega
    have hp2 : 2 ^ pre.length + 2 ^ pre.length ≤ 16777216 := by have := szPow (k := pre.length) (n := m) (c := 2) (by omega) hm (by decide); omega
    have k1 : ∀ s, ev ⟨callF T (n - 1), T.gl, T.wf⟩ (.comp (.tup [(true, .var 4), (false, .var 2)]) (.nm 4) (.seq (.pk 1)) []) [Slot.val (.int m), .val (.lst ((dbl [[]] pre).map dL)), .val (dI a), y, z] s = some (.ok (.lst ((dbl [[]] pre).map fun r => dL (r ++ [a]))), s) := fun s => by
      refine ev_comp0 _ _ _ dL _ _ (by simp only [start, List.length_cons, List.length_nil, exSs_nil, exSs_cons, exS_asg, exS_asgO, exS_par, exS_exp, exS_frz, exS_retv, exS_reto, exS_ite, exS_pass, goOn_nx, goOn_rt, fin_nx, fin_rt, frzF_own, frzF_val, getOwn_own, ev_var, ev_pk, ev_cst, ev_glb, ev_bin, ev_not, ev_neg, negF_int, ev_cmp, ev_cmp2, ev_cmp3, ev_and, ev_or, ev_ite, ev_tup, ev_lst, ev_idx, ev_slc, ev_call0, ev_callk, ev_lrng, ev_bi, ev_isi, evs_nil, evs_cons, evD_nil, evD_f, evD_t, evT_nil, evT_cons, evI_seq, evI_rng, evI_enm, elimS, condT, condF, condB, okb, Res.none_bind, Res.bind_assoc, liftS, slot, put, getAny, getVal, List.map_cons, List.map_nil, List.replicate, List.cons_append, List.nil_append, List.append_nil, dr_cell, dr_dP, dr_dI, dr_dL, dr_dW, dr_int, dr_bl, dr_tup, dr_lst, dr_non, dr_str, drs, idxF_lst0, idxF_lst1, idxF_lst2, idxF_tup0, idxF_tup1, idxF_tup2, cmpF_gt, cmpF_le, cmpF_lt, cmpF_ge, cmpF_eq, cmpF_ne, cmpF_in, cmpF_nin, cmpF_eqb, cmpF_neb, inF_dL, inF_lst, inF_tup, truth_bl, truth_int, bindT_nm, bindT_tt, bindT_tl, bindTs_nil, bindTs_nm, seqF_tup, seqF_lst, Option.map_some, Option.map_none, if_true, if_false, Bool.false_eq_true, Nat.reduceAdd, Nat.reduceSub, Nat.reduceEqDiff, Nat.zero_add, binF_add, binF_sub, isi_bool_non, isi_bool_bl, isi_bool_int, isi_bool_str, isi_bool_tup, isi_bool_lst, isi_int_non, isi_int_bl, isi_int_int, isi_int_str, isi_int_tup, isi_int_lst, isi_str_non, isi_str_bl, isi_str_int, isi_str_str, isi_str_tup, isi_str_lst, isi_tuple_non, isi_tuple_bl, isi_tuple_int, isi_tuple_str, isi_tuple_tup, isi_tuple_lst, isi_list_non, isi_list_bl, isi_list_int, isi_list_str, isi_list_tup, isi_list_lst, isi_dict_non, isi_dict_bl, isi_dict_int, isi_dict_str, isi_dict_tup, isi_dict_lst, bnot_bl, Bool.not_true, Bool.not_false, biF_len, biF_list, biF_tuple, biF_sorted, biF_sortedt, biF_all, biF_any, biF_sum, biF_min, biF_max, biF_min2, biF_max2, biF_int, biF_abs, lenF_tup, lenF_lst, szOk0, szOk1, szOk2, szOk3, szOk4, szOk5, szOk6, number_map, Int.cast_ofNat_Int, Int.reduceBEq, Int.reduceBNe, Int.reduceLT, Int.reduceLE, Int.reduceSub, Int.reduceAdd, Int.reduceNeg, decide_true, decide_false, beq_self_eq_true, Int.natCast_zero, Int.natCast_one]) (fun r hr => ⟨_, rfl, ?_⟩) (szOk_le' (by omega))
      have hr : r.length ≤ 16 := by
        obtain ⟨q, k, hq, rfl, hk⟩ := dbl_in _ _ _ hr
        rw [List.mem_singleton.mp hq, List.nil_append]
        have := hk.length_le
        omega
      have z1 : szOk (r.map dI ++ [dI a]).length = true := szOk_le' (by simp; omega)
      simp only [dL_snoc, start, List.length_cons, List.length_nil, exSs_nil, exSs_cons, exS_asg, exS_asgO, exS_par, exS_exp, exS_frz, exS_retv, exS_reto, exS_ite, exS_pass, goOn_nx, goOn_rt, fin_nx, fin_rt, frzF_own, frzF_val, getOwn_own, ev_var, ev_pk, ev_cst, ev_glb, ev_bin, ev_not, ev_neg, negF_int, ev_cmp, ev_cmp2, ev_cmp3, ev_and, ev_or, ev_ite, ev_tup, ev_lst, ev_idx, ev_slc, ev_call0, ev_callk, ev_lrng, ev_bi, ev_isi, evs_nil, evs_cons, evD_nil, evD_f, evD_t, evT_nil, evT_cons, evI_seq, evI_rng, evI_enm, elimS, condT, condF, condB, okb, Res.none_bind, Res.bind_assoc, liftS, slot, put, getAny, getVal, List.map_cons, List.map_nil, List.replicate, List.cons_append, List.nil_append, List.append_nil, dr_cell, dr_dP, dr_dI, dr_dL, dr_dW, dr_int, dr_bl, dr_tup, dr_lst, dr_non, dr_str, drs, idxF_lst0, idxF_lst1, idxF_lst2, idxF_tup0, idxF_tup1, idxF_tup2, cmpF_gt, cmpF_le, cmpF_lt, cmpF_ge, cmpF_eq, cmpF_ne, cmpF_in, cmpF_nin, cmpF_eqb, cmpF_neb, inF_dL, inF_lst, inF_tup, truth_bl, truth_int, bindT_nm, bindT_tt, bindT_tl, bindTs_nil, bindTs_nm, seqF_tup, seqF_lst, Option.map_some, Option.map_none, if_true, if_false, Bool.false_eq_true, Nat.reduceAdd, Nat.reduceSub, Nat.reduceEqDiff, Nat.zero_add, binF_add, binF_sub, isi_bool_non, isi_bool_bl, isi_bool_int, isi_bool_str, isi_bool_tup, isi_bool_lst, isi_int_non, isi_int_bl, isi_int_int, isi_int_str, isi_int_tup, isi_int_lst, isi_str_non, isi_str_bl, isi_str_int, isi_str_str, isi_str_tup, isi_str_lst, isi_tuple_non, isi_tuple_bl, isi_tuple_int, isi_tuple_str, isi_tuple_tup, isi_tuple_lst, isi_list_non, isi_list_bl, isi_list_int, isi_list_str, isi_list_tup, isi_list_lst, isi_dict_non, isi_dict_bl, isi_dict_int, isi_dict_str, isi_dict_tup, isi_dict_lst, bnot_bl, Bool.not_true, Bool.not_false, biF_len, biF_list, biF_tuple, biF_sorted, biF_sortedt, biF_all, biF_any, biF_sum, biF_min, biF_max, biF_min2, biF_max2, biF_int, biF_abs, lenF_tup, lenF_lst, szOk0, szOk1, szOk2, szOk3, szOk4, szOk5, szOk6, number_map, Int.cast_ofNat_Int, Int.reduceBEq, Int.reduceBNe, Int.reduceLT, Int.reduceLE, Int.reduceSub, Int.reduceAdd, Int.reduceNeg, decide_true, decide_false, beq_self_eq_true, Int.natCast_zero, Int.natCast_one]
      simp only [dL, start, List.length_cons, List.length_nil, exSs_nil, exSs_cons, exS_asg, exS_asgO, exS_par, exS_exp, exS_frz, exS_retv, exS_reto, exS_ite, exS_pass, goOn_nx, goOn_rt, fin_nx, fin_rt, frzF_own, frzF_val, getOwn_own, ev_var, ev_pk, ev_cst, ev_glb, ev_bin, ev_not, ev_neg, negF_int, ev_cmp, ev_cmp2, ev_cmp3, ev_and, ev_or, ev_ite, ev_tup, ev_lst, ev_idx, ev_slc, ev_call0, ev_callk, ev_lrng, ev_bi, ev_isi, evs_nil, evs_cons, evD_nil, evD_f, evD_t, evT_nil, evT_cons, evI_seq, evI_rng, evI_enm, elimS, condT, condF, condB, okb, Res.none_bind, Res.bind_assoc, liftS, slot, put, getAny, getVal, List.map_cons, List.map_nil, List.replicate, List.cons_append, List.nil_append, List.append_nil, dr_cell, dr_dP, dr_dI, dr_dL, dr_dW, dr_int, dr_bl, dr_tup, dr_lst, dr_non, dr_str, drs, idxF_lst0, idxF_lst1, idxF_lst2, idxF_tup0, idxF_tup1, idxF_tup2, cmpF_gt, cmpF_le, cmpF_lt, cmpF_ge, cmpF_eq, cmpF_ne, cmpF_in, cmpF_nin, cmpF_eqb, cmpF_neb, inF_dL, inF_lst, inF_tup, truth_bl, truth_int, bindT_nm, bindT_tt, bindT_tl, bindTs_nil, bindTs_nm, seqF_tup, seqF_lst, Option.map_some, Option.map_none, if_true, if_false, Bool.false_eq_true, Nat.reduceAdd, Nat.reduceSub, Nat.reduceEqDiff, Nat.zero_add, binF_add, binF_sub, isi_bool_non, isi_bool_bl, isi_bool_int, isi_bool_str, isi_bool_tup, isi_bool_lst, isi_int_non, isi_int_bl, isi_int_int, isi_int_str, isi_int_tup, isi_int_lst, isi_str_non, isi_str_bl, isi_str_int, isi_str_str, isi_str_tup, isi_str_lst, isi_tuple_non, isi_tuple_bl, isi_tuple_int, isi_tuple_str, isi_tuple_tup, isi_tuple_lst, isi_list_non, isi_list_bl, isi_list_int, isi_list_str, isi_list_tup, isi_list_lst, isi_dict_non, isi_dict_bl, isi_dict_int, isi_dict_str, isi_dict_tup, isi_dict_lst, bnot_bl, Bool.not_true, Bool.not_false, biF_len, biF_list, biF_tuple, biF_sorted, biF_sortedt, biF_all, biF_any, biF_sum, biF_min, biF_max, biF_min2, biF_max2, biF_int, biF_abs, lenF_tup, lenF_lst, szOk0, szOk1, szOk2, szOk3, szOk4, szOk5, szOk6, number_map, Int.cast_ofNat_Int, Int.reduceBEq, Int.reduceBNe, Int.reduceLT, Int.reduceLE, Int.reduceSub, Int.reduceAdd, Int.reduceNeg, decide_true, decide_false, beq_self_eq_true, Int.natCast_zero, Int.natCast_one, z1]
      rfl
    refine ⟨_, _, rfl, ?_, .val (dI a), y, z, rfl⟩
    have z2 : szOk (((dbl [[]] pre).map dL).length + ((dbl [[]] pre).map fun r => dL (r ++ [a])).length) = true := szOk_le' (by simp only [List.length_map]; omega)
    simp only [start, List.length_cons, List.length_nil, exSs_nil, exSs_cons, exS_asg, exS_asgO, exS_par, exS_exp, exS_frz, exS_retv, exS_reto, exS_ite, exS_pass, goOn_nx, goOn_rt, fin_nx, fin_rt, frzF_own, frzF_val, getOwn_own, ev_var, ev_pk, ev_cst, ev_glb, ev_bin, ev_not, ev_neg, negF_int, ev_cmp, ev_cmp2, ev_cmp3, ev_and, ev_or, ev_ite, ev_tup, ev_lst, ev_idx, ev_slc, ev_call0, ev_callk, ev_lrng, ev_bi, ev_isi, evs_nil, evs_cons, evD_nil, evD_f, evD_t, evT_nil, evT_cons, evI_seq, evI_rng, evI_enm, elimS, condT, condF, condB, okb, Res.none_bind, Res.bind_assoc, liftS, slot, put, getAny, getVal, List.map_cons, List.map_nil, List.replicate, List.cons_append, List.nil_append, List.append_nil, dr_cell, dr_dP, dr_dI, dr_dL, dr_dW, dr_int, dr_bl, dr_tup, dr_lst, dr_non, dr_str, drs, idxF_lst0, idxF_lst1, idxF_lst2, idxF_tup0, idxF_tup1, idxF_tup2, cmpF_gt, cmpF_le, cmpF_lt, cmpF_ge, cmpF_eq, cmpF_ne, cmpF_in, cmpF_nin, cmpF_eqb, cmpF_neb, inF_dL, inF_lst, inF_tup, truth_bl, truth_int, bindT_nm, bindT_tt, bindT_tl, bindTs_nil, bindTs_nm, seqF_tup, seqF_lst, Option.map_some, Option.map_none, if_true, if_false, Bool.false_eq_true, Nat.reduceAdd, Nat.reduceSub, Nat.reduceEqDiff, Nat.zero_add, binF_add, binF_sub, isi_bool_non, isi_bool_bl, isi_bool_int, isi_bool_str, isi_bool_tup, isi_bool_lst, isi_int_non, isi_int_bl, isi_int_int, isi_int_str, isi_int_tup, isi_int_lst, isi_str_non, isi_str_bl, isi_str_int, isi_str_str, isi_str_tup, isi_str_lst, isi_tuple_non, isi_tuple_bl, isi_tuple_int, isi_tuple_str, isi_tuple_tup, isi_tuple_lst, isi_list_non, isi_list_bl, isi_list_int, isi_list_str, isi_list_tup, isi_list_lst, isi_dict_non, isi_dict_bl, isi_dict_int, isi_dict_str, isi_dict_tup, isi_dict_lst, bnot_bl, Bool.not_true, Bool.not_false, biF_len, biF_list, biF_tuple, biF_sorted, biF_sortedt, biF_all, biF_any, biF_sum, biF_min, biF_max, biF_min2, biF_max2, biF_int, biF_abs, lenF_tup, lenF_lst, szOk0, szOk1, szOk2, szOk3, szOk4, szOk5, szOk6, number_map, Int.cast_ofNat_Int, Int.reduceBEq, Int.reduceBNe, Int.reduceLT, Int.reduceLE, Int.reduceSub, Int.reduceAdd, Int.reduceNeg, decide_true, decide_false, beq_self_eq_true, Int.natCast_zero, Int.natCast_one, k1, binF_addl, z2, dbl_snoc, List.map_append, List.map_map]
    rfl
  · rintro _ ⟨x, y, z, rfl⟩
    simp only [start, List.length_cons, List.length_nil, exSs_nil, exSs_cons, exS_asg, exS_asgO, exS_par, exS_exp, exS_frz, exS_retv, exS_reto, exS_ite, exS_pass, goOn_nx, goOn_rt, fin_nx, fin_rt, frzF_own, frzF_val, getOwn_own, ev_var, ev_pk, ev_cst, ev_glb, ev_bin, ev_not, ev_neg, negF_int, ev_cmp, ev_cmp2, ev_cmp3, ev_and, ev_or, ev_ite, ev_tup, ev_lst, ev_idx, ev_slc, ev_call0, ev_callk, ev_lrng, ev_bi, ev_isi, evs_nil, evs_cons, evD_nil, evD_f, evD_t, evT_nil, evT_cons, evI_seq, evI_rng, evI_enm, elimS, condT, condF, condB, okb, Res.none_bind, Res.bind_assoc, liftS, slot, put, getAny, getVal, List.map_cons, List.map_nil, List.replicate, List.cons_append, List.nil_append, List.append_nil, dr_cell, dr_dP, dr_dI, dr_dL, dr_dW, dr_int, dr_bl, dr_tup, dr_lst, dr_non, dr_str, drs, idxF_lst0, idxF_lst1, idxF_lst2, idxF_tup0, idxF_tup1, idxF_tup2, cmpF_gt, cmpF_le, cmpF_lt, cmpF_ge, cmpF_eq, cmpF_ne, cmpF_in, cmpF_nin, cmpF_eqb, cmpF_neb, inF_dL, inF_lst, inF_tup, truth_bl, truth_int, bindT_nm, bindT_tt, bindT_tl, bindTs_nil, bindTs_nm, seqF_tup, seqF_lst, Option.map_some, Option.map_none, if_true, if_false, Bool.false_eq_true, Nat.reduceAdd, Nat.reduceSub, Nat.reduceEqDiff, Nat.zero_add, binF_add, binF_sub, isi_bool_non, isi_bool_bl, isi_bool_int, isi_bool_str, isi_bool_tup, isi_bool_lst, isi_int_non, isi_int_bl, isi_int_int, isi_int_str, isi_int_tup, isi_int_lst, isi_str_non, isi_str_bl, isi_str_int, isi_str_str, isi_str_tup, isi_str_lst, isi_tuple_non, isi_tuple_bl, isi_tuple_int, isi_tuple_str, isi_tuple_tup, isi_tuple_lst, isi_list_non, isi_list_bl, isi_list_int, isi_list_str, isi_list_tup, isi_list_lst, isi_dict_non, isi_dict_bl, isi_dict_int, isi_dict_str, isi_dict_tup, isi_dict_lst, bnot_bl, Bool.not_true, Bool.not_false, biF_len, biF_list, biF_tuple, biF_sorted, biF_sortedt, biF_all, biF_any, biF_sum, biF_min, biF_max, biF_min2, biF_max2, biF_int, biF_abs, lenF_tup, lenF_lst, szOk0, szOk1, szOk2, szOk3, szOk4, szOk5, szOk6, number_map, Int.cast_ofNat_Int, Int.reduceBEq, Int.reduceBNe, Int.reduceLT, Int.reduceLE, Int.reduceSub, Int.reduceAdd, Int.reduceNeg, decide_true, decide_false, beq_self_eq_true, Int.natCast_zero, Int.natCast_one, lots_dbl]
    have k2 : ∀ s, ev ⟨callF T (n - 1), T.gl, T.wf⟩ (.comp (.tup [(false, .bi .len [.pk 4]), (false, .var 4)]) (.nm 4) (.seq (.pk 1)) []) [Slot.val (.int m), .val (.lst ((lots m).map dL)), x, y, z] s = some (.ok (.lst ((lots m).map enS)), s) := fun s => by
      refine ev_comp0 _ _ _ dL _ _ (by simp only [start, List.length_cons, List.length_nil, exSs_nil, exSs_cons, exS_asg, exS_asgO, exS_par, exS_exp, exS_frz, exS_retv, exS_reto, exS_ite, exS_pass, goOn_nx, goOn_rt, fin_nx, fin_rt, frzF_own, frzF_val, getOwn_own, ev_var, ev_pk, ev_cst, ev_glb, ev_bin, ev_not, ev_neg, negF_int, ev_cmp, ev_cmp2, ev_cmp3, ev_and, ev_or, ev_ite, ev_tup, ev_lst, ev_idx, ev_slc, ev_call0, ev_callk, ev_lrng, ev_bi, ev_isi, evs_nil, evs_cons, evD_nil, evD_f, evD_t, evT_nil, evT_cons, evI_seq, evI_rng, evI_enm, elimS, condT, condF, condB, okb, Res.none_bind, Res.bind_assoc, liftS, slot, put, getAny, getVal, List.map_cons, List.map_nil, List.replicate, List.cons_append, List.nil_append, List.append_nil, dr_cell, dr_dP, dr_dI, dr_dL, dr_dW, dr_int, dr_bl, dr_tup, dr_lst, dr_non, dr_str, drs, idxF_lst0, idxF_lst1, idxF_lst2, idxF_tup0, idxF_tup1, idxF_tup2, cmpF_gt, cmpF_le, cmpF_lt, cmpF_ge, cmpF_eq, cmpF_ne, cmpF_in, cmpF_nin, cmpF_eqb, cmpF_neb, inF_dL, inF_lst, inF_tup, truth_bl, truth_int, bindT_nm, bindT_tt, bindT_tl, bindTs_nil, bindTs_nm, seqF_tup, seqF_lst, Option.map_some, Option.map_none, if_true, if_false, Bool.false_eq_true, Nat.reduceAdd, Nat.reduceSub, Nat.reduceEqDiff, Nat.zero_add, binF_add, binF_sub, isi_bool_non, isi_bool_bl, isi_bool_int, isi_bool_str, isi_bool_tup, isi_bool_lst, isi_int_non, isi_int_bl, isi_int_int, isi_int_str, isi_int_tup, isi_int_lst, isi_str_non, isi_str_bl, isi_str_int, isi_str_str, isi_str_tup, isi_str_lst, isi_tuple_non, isi_tuple_bl, isi_tuple_int, isi_tuple_str, isi_tuple_tup, isi_tuple_lst, isi_list_non, isi_list_bl, isi_list_int, isi_list_str, isi_list_tup, isi_list_lst, isi_dict_non, isi_dict_bl, isi_dict_int, isi_dict_str, isi_dict_tup, isi_dict_lst, bnot_bl, Bool.not_true, Bool.not_false, biF_len, biF_list, biF_tuple, biF_sorted, biF_sortedt, biF_all, biF_any, biF_sum, biF_min, biF_max, biF_min2, biF_max2, biF_int, biF_abs, lenF_tup, lenF_lst, szOk0, szOk1, szOk2, szOk3, szOk4, szOk5, szOk6, number_map, Int.cast_ofNat_Int, Int.reduceBEq, Int.reduceBNe, Int.reduceLT, Int.reduceLE, Int.reduceSub, Int.reduceAdd, Int.reduceNeg, decide_true, decide_false, beq_self_eq_true, Int.natCast_zero, Int.natCast_one]) (fun r hr => ⟨_, rfl, ?_⟩) (szOk_le' (by rw [lots_length]; have := szPow (k := m) (n := m) (c := 1) (Nat.le_refl _) hm (by decide); omega))
      simp only [start, List.length_cons, List.length_nil, exSs_nil, exSs_cons, exS_asg, exS_asgO, exS_par, exS_exp, exS_frz, exS_retv, exS_reto, exS_ite, exS_pass, goOn_nx, goOn_rt, fin_nx, fin_rt, frzF_own, frzF_val, getOwn_own, ev_var, ev_pk, ev_cst, ev_glb, ev_bin, ev_not, ev_neg, negF_int, ev_cmp, ev_cmp2, ev_cmp3, ev_and, ev_or, ev_ite, ev_tup, ev_lst, ev_idx, ev_slc, ev_call0, ev_callk, ev_lrng, ev_bi, ev_isi, evs_nil, evs_cons, evD_nil, evD_f, evD_t, evT_nil, evT_cons, evI_seq, evI_rng, evI_enm, elimS, condT, condF, condB, okb, Res.none_bind, Res.bind_assoc, liftS, slot, put, getAny, getVal, List.map_cons, List.map_nil, List.replicate, List.cons_append, List.nil_append, List.append_nil, dr_cell, dr_dP, dr_dI, dr_dL, dr_dW, dr_int, dr_bl, dr_tup, dr_lst, dr_non, dr_str, drs, idxF_lst0, idxF_lst1, idxF_lst2, idxF_tup0, idxF_tup1, idxF_tup2, cmpF_gt, cmpF_le, cmpF_lt, cmpF_ge, cmpF_eq, cmpF_ne, cmpF_in, cmpF_nin, cmpF_eqb, cmpF_neb, inF_dL, inF_lst, inF_tup, truth_bl, truth_int, bindT_nm, bindT_tt, bindT_tl, bindTs_nil, bindTs_nm, seqF_tup, seqF_lst, Option.map_some, Option.map_none, if_true, if_false, Bool.false_eq_true, Nat.reduceAdd, Nat.reduceSub, Nat.reduceEqDiff, Nat.zero_add, binF_add, binF_sub, isi_bool_non, isi_bool_bl, isi_bool_int, isi_bool_str, isi_bool_tup, isi_bool_lst, isi_int_non, isi_int_bl, isi_int_int, isi_int_str, isi_int_tup, isi_int_lst, isi_str_non, isi_str_bl, isi_str_int, isi_str_str, isi_str_tup, isi_str_lst, isi_tuple_non, isi_tuple_bl, isi_tuple_int, isi_tuple_str, isi_tuple_tup, isi_tuple_lst, isi_list_non, isi_list_bl, isi_list_int, isi_list_str, isi_list_tup, isi_list_lst, isi_dict_non, isi_dict_bl, isi_dict_int, isi_dict_str, isi_dict_tup, isi_dict_lst, bnot_bl, Bool.not_true, Bool.not_false, biF_len, biF_list, biF_tuple, biF_sorted, biF_sortedt, biF_all, biF_any, biF_sum, biF_min, biF_max, biF_min2, biF_max2, biF_int, biF_abs, lenF_tup, lenF_lst, szOk0, szOk1, szOk2, szOk3, szOk4, szOk5, szOk6, number_map, Int.cast_ofNat_Int, Int.reduceBEq, Int.reduceBNe, Int.reduceLT, Int.reduceLE, Int.reduceSub, Int.reduceAdd, Int.reduceNeg, decide_true, decide_false, beq_self_eq_true, Int.natCast_zero, Int.natCast_one, dL, List.length_map]
      rfl
    rw [ev_comp0 _ _ _ enS dL ls (by simp only [start, List.length_cons, List.length_nil, exSs_nil, exSs_cons, exS_asg, exS_asgO, exS_par, exS_exp, exS_frz, exS_retv, exS_reto, exS_ite, exS_pass, goOn_nx, goOn_rt, fin_nx, fin_rt, frzF_own, frzF_val, getOwn_own, ev_var, ev_pk, ev_cst, ev_glb, ev_bin, ev_not, ev_neg, negF_int, ev_cmp, ev_cmp2, ev_cmp3, ev_and, ev_or, ev_ite, ev_tup, ev_lst, ev_idx, ev_slc, ev_call0, ev_callk, ev_lrng, ev_bi, ev_isi, evs_nil, evs_cons, evD_nil, evD_f, evD_t, evT_nil, evT_cons, evI_seq, evI_rng, evI_enm, elimS, condT, condF, condB, okb, Res.none_bind, Res.bind_assoc, liftS, slot, put, getAny, getVal, List.map_cons, List.map_nil, List.replicate, List.cons_append, List.nil_append, List.append_nil, dr_cell, dr_dP, dr_dI, dr_dL, dr_dW, dr_int, dr_bl, dr_tup, dr_lst, dr_non, dr_str, drs, idxF_lst0, idxF_lst1, idxF_lst2, idxF_tup0, idxF_tup1, idxF_tup2, cmpF_gt, cmpF_le, cmpF_lt, cmpF_ge, cmpF_eq, cmpF_ne, cmpF_in, cmpF_nin, cmpF_eqb, cmpF_neb, inF_dL, inF_lst, inF_tup, truth_bl, truth_int, bindT_nm, bindT_tt, bindT_tl, bindTs_nil, bindTs_nm, seqF_tup, seqF_lst, Option.map_some, Option.map_none, if_true, if_false, Bool.false_eq_true, Nat.reduceAdd, Nat.reduceSub, Nat.reduceEqDiff, Nat.zero_add, binF_add, binF_sub, isi_bool_non, isi_bool_bl, isi_bool_int, isi_bool_str, isi_bool_tup, isi_bool_lst, isi_int_non, isi_int_bl, isi_int_int, isi_int_str, isi_int_tup, isi_int_lst, isi_str_non, isi_str_bl, isi_str_int, isi_str_str, isi_str_tup, isi_str_lst, isi_tuple_non, isi_tuple_bl, isi_tuple_int, isi_tuple_str, isi_tuple_tup, isi_tuple_lst, isi_list_non, isi_list_bl, isi_list_int, isi_list_str, isi_list_tup, isi_list_lst, isi_dict_non, isi_dict_bl, isi_dict_int, isi_dict_str, isi_dict_tup, isi_dict_lst, bnot_bl, Bool.not_true, Bool.not_false, biF_len, biF_list, biF_tuple, biF_sorted, biF_sortedt, biF_all, biF_any, biF_sum, biF_min, biF_max, biF_min2, biF_max2, biF_int, biF_abs, lenF_tup, lenF_lst, szOk0, szOk1, szOk2, szOk3, szOk4, szOk5, szOk6, number_map, Int.cast_ofNat_Int, Int.reduceBEq, Int.reduceBNe, Int.reduceLT, Int.reduceLE, Int.reduceSub, Int.reduceAdd, Int.reduceNeg, decide_true, decide_false, beq_self_eq_true, Int.natCast_zero, Int.natCast_one, k2, h2]) (fun r hr => ⟨_, rfl, by simp only [start, List.length_cons, List.length_nil, exSs_nil, exSs_cons, exS_asg, exS_asgO, exS_par, exS_exp, exS_frz, exS_retv, exS_reto, exS_ite, exS_pass, goOn_nx, goOn_rt, fin_nx, fin_rt, frzF_own, frzF_val, getOwn_own, ev_var, ev_pk, ev_cst, ev_glb, ev_bin, ev_not, ev_neg, negF_int, ev_cmp, ev_cmp2, ev_cmp3, ev_and, ev_or, ev_ite, ev_tup, ev_lst, ev_idx, ev_slc, ev_call0, ev_callk, ev_lrng, ev_bi, ev_isi, evs_nil, evs_cons, evD_nil, evD_f, evD_t, evT_nil, evT_cons, evI_seq, evI_rng, evI_enm, elimS, condT, condF, condB, okb, Res.none_bind, Res.bind_assoc, liftS, slot, put, getAny, getVal, List.map_cons, List.map_nil, List.replicate, List.cons_append, List.nil_append, List.append_nil, dr_cell, dr_dP, dr_dI, dr_dL, dr_dW, dr_int, dr_bl, dr_tup, dr_lst, dr_non, dr_str, drs, idxF_lst0, idxF_lst1, idxF_lst2, idxF_tup0, idxF_tup1, idxF_tup2, cmpF_gt, cmpF_le, cmpF_lt, cmpF_ge, cmpF_eq, cmpF_ne, cmpF_in, cmpF_nin, cmpF_eqb, cmpF_neb, inF_dL, inF_lst, inF_tup, truth_bl, truth_int, bindT_nm, bindT_tt, bindT_tl, bindTs_nil, bindTs_nm, seqF_tup, seqF_lst, Option.map_some, Option.map_none, if_true, if_false, Bool.false_eq_true, Nat.reduceAdd, Nat.reduceSub, Nat.reduceEqDiff, Nat.zero_add, binF_add, binF_sub, isi_bool_non, isi_bool_bl, isi_bool_int, isi_bool_str, isi_bool_tup, isi_bool_lst, isi_int_non, isi_int_bl, isi_int_int, isi_int_str, isi_int_tup, isi_int_lst, isi_str_non, isi_str_bl, isi_str_int, isi_str_str, isi_str_tup, isi_str_lst, isi_tuple_non, isi_tuple_bl, isi_tuple_int, isi_tuple_str, isi_tuple_tup, isi_tuple_lst, isi_list_non, isi_list_bl, isi_list_int, isi_list_str, isi_list_tup, isi_list_lst, isi_dict_non, isi_dict_bl, isi_dict_int, isi_dict_str, isi_dict_tup, isi_dict_lst, bnot_bl, Bool.not_true, Bool.not_false, biF_len, biF_list, biF_tuple, biF_sorted, biF_sortedt, biF_all, biF_any, biF_sum, biF_min, biF_max, biF_min2, biF_max2, biF_int, biF_abs, lenF_tup, lenF_lst, szOk0, szOk1, szOk2, szOk3, szOk4, szOk5, szOk6, number_map, Int.cast_ofNat_Int, Int.reduceBEq, Int.reduceBNe, Int.reduceLT, Int.reduceLE, Int.reduceSub, Int.reduceAdd, Int.reduceNeg, decide_true, decide_false, beq_self_eq_true, Int.natCast_zero, Int.natCast_one]⟩) (szOk_le' (by rw [h1.length_eq, lots_length]; have := szPow (k := m) (n := m) (c := 1) (Nat.le_refl _) hm (by decide); omega))]
    simp only [start, List.length_cons, List.length_nil, exSs_nil, exSs_cons, exS_asg, exS_asgO, exS_par, exS_exp, exS_frz, exS_retv, exS_reto, exS_ite, exS_pass, goOn_nx, goOn_rt, fin_nx, fin_rt, frzF_own, frzF_val, getOwn_own, ev_var, ev_pk, ev_cst, ev_glb, ev_bin, ev_not, ev_neg, negF_int, ev_cmp, ev_cmp2, ev_cmp3, ev_and, ev_or, ev_ite, ev_tup, ev_lst, ev_idx, ev_slc, ev_call0, ev_callk, ev_lrng, ev_bi, ev_isi, evs_nil, evs_cons, evD_nil, evD_f, evD_t, evT_nil, evT_cons, evI_seq, evI_rng, evI_enm, elimS, condT, condF, condB, okb, Res.none_bind, Res.bind_assoc, liftS, slot, put, getAny, getVal, List.map_cons, List.map_nil, List.replicate, List.cons_append, List.nil_append, List.append_nil, dr_cell, dr_dP, dr_dI, dr_dL, dr_dW, dr_int, dr_bl, dr_tup, dr_lst, dr_non, dr_str, drs, idxF_lst0, idxF_lst1, idxF_lst2, idxF_tup0, idxF_tup1, idxF_tup2, cmpF_gt, cmpF_le, cmpF_lt, cmpF_ge, cmpF_eq, cmpF_ne, cmpF_in, cmpF_nin, cmpF_eqb, cmpF_neb, inF_dL, inF_lst, inF_tup, truth_bl, truth_int, bindT_nm, bindT_tt, bindT_tl, bindTs_nil, bindTs_nm, seqF_tup, seqF_lst, Option.map_some, Option.map_none, if_true, if_false, Bool.false_eq_true, Nat.reduceAdd, Nat.reduceSub, Nat.reduceEqDiff, Nat.zero_add, binF_add, binF_sub, isi_bool_non, isi_bool_bl, isi_bool_int, isi_bool_str, isi_bool_tup, isi_bool_lst, isi_int_non, isi_int_bl, isi_int_int, isi_int_str, isi_int_tup, isi_int_lst, isi_str_non, isi_str_bl, isi_str_int, isi_str_str, isi_str_tup, isi_str_lst, isi_tuple_non, isi_tuple_bl, isi_tuple_int, isi_tuple_str, isi_tuple_tup, isi_tuple_lst, isi_list_non, isi_list_bl, isi_list_int, isi_list_str, isi_list_tup, isi_list_lst, isi_dict_non, isi_dict_bl, isi_dict_int, isi_dict_str, isi_dict_tup, isi_dict_lst, bnot_bl, Bool.not_true, Bool.not_false, biF_len, biF_list, biF_tuple, biF_sorted, biF_sortedt, biF_all, biF_any, biF_sum, biF_min, biF_max, biF_min2, biF_max2, biF_int, biF_abs, lenF_tup, lenF_lst, szOk0, szOk1, szOk2, szOk3, szOk4, szOk5, szOk6, number_map, Int.cast_ofNat_Int, Int.reduceBEq, Int.reduceBNe, Int.reduceLT, Int.reduceLE, Int.reduceSub, Int.reduceAdd, Int.reduceNeg, decide_true, decide_false, beq_self_eq_true, Int.natCast_zero, Int.natCast_one]
theorem ties_out_s {n : Nat} (h : 1 ≤ n) {ts : List (Nat × Nat)} (ht : ts.length ≤ 1000) (r : List Nat) : ∃ xs : List D, xs.length = cross ts (inL r) ∧ ∀ s, callF T n "ties_out" [.tup (ts.map dP), dL r] s = some (.ok (.tup xs), s) := by
  refine ⟨((ts.zipIdx 0).filter fun p => crossP (inL r) p.1).map fun p => .int (p.2 : Nat), by rw [List.length_map, zipIdx_filter]; rfl, fun s => ?_⟩
  rw [callF_run T (m := n - 1) (by omega) fn_ties_out _ _ rfl]
  simp only [d_ties_out, start, List.length_cons, List.length_nil, exSs_nil, exSs_cons, exS_asg, exS_asgO, exS_par, exS_exp, exS_frz, exS_retv, exS_reto, exS_ite, exS_pass, goOn_nx, goOn_rt, fin_nx, fin_rt, frzF_own, frzF_val, getOwn_own, ev_var, ev_pk, ev_cst, ev_glb, ev_bin, ev_not, ev_neg, negF_int, ev_cmp, ev_cmp2, ev_cmp3, ev_and, ev_or, ev_ite, ev_tup, ev_lst, ev_idx, ev_slc, ev_call0, ev_callk, ev_lrng, ev_bi, ev_isi, evs_nil, evs_cons, evD_nil, evD_f, evD_t, evT_nil, evT_cons, evI_seq, evI_rng, evI_enm, elimS, condT, condF, condB, okb, Res.none_bind, Res.bind_assoc, liftS, slot, put, getAny, getVal, List.map_cons, List.map_nil, List.replicate, List.cons_append, List.nil_append, List.append_nil, dr_cell, dr_dP, dr_dI, dr_dL, dr_dW, dr_int, dr_bl, dr_tup, dr_lst, dr_non, dr_str, drs, idxF_lst0, idxF_lst1, idxF_lst2, idxF_tup0, idxF_tup1, idxF_tup2, cmpF_gt, cmpF_le, cmpF_lt, cmpF_ge, cmpF_eq, cmpF_ne, cmpF_in, cmpF_nin, cmpF_eqb, cmpF_neb, inF_dL, inF_lst, inF_tup, truth_bl, truth_int, bindT_nm, bindT_tt, bindT_tl, bindTs_nil, bindTs_nm, seqF_tup, seqF_lst, Option.map_some, Option.map_none, if_true, if_false, Bool.false_eq_true, Nat.reduceAdd, Nat.reduceSub, Nat.reduceEqDiff, Nat.zero_add, binF_add, binF_sub, isi_bool_non, isi_bool_bl, isi_bool_int, isi_bool_str, isi_bool_tup, isi_bool_lst, isi_int_non, isi_int_bl, isi_int_int, isi_int_str, isi_int_tup, isi_int_lst, isi_str_non, isi_str_bl, isi_str_int, isi_str_str, isi_str_tup, isi_str_lst, isi_tuple_non, isi_tuple_bl, isi_tuple_int, isi_tuple_str, isi_tuple_tup, isi_tuple_lst, isi_list_non, isi_list_bl, isi_list_int, isi_list_str, isi_list_tup, isi_list_lst, isi_dict_non, isi_dict_bl, isi_dict_int, isi_dict_str, isi_dict_tup, isi_dict_lst, bnot_bl, Bool.not_true, Bool.not_false, biF_len, biF_list, biF_tuple, biF_sorted, biF_sortedt, biF_all, biF_any, biF_sum, biF_min, biF_max, biF_min2, biF_max2, biF_int, biF_abs, lenF_tup, lenF_lst, szOk0, szOk1, szOk2, szOk3, szOk4, szOk5, szOk6, number_map, Int.cast_ofNat_Int, Int.reduceBEq, Int.reduceBNe, Int.reduceLT, Int.reduceLE, Int.reduceSub, Int.reduceAdd, Int.reduceNeg, decide_true, decide_false, beq_self_eq_true, Int.natCast_zero, Int.natCast_one]
  rw [ev_comp _ _ _ (fun p : (Nat × Nat) × Nat => D.tup [.int (p.2 : Int), dP p.1]) (fun p => crossP (inL r) p.1) (fun p => .int (p.2 : Nat)) (ts.zipIdx 0) (by simp only [start, List.length_cons, List.length_nil, exSs_nil, exSs_cons, exS_asg, exS_asgO, exS_par, exS_exp, exS_frz, exS_retv, exS_reto, exS_ite, exS_pass, goOn_nx, goOn_rt, fin_nx, fin_rt, frzF_own, frzF_val, getOwn_own, ev_var, ev_pk, ev_cst, ev_glb, ev_bin, ev_not, ev_neg, negF_int, ev_cmp, ev_cmp2, ev_cmp3, ev_and, ev_or, ev_ite, ev_tup, ev_lst, ev_idx, ev_slc, ev_call0, ev_callk, ev_lrng, ev_bi, ev_isi, evs_nil, evs_cons, evD_nil, evD_f, evD_t, evT_nil, evT_cons, evI_seq, evI_rng, evI_enm, elimS, condT, condF, condB, okb, Res.none_bind, Res.bind_assoc, liftS, slot, put, getAny, getVal, List.map_cons, List.map_nil, List.replicate, List.cons_append, List.nil_append, List.append_nil, dr_cell, dr_dP, dr_dI, dr_dL, dr_dW, dr_int, dr_bl, dr_tup, dr_lst, dr_non, dr_str, drs, idxF_lst0, idxF_lst1, idxF_lst2, idxF_tup0, idxF_tup1, idxF_tup2, cmpF_gt, cmpF_le, cmpF_lt, cmpF_ge, cmpF_eq, cmpF_ne, cmpF_in, cmpF_nin, cmpF_eqb, cmpF_neb, inF_dL, inF_lst, inF_tup, truth_bl, truth_int, bindT_nm, bindT_tt, bindT_tl, bindTs_nil, bindTs_nm, seqF_tup, seqF_lst, Option.map_some, Option.map_none, if_true, if_false, Bool.false_eq_true, Nat.reduceAdd, Nat.reduceSub, Nat.reduceEqDiff, Nat.zero_add, binF_add, binF_sub, isi_bool_non, isi_bool_bl, isi_bool_int, isi_bool_str, isi_bool_tup, isi_bool_lst, isi_int_non, isi_int_bl, isi_int_int, isi_int_str, isi_int_tup, isi_int_lst, isi_str_non, isi_str_bl, isi_str_int, isi_str_str, isi_str_tup, isi_str_lst, isi_tuple_non, isi_tuple_bl, isi_tuple_int, isi_tuple_str, isi_tuple_tup, isi_tuple_lst, isi_list_non, isi_list_bl, isi_list_int, isi_list_str, isi_list_tup, isi_list_lst, isi_dict_non, isi_dict_bl, isi_dict_int, isi_dict_str, isi_dict_tup, isi_dict_lst, bnot_bl, Bool.not_true, Bool.not_false, biF_len, biF_list, biF_tuple, biF_sorted, biF_sortedt, biF_all, biF_any, biF_sum, biF_min, biF_max, biF_min2, biF_max2, biF_int, biF_abs, lenF_tup, lenF_lst, szOk0, szOk1, szOk2, szOk3, szOk4, szOk5, szOk6, number_map, Int.cast_ofNat_Int, Int.reduceBEq, Int.reduceBNe, Int.reduceLT, Int.reduceLE, Int.reduceSub, Int.reduceAdd, Int.reduceNeg, decide_true, decide_false, beq_self_eq_true, Int.natCast_zero, Int.natCast_one]) ?_ (szOk_le' (by rw [List.length_zipIdx]; omega))]
  · simp only [start, List.length_cons, List.length_nil, exSs_nil, exSs_cons, exS_asg, exS_asgO, exS_par, exS_exp, exS_frz, exS_retv, exS_reto, exS_ite, exS_pass, goOn_nx, goOn_rt, fin_nx, fin_rt, frzF_own, frzF_val, getOwn_own, ev_var, ev_pk, ev_cst, ev_glb, ev_bin, ev_not, ev_neg, negF_int, ev_cmp, ev_cmp2, ev_cmp3, ev_and, ev_or, ev_ite, ev_tup, ev_lst, ev_idx, ev_slc, ev_call0, ev_callk, ev_lrng, ev_bi, ev_isi, evs_nil, evs_cons, evD_nil, evD_f, evD_t, evT_nil, evT_cons, evI_seq, evI_rng, evI_enm, elimS, condT, condF, condB, okb, Res.none_bind, Res.bind_assoc, liftS, slot, put, getAny, getVal, List.map_cons, List.map_nil, List.replicate, List.cons_append, List.nil_append, List.append_nil, dr_cell, dr_dP, dr_dI, dr_dL, dr_dW, dr_int, dr_bl, dr_tup, dr_lst, dr_non, dr_str, drs, idxF_lst0, idxF_lst1, idxF_lst2, idxF_tup0, idxF_tup1, idxF_tup2, cmpF_gt, cmpF_le, cmpF_lt, cmpF_ge, cmpF_eq, cmpF_ne, cmpF_in, cmpF_nin, cmpF_eqb, cmpF_neb, inF_dL, inF_lst, inF_tup, truth_bl, truth_int, bindT_nm, bindT_tt, bindT_tl, bindTs_nil, bindTs_nm, seqF_tup, seqF_lst, Option.map_some, Option.map_none, if_true, if_false, Bool.false_eq_true, Nat.reduceAdd, Nat.reduceSub, Nat.reduceEqDiff, Nat.zero_add, binF_add, binF_sub, isi_bool_non, isi_bool_bl, isi_bool_int, isi_bool_str, isi_bool_tup, isi_bool_lst, isi_int_non, isi_int_bl, isi_int_int, isi_int_str, isi_int_tup, isi_int_lst, isi_str_non, isi_str_bl, isi_str_int, isi_str_str, isi_str_tup, isi_str_lst, isi_tuple_non, isi_tuple_bl, isi_tuple_int, isi_tuple_str, isi_tuple_tup, isi_tuple_lst, isi_list_non, isi_list_bl, isi_list_int, isi_list_str, isi_list_tup, isi_list_lst, isi_dict_non, isi_dict_bl, isi_dict_int, isi_dict_str, isi_dict_tup, isi_dict_lst, bnot_bl, Bool.not_true, Bool.not_false, biF_len, biF_list, biF_tuple, biF_sorted, biF_sortedt, biF_all, biF_any, biF_sum, biF_min, biF_max, biF_min2, biF_max2, biF_int, biF_abs, lenF_tup, lenF_lst, szOk0, szOk1, szOk2, szOk3, szOk4, szOk5, szOk6, number_map, Int.cast_ofNat_Int, Int.reduceBEq, Int.reduceBNe, Int.reduceLT, Int.reduceLE, Int.reduceSub, Int.reduceAdd, Int.reduceNeg, decide_true, decide_false, beq_self_eq_true, Int.natCast_zero, Int.natCast_one]
  · rintro ⟨p, i⟩ _
    refine ⟨_, rfl, ?_, fun _ => ?_⟩
    · simp only [dP, start, List.length_cons, List.length_nil, exSs_nil, exSs_cons, exS_asg, exS_asgO, exS_par, exS_exp, exS_frz, exS_retv, exS_reto, exS_ite, exS_pass, goOn_nx, goOn_rt, fin_nx, fin_rt, frzF_own, frzF_val, getOwn_own, ev_var, ev_pk, ev_cst, ev_glb, ev_bin, ev_not, ev_neg, negF_int, ev_cmp, ev_cmp2, ev_cmp3, ev_and, ev_or, ev_ite, ev_tup, ev_lst, ev_idx, ev_slc, ev_call0, ev_callk, ev_lrng, ev_bi, ev_isi, evs_nil, evs_cons, evD_nil, evD_f, evD_t, evT_nil, evT_cons, evI_seq, evI_rng, evI_enm, elimS, condT, condF, condB, okb, Res.none_bind, Res.bind_assoc, liftS, slot, put, getAny, getVal, List.map_cons, List.map_nil, List.replicate, List.cons_append, List.nil_append, List.append_nil, dr_cell, dr_dP, dr_dI, dr_dL, dr_dW, dr_int, dr_bl, dr_tup, dr_lst, dr_non, dr_str, drs, idxF_lst0, idxF_lst1, idxF_lst2, idxF_tup0, idxF_tup1, idxF_tup2, cmpF_gt, cmpF_le, cmpF_lt, cmpF_ge, cmpF_eq, cmpF_ne, cmpF_in, cmpF_nin, cmpF_eqb, cmpF_neb, inF_dL, inF_lst, inF_tup, truth_bl, truth_int, bindT_nm, bindT_tt, bindT_tl, bindTs_nil, bindTs_nm, seqF_tup, seqF_lst, Option.map_some, Option.map_none, if_true, if_false, Bool.false_eq_true, Nat.reduceAdd, Nat.reduceSub, Nat.reduceEqDiff, Nat.zero_add, binF_add, binF_sub, isi_bool_non, isi_bool_bl, isi_bool_int, isi_bool_str, isi_bool_tup, isi_bool_lst, isi_int_non, isi_int_bl, isi_int_int, isi_int_str, isi_int_tup, isi_int_lst, isi_str_non, isi_str_bl, isi_str_int, isi_str_str, isi_str_tup, isi_str_lst, isi_tuple_non, isi_tuple_bl, isi_tuple_int, isi_tuple_str, isi_tuple_tup, isi_tuple_lst, isi_list_non, isi_list_bl, isi_list_int, isi_list_str, isi_list_tup, isi_list_lst, isi_dict_non, isi_dict_bl, isi_dict_int, isi_dict_str, isi_dict_tup, isi_dict_lst, bnot_bl, Bool.not_true, Bool.not_false, biF_len, biF_list, biF_tuple, biF_sorted, biF_sortedt, biF_all, biF_any, biF_sum, biF_min, biF_max, biF_min2, biF_max2, biF_int, biF_abs, lenF_tup, lenF_lst, szOk0, szOk1, szOk2, szOk3, szOk4, szOk5, szOk6, number_map, Int.cast_ofNat_Int, Int.reduceBEq, Int.reduceBNe, Int.reduceLT, Int.reduceLE, Int.reduceSub, Int.reduceAdd, Int.reduceNeg, decide_true, decide_false, beq_self_eq_true, Int.natCast_zero, Int.natCast_one]
      rfl
    · simp only [start, List.length_cons, List.length_nil, exSs_nil, exSs_cons, exS_asg, exS_asgO, exS_par, exS_exp, exS_frz, exS_retv, exS_reto, exS_ite, exS_pass, goOn_nx, goOn_rt, fin_nx, fin_rt, frzF_own, frzF_val, getOwn_own, ev_var, ev_pk, ev_cst, ev_glb, ev_bin, ev_not, ev_neg, negF_int, ev_cmp, ev_cmp2, ev_cmp3, ev_and, ev_or, ev_ite, ev_tup, ev_lst, ev_idx, ev_slc, ev_call0, ev_callk, ev_lrng, ev_bi, ev_isi, evs_nil, evs_cons, evD_nil, evD_f, evD_t, evT_nil, evT_cons, evI_seq, evI_rng, evI_enm, elimS, condT, condF, condB, okb, Res.none_bind, Res.bind_assoc, liftS, slot, put, getAny, getVal, List.map_cons, List.map_nil, List.replicate, List.cons_append, List.nil_append, List.append_nil, dr_cell, dr_dP, dr_dI, dr_dL, dr_dW, dr_int, dr_bl, dr_tup, dr_lst, dr_non, dr_str, drs, idxF_lst0, idxF_lst1, idxF_lst2, idxF_tup0, idxF_tup1, idxF_tup2, cmpF_gt, cmpF_le, cmpF_lt, cmpF_ge, cmpF_eq, cmpF_ne, cmpF_in, cmpF_nin, cmpF_eqb, cmpF_neb, inF_dL, inF_lst, inF_tup, truth_bl, truth_int, bindT_nm, bindT_tt, bindT_tl, bindTs_nil, bindTs_nm, seqF_tup, seqF_lst, Option.map_some, Option.map_none, if_true, if_false, Bool.false_eq_true, Nat.reduceAdd, Nat.reduceSub, Nat.reduceEqDiff, Nat.zero_add, binF_add, binF_sub, isi_bool_non, isi_bool_bl, isi_bool_int, isi_bool_str, isi_bool_tup, isi_bool_lst, isi_int_non, isi_int_bl, isi_int_int, isi_int_str, isi_int_tup, isi_int_lst, isi_str_non, isi_str_bl, isi_str_int, isi_str_str, isi_str_tup, isi_str_lst, isi_tuple_non, isi_tuple_bl, isi_tuple_int, isi_tuple_str, isi_tuple_tup, isi_tuple_lst, isi_list_non, isi_list_bl, isi_list_int, isi_list_str, isi_list_tup, isi_list_lst, isi_dict_non, isi_dict_bl, isi_dict_int, isi_dict_str, isi_dict_tup, isi_dict_lst, bnot_bl, Bool.not_true, Bool.not_false, biF_len, biF_list, biF_tuple, biF_sorted, biF_sortedt, biF_all, biF_any, biF_sum, biF_min, biF_max, biF_min2, biF_max2, biF_int, biF_abs, lenF_tup, lenF_lst, szOk0, szOk1, szOk2, szOk3, szOk4, szOk5, szOk6, number_map, Int.cast_ofNat_Int, Int.reduceBEq, Int.reduceBNe, Int.reduceLT, Int.reduceLE, Int.reduceSub, Int.reduceAdd, Int.reduceNeg, decide_true, decide_false, beq_self_eq_true, Int.natCast_zero, Int.natCast_one]
theorem rooms_with_s {n : Nat} (h : 3 ≤ n) {m a b : Nat} (hm : m ≤ 16) : ∃ ls : List (List Nat), (∀ l, l ∈ ls ↔ l ∈ lots m ∧ inL l a = true ∧ inL l b = false) ∧ ls.length ≤ 65536 ∧ ∀ s, callF T n "rooms_with" [.int m, .tup [.int a, .int b]] s = some (.ok (.lst (ls.map dL)), s) := by
  obtain ⟨ls, h1, h2⟩ := all_lots_s (n := n - 1) (by omega) hm
  have h3 : ls.length ≤ 65536 := by
    rw [h1.length_eq, lots_length]
    exact Nat.pow_le_pow_right (by decide) hm
  refine ⟨ls.filter fun l => inL l a && !inL l b, fun l => ?_, Nat.le_trans (List.length_filter_le ..) h3, fun s => ?_⟩
  · rw [List.mem_filter, h1.mem_iff, Bool.and_eq_true, Bool.not_eq_true']
  · rw [callF_run T (m := n - 1) (by omega) fn_rooms_with _ _ rfl]
    simp only [d_rooms_with, start, List.length_cons, List.length_nil, exSs_nil, exSs_cons, exS_asg, exS_asgO, exS_par, exS_exp, exS_frz, exS_retv, exS_reto, exS_ite, exS_pass, goOn_nx, goOn_rt, fin_nx, fin_rt, frzF_own, frzF_val, getOwn_own, ev_var, ev_pk, ev_cst, ev_glb, ev_bin, ev_not, ev_neg, negF_int, ev_cmp, ev_cmp2, ev_cmp3, ev_and, ev_or, ev_ite, ev_tup, ev_lst, ev_idx, ev_slc, ev_call0, ev_callk, ev_lrng, ev_bi, ev_isi, evs_nil, evs_cons, evD_nil, evD_f, evD_t, evT_nil, evT_cons, evI_seq, evI_rng, evI_enm, elimS, condT, condF, condB, okb, Res.none_bind, Res.bind_assoc, liftS, slot, put, getAny, getVal, List.map_cons, List.map_nil, List.replicate, List.cons_append, List.nil_append, List.append_nil, dr_cell, dr_dP, dr_dI, dr_dL, dr_dW, dr_int, dr_bl, dr_tup, dr_lst, dr_non, dr_str, drs, idxF_lst0, idxF_lst1, idxF_lst2, idxF_tup0, idxF_tup1, idxF_tup2, cmpF_gt, cmpF_le, cmpF_lt, cmpF_ge, cmpF_eq, cmpF_ne, cmpF_in, cmpF_nin, cmpF_eqb, cmpF_neb, inF_dL, inF_lst, inF_tup, truth_bl, truth_int, bindT_nm, bindT_tt, bindT_tl, bindTs_nil, bindTs_nm, seqF_tup, seqF_lst, Option.map_some, Option.map_none, if_true, if_false, Bool.false_eq_true, Nat.reduceAdd, Nat.reduceSub, Nat.reduceEqDiff, Nat.zero_add, binF_add, binF_sub, isi_bool_non, isi_bool_bl, isi_bool_int, isi_bool_str, isi_bool_tup, isi_bool_lst, isi_int_non, isi_int_bl, isi_int_int, isi_int_str, isi_int_tup, isi_int_lst, isi_str_non, isi_str_bl, isi_str_int, isi_str_str, isi_str_tup, isi_str_lst, isi_tuple_non, isi_tuple_bl, isi_tuple_int, isi_tuple_str, isi_tuple_tup, isi_tuple_lst, isi_list_non, isi_list_bl, isi_list_int, isi_list_str, isi_list_tup, isi_list_lst, isi_dict_non, isi_dict_bl, isi_dict_int, isi_dict_str, isi_dict_tup, isi_dict_lst, bnot_bl, Bool.not_true, Bool.not_false, biF_len, biF_list, biF_tuple, biF_sorted, biF_sortedt, biF_all, biF_any, biF_sum, biF_min, biF_max, biF_min2, biF_max2, biF_int, biF_abs, lenF_tup, lenF_lst, szOk0, szOk1, szOk2, szOk3, szOk4, szOk5, szOk6, number_map, Int.cast_ofNat_Int, Int.reduceBEq, Int.reduceBNe, Int.reduceLT, Int.reduceLE, Int.reduceSub, Int.reduceAdd, Int.reduceNeg, decide_true, decide_false, beq_self_eq_true, Int.natCast_zero, Int.natCast_one]
    rw [ev_comp _ _ _ dL (fun l => inL l a && !inL l b) dL ls (by simp only [start, List.length_cons, List.length_nil, exSs_nil, exSs_cons, exS_asg, exS_asgO, exS_par, exS_exp, exS_frz, exS_retv, exS_reto, exS_ite, exS_pass, goOn_nx, goOn_rt, fin_nx, fin_rt, frzF_own, frzF_val, getOwn_own, ev_var, ev_pk, ev_cst, ev_glb, ev_bin, ev_not, ev_neg, negF_int, ev_cmp, ev_cmp2, ev_cmp3, ev_and, ev_or, ev_ite, ev_tup, ev_lst, ev_idx, ev_slc, ev_call0, ev_callk, ev_lrng, ev_bi, ev_isi, evs_nil, evs_cons, evD_nil, evD_f, evD_t, evT_nil, evT_cons, evI_seq, evI_rng, evI_enm, elimS, condT, condF, condB, okb, Res.none_bind, Res.bind_assoc, liftS, slot, put, getAny, getVal, List.map_cons, List.map_nil, List.replicate, List.cons_append, List.nil_append, List.append_nil, dr_cell, dr_dP, dr_dI, dr_dL, dr_dW, dr_int, dr_bl, dr_tup, dr_lst, dr_non, dr_str, drs, idxF_lst0, idxF_lst1, idxF_lst2, idxF_tup0, idxF_tup1, idxF_tup2, cmpF_gt, cmpF_le, cmpF_lt, cmpF_ge, cmpF_eq, cmpF_ne, cmpF_in, cmpF_nin, cmpF_eqb, cmpF_neb, inF_dL, inF_lst, inF_tup, truth_bl, truth_int, bindT_nm, bindT_tt, bindT_tl, bindTs_nil, bindTs_nm, seqF_tup, seqF_lst, Option.map_some, Option.map_none, if_true, if_false, Bool.false_eq_true, Nat.reduceAdd, Nat.reduceSub, Nat.reduceEqDiff, Nat.zero_add, binF_add, binF_sub, isi_bool_non, isi_bool_bl, isi_bool_int, isi_bool_str, isi_bool_tup, isi_bool_lst, isi_int_non, isi_int_bl, isi_int_int, isi_int_str, isi_int_tup, isi_int_lst, isi_str_non, isi_str_bl, isi_str_int, isi_str_str, isi_str_tup, isi_str_lst, isi_tuple_non, isi_tuple_bl, isi_tuple_int, isi_tuple_str, isi_tuple_tup, isi_tuple_lst, isi_list_non, isi_list_bl, isi_list_int, isi_list_str, isi_list_tup, isi_list_lst, isi_dict_non, isi_dict_bl, isi_dict_int, isi_dict_str, isi_dict_tup, isi_dict_lst, bnot_bl, Bool.not_true, Bool.not_false, biF_len, biF_list, biF_tuple, biF_sorted, biF_sortedt, biF_all, biF_any, biF_sum, biF_min, biF_max, biF_min2, biF_max2, biF_int, biF_abs, lenF_tup, lenF_lst, szOk0, szOk1, szOk2, szOk3, szOk4, szOk5, szOk6, number_map, Int.cast_ofNat_Int, Int.reduceBEq, Int.reduceBNe, Int.reduceLT, Int.reduceLE, Int.reduceSub, Int.reduceAdd, Int.reduceNeg, decide_true, decide_false, beq_self_eq_true, Int.natCast_zero, Int.natCast_one, h2]) ?_ (szOk_le' (by omega))]
    · simp only [start, List.length_cons, List.length_nil, exSs_nil, exSs_cons, exS_asg, exS_asgO, exS_par, exS_exp, exS_frz, exS_retv, exS_reto, exS_ite, exS_pass, goOn_nx, goOn_rt, fin_nx, fin_rt, frzF_own, frzF_val, getOwn_own, ev_var, ev_pk, ev_cst, ev_glb, ev_bin, ev_not, ev_neg, negF_int, ev_cmp, ev_cmp2, ev_cmp3, ev_and, ev_or, ev_ite, ev_tup, ev_lst, ev_idx, ev_slc, ev_call0, ev_callk, ev_lrng, ev_bi, ev_isi, evs_nil, evs_cons, evD_nil, evD_f, evD_t, evT_nil, evT_cons, evI_seq, evI_rng, evI_enm, elimS, condT, condF, condB, okb, Res.none_bind, Res.bind_assoc, liftS, slot, put, getAny, getVal, List.map_cons, List.map_nil, List.replicate, List.cons_append, List.nil_append, List.append_nil, dr_cell, dr_dP, dr_dI, dr_dL, dr_dW, dr_int, dr_bl, dr_tup, dr_lst, dr_non, dr_str, drs, idxF_lst0, idxF_lst1, idxF_lst2, idxF_tup0, idxF_tup1, idxF_tup2, cmpF_gt, cmpF_le, cmpF_lt, cmpF_ge, cmpF_eq, cmpF_ne, cmpF_in, cmpF_nin, cmpF_eqb, cmpF_neb, inF_dL, inF_lst, inF_tup, truth_bl, truth_int, bindT_nm, bindT_tt, bindT_tl, bindTs_nil, bindTs_nm, seqF_tup, seqF_lst, Option.map_some, Option.map_none, if_true, if_false, Bool.false_eq_true, Nat.reduceAdd, Nat.reduceSub, Nat.reduceEqDiff, Nat.zero_add, binF_add, binF_sub, isi_bool_non, isi_bool_bl, isi_bool_int, isi_bool_str, isi_bool_tup, isi_bool_lst, isi_int_non, isi_int_bl, isi_int_int, isi_int_str, isi_int_tup, isi_int_lst, isi_str_non, isi_str_bl, isi_str_int, isi_str_str, isi_str_tup, isi_str_lst, isi_tuple_non, isi_tuple_bl, isi_tuple_int, isi_tuple_str, isi_tuple_tup, isi_tuple_lst, isi_list_non, isi_list_bl, isi_list_int, isi_list_str, isi_list_tup, isi_list_lst, isi_dict_non, isi_dict_bl, isi_dict_int, isi_dict_str, isi_dict_tup, isi_dict_lst, bnot_bl, Bool.not_true, Bool.not_false, biF_len, biF_list, biF_tuple, biF_sorted, biF_sortedt, biF_all, biF_any, biF_sum, biF_min, biF_max, biF_min2, biF_max2, biF_int, biF_abs, lenF_tup, lenF_lst, szOk0, szOk1, szOk2, szOk3, szOk4, szOk5, szOk6, number_map, Int.cast_ofNat_Int, Int.reduceBEq, Int.reduceBNe, Int.reduceLT, Int.reduceLE, Int.reduceSub, Int.reduceAdd, Int.reduceNeg, decide_true, decide_false, beq_self_eq_true, Int.natCast_zero, Int.natCast_one]
    · intro l _
      refine ⟨_, rfl, ?_, fun _ => by simp only [start, List.length_cons, List.length_nil, exSs_nil, exSs_cons, exS_asg, exS_asgO, exS_par, exS_exp, exS_frz, exS_retv, exS_reto, exS_ite, exS_pass, goOn_nx, goOn_rt, fin_nx, fin_rt, frzF_own, frzF_val, getOwn_own, ev_var, ev_pk, ev_cst, ev_glb, ev_bin, ev_not, ev_neg, negF_int, ev_cmp, ev_cmp2, ev_cmp3, ev_and, ev_or, ev_ite, ev_tup, ev_lst, ev_idx, ev_slc, ev_call0, ev_callk, ev_lrng, ev_bi, ev_isi, evs_nil, evs_cons, evD_nil, evD_f, evD_t, evT_nil, evT_cons, evI_seq, evI_rng, evI_enm, elimS, condT, condF, condB, okb, Res.none_bind, Res.bind_assoc, liftS, slot, put, getAny, getVal, List.map_cons, List.map_nil, List.replicate, List.cons_append, List.nil_append, List.append_nil, dr_cell, dr_dP, dr_dI, dr_dL, dr_dW, dr_int, dr_bl, dr_tup, dr_lst, dr_non, dr_str, drs, idxF_lst0, idxF_lst1, idxF_lst2, idxF_tup0, idxF_tup1, idxF_tup2, cmpF_gt, cmpF_le, cmpF_lt, cmpF_ge, cmpF_eq, cmpF_ne, cmpF_in, cmpF_nin, cmpF_eqb, cmpF_neb, inF_dL, inF_lst, inF_tup, truth_bl, truth_int, bindT_nm, bindT_tt, bindT_tl, bindTs_nil, bindTs_nm, seqF_tup, seqF_lst, Option.map_some, Option.map_none, if_true, if_false, Bool.false_eq_true, Nat.reduceAdd, Nat.reduceSub, Nat.reduceEqDiff, Nat.zero_add, binF_add, binF_sub, isi_bool_non, isi_bool_bl, isi_bool_int, isi_bool_str, isi_bool_tup, isi_bool_lst, isi_int_non, isi_int_bl, isi_int_int, isi_int_str, isi_int_tup, isi_int_lst, isi_str_non, isi_str_bl, isi_str_int, isi_str_str, isi_str_tup, isi_str_lst, isi_tuple_non, isi_tuple_bl, isi_tuple_int, isi_tuple_str, isi_tuple_tup, isi_tuple_lst, isi_list_non, isi_list_bl, isi_list_int, isi_list_str, isi_list_tup, isi_list_lst, isi_dict_non, isi_dict_bl, isi_dict_int, isi_dict_str, isi_dict_tup, isi_dict_lst, bnot_bl, Bool.not_true, Bool.not_false, biF_len, biF_list, biF_tuple, biF_sorted, biF_sortedt, biF_all, biF_any, biF_sum, biF_min, biF_max, biF_min2, biF_max2, biF_int, biF_abs, lenF_tup, lenF_lst, szOk0, szOk1, szOk2, szOk3, szOk4, szOk5, szOk6, number_map, Int.cast_ofNat_Int, Int.reduceBEq, Int.reduceBNe, Int.reduceLT, Int.reduceLE, Int.reduceSub, Int.reduceAdd, Int.reduceNeg, decide_true, decide_false, beq_self_eq_true, Int.natCast_zero, Int.natCast_one]⟩
      simp only [start, List.length_cons, List.length_nil, exSs_nil, exSs_cons, exS_asg, exS_asgO, exS_par, exS_exp, exS_frz, exS_retv, exS_reto, exS_ite, exS_pass, goOn_nx, goOn_rt, fin_nx, fin_rt, frzF_own, frzF_val, getOwn_own, ev_var, ev_pk, ev_cst, ev_glb, ev_bin, ev_not, ev_neg, negF_int, ev_cmp, ev_cmp2, ev_cmp3, ev_and, ev_or, ev_ite, ev_tup, ev_lst, ev_idx, ev_slc, ev_call0, ev_callk, ev_lrng, ev_bi, ev_isi, evs_nil, evs_cons, evD_nil, evD_f, evD_t, evT_nil, evT_cons, evI_seq, evI_rng, evI_enm, elimS, condT, condF, condB, okb, Res.none_bind, Res.bind_assoc, liftS, slot, put, getAny, getVal, List.map_cons, List.map_nil, List.replicate, List.cons_append, List.nil_append, List.append_nil, dr_cell, dr_dP, dr_dI, dr_dL, dr_dW, dr_int, dr_bl, dr_tup, dr_lst, dr_non, dr_str, drs, idxF_lst0, idxF_lst1, idxF_lst2, idxF_tup0, idxF_tup1, idxF_tup2, cmpF_gt, cmpF_le, cmpF_lt, cmpF_ge, cmpF_eq, cmpF_ne, cmpF_in, cmpF_nin, cmpF_eqb, cmpF_neb, inF_dL, inF_lst, inF_tup, truth_bl, truth_int, bindT_nm, bindT_tt, bindT_tl, bindTs_nil, bindTs_nm, seqF_tup, seqF_lst, Option.map_some, Option.map_none, if_true, if_false, Bool.false_eq_true, Nat.reduceAdd, Nat.reduceSub, Nat.reduceEqDiff, Nat.zero_add, binF_add, binF_sub, isi_bool_non, isi_bool_bl, isi_bool_int, isi_bool_str, isi_bool_tup, isi_bool_lst, isi_int_non, isi_int_bl, isi_int_int, isi_int_str, isi_int_tup, isi_int_lst, isi_str_non, isi_str_bl, isi_str_int, isi_str_str, isi_str_tup, isi_str_lst, isi_tuple_non, isi_tuple_bl, isi_tuple_int, isi_tuple_str, isi_tuple_tup, isi_tuple_lst, isi_list_non, isi_list_bl, isi_list_int, isi_list_str, isi_list_tup, isi_list_lst, isi_dict_non, isi_dict_bl, isi_dict_int, isi_dict_str, isi_dict_tup, isi_dict_lst, bnot_bl, Bool.not_true, Bool.not_false, biF_len, biF_list, biF_tuple, biF_sorted, biF_sortedt, biF_all, biF_any, biF_sum, biF_min, biF_max, biF_min2, biF_max2, biF_int, biF_abs, lenF_tup, lenF_lst, szOk0, szOk1, szOk2, szOk3, szOk4, szOk5, szOk6, number_map, Int.cast_ofNat_Int, Int.reduceBEq, Int.reduceBNe, Int.reduceLT, Int.reduceLE, Int.reduceSub, Int.reduceAdd, Int.reduceNeg, decide_true, decide_false, beq_self_eq_true, Int.natCast_zero, Int.natCast_one]
      cases inL l a <;> cases inL l b <;> rfl
theorem width_by_s {n : Nat} (h : 4 ≤ n) {m : Nat} {ts : List (Nat × Nat)} (w : WebOk m ts) {a b : Nat} (ha : a < m) (hb : b < m) (ne : a ≠ b) : ∃ k : Nat, IsW ts a b k ∧ ∀ s, callF T n "width_by" [dW m ts, .int a, .int b] s = some (.ok (.int k), s) := by
  have := w.n7
  have := w.t12
  obtain ⟨ls, h1, h2, h3⟩ := rooms_with_s (n := n - 1) (m := m) (a := a) (b := b) (by omega) (by omega)
  have ne0 : ls ≠ [] := by
    intro e
    have : (List.range m).filter (fun x => x == a) ∈ ls := (h1 _).mpr ⟨mem_lots _ _, by simp [inL, ha], by simp [inL]; intro _ e; exact ne e.symm⟩
    rw [e] at this
    cases this
  obtain ⟨k, e, k1, k2⟩ := minF_map (fun r => cross ts (inL r)) ls ne0
  refine ⟨k, IsW.rooms w.two ls (fun r hr => ((h1 r).mp hr).2) (fun f fa fb => ⟨(List.range m).filter f, (h1 _).mpr ⟨mem_lots _ _, by simp [inL, ha, fa], by simp [inL, fb]⟩, fun x hx => by simp [inL, hx]⟩) k1 k2, fun s => ?_⟩
  rw [callF_run T (m := n - 1) (by omega) fn_width_by _ _ rfl]
  simp only [d_width_by, dW, start, List.length_cons, List.length_nil, exSs_nil, exSs_cons, exS_asg, exS_asgO, exS_par, exS_exp, exS_frz, exS_retv, exS_reto, exS_ite, exS_pass, goOn_nx, goOn_rt, fin_nx, fin_rt, frzF_own, frzF_val, getOwn_own, ev_var, ev_pk, ev_cst, ev_glb, ev_bin, ev_not, ev_neg, negF_int, ev_cmp, ev_cmp2, ev_cmp3, ev_and, ev_or, ev_ite, ev_tup, ev_lst, ev_idx, ev_slc, ev_call0, ev_callk, ev_lrng, ev_bi, ev_isi, evs_nil, evs_cons, evD_nil, evD_f, evD_t, evT_nil, evT_cons, evI_seq, evI_rng, evI_enm, elimS, condT, condF, condB, okb, Res.none_bind, Res.bind_assoc, liftS, slot, put, getAny, getVal, List.map_cons, List.map_nil, List.replicate, List.cons_append, List.nil_append, List.append_nil, dr_cell, dr_dP, dr_dI, dr_dL, dr_dW, dr_int, dr_bl, dr_tup, dr_lst, dr_non, dr_str, drs, idxF_lst0, idxF_lst1, idxF_lst2, idxF_tup0, idxF_tup1, idxF_tup2, cmpF_gt, cmpF_le, cmpF_lt, cmpF_ge, cmpF_eq, cmpF_ne, cmpF_in, cmpF_nin, cmpF_eqb, cmpF_neb, inF_dL, inF_lst, inF_tup, truth_bl, truth_int, bindT_nm, bindT_tt, bindT_tl, bindTs_nil, bindTs_nm, seqF_tup, seqF_lst, Option.map_some, Option.map_none, if_true, if_false, Bool.false_eq_true, Nat.reduceAdd, Nat.reduceSub, Nat.reduceEqDiff, Nat.zero_add, binF_add, binF_sub, isi_bool_non, isi_bool_bl, isi_bool_int, isi_bool_str, isi_bool_tup, isi_bool_lst, isi_int_non, isi_int_bl, isi_int_int, isi_int_str, isi_int_tup, isi_int_lst, isi_str_non, isi_str_bl, isi_str_int, isi_str_str, isi_str_tup, isi_str_lst, isi_tuple_non, isi_tuple_bl, isi_tuple_int, isi_tuple_str, isi_tuple_tup, isi_tuple_lst, isi_list_non, isi_list_bl, isi_list_int, isi_list_str, isi_list_tup, isi_list_lst, isi_dict_non, isi_dict_bl, isi_dict_int, isi_dict_str, isi_dict_tup, isi_dict_lst, bnot_bl, Bool.not_true, Bool.not_false, biF_len, biF_list, biF_tuple, biF_sorted, biF_sortedt, biF_all, biF_any, biF_sum, biF_min, biF_max, biF_min2, biF_max2, biF_int, biF_abs, lenF_tup, lenF_lst, szOk0, szOk1, szOk2, szOk3, szOk4, szOk5, szOk6, number_map, Int.cast_ofNat_Int, Int.reduceBEq, Int.reduceBNe, Int.reduceLT, Int.reduceLE, Int.reduceSub, Int.reduceAdd, Int.reduceNeg, decide_true, decide_false, beq_self_eq_true, Int.natCast_zero, Int.natCast_one]
  rw [ev_comp0 _ _ _ dL (fun r => .int (cross ts (inL r) : Nat)) ls (by simp only [start, List.length_cons, List.length_nil, exSs_nil, exSs_cons, exS_asg, exS_asgO, exS_par, exS_exp, exS_frz, exS_retv, exS_reto, exS_ite, exS_pass, goOn_nx, goOn_rt, fin_nx, fin_rt, frzF_own, frzF_val, getOwn_own, ev_var, ev_pk, ev_cst, ev_glb, ev_bin, ev_not, ev_neg, negF_int, ev_cmp, ev_cmp2, ev_cmp3, ev_and, ev_or, ev_ite, ev_tup, ev_lst, ev_idx, ev_slc, ev_call0, ev_callk, ev_lrng, ev_bi, ev_isi, evs_nil, evs_cons, evD_nil, evD_f, evD_t, evT_nil, evT_cons, evI_seq, evI_rng, evI_enm, elimS, condT, condF, condB, okb, Res.none_bind, Res.bind_assoc, liftS, slot, put, getAny, getVal, List.map_cons, List.map_nil, List.replicate, List.cons_append, List.nil_append, List.append_nil, dr_cell, dr_dP, dr_dI, dr_dL, dr_dW, dr_int, dr_bl, dr_tup, dr_lst, dr_non, dr_str, drs, idxF_lst0, idxF_lst1, idxF_lst2, idxF_tup0, idxF_tup1, idxF_tup2, cmpF_gt, cmpF_le, cmpF_lt, cmpF_ge, cmpF_eq, cmpF_ne, cmpF_in, cmpF_nin, cmpF_eqb, cmpF_neb, inF_dL, inF_lst, inF_tup, truth_bl, truth_int, bindT_nm, bindT_tt, bindT_tl, bindTs_nil, bindTs_nm, seqF_tup, seqF_lst, Option.map_some, Option.map_none, if_true, if_false, Bool.false_eq_true, Nat.reduceAdd, Nat.reduceSub, Nat.reduceEqDiff, Nat.zero_add, binF_add, binF_sub, isi_bool_non, isi_bool_bl, isi_bool_int, isi_bool_str, isi_bool_tup, isi_bool_lst, isi_int_non, isi_int_bl, isi_int_int, isi_int_str, isi_int_tup, isi_int_lst, isi_str_non, isi_str_bl, isi_str_int, isi_str_str, isi_str_tup, isi_str_lst, isi_tuple_non, isi_tuple_bl, isi_tuple_int, isi_tuple_str, isi_tuple_tup, isi_tuple_lst, isi_list_non, isi_list_bl, isi_list_int, isi_list_str, isi_list_tup, isi_list_lst, isi_dict_non, isi_dict_bl, isi_dict_int, isi_dict_str, isi_dict_tup, isi_dict_lst, bnot_bl, Bool.not_true, Bool.not_false, biF_len, biF_list, biF_tuple, biF_sorted, biF_sortedt, biF_all, biF_any, biF_sum, biF_min, biF_max, biF_min2, biF_max2, biF_int, biF_abs, lenF_tup, lenF_lst, szOk0, szOk1, szOk2, szOk3, szOk4, szOk5, szOk6, number_map, Int.cast_ofNat_Int, Int.reduceBEq, Int.reduceBNe, Int.reduceLT, Int.reduceLE, Int.reduceSub, Int.reduceAdd, Int.reduceNeg, decide_true, decide_false, beq_self_eq_true, Int.natCast_zero, Int.natCast_one, h3]) ?_ (szOk_le' (by omega))]
  · simp only [start, List.length_cons, List.length_nil, exSs_nil, exSs_cons, exS_asg, exS_asgO, exS_par, exS_exp, exS_frz, exS_retv, exS_reto, exS_ite, exS_pass, goOn_nx, goOn_rt, fin_nx, fin_rt, frzF_own, frzF_val, getOwn_own, ev_var, ev_pk, ev_cst, ev_glb, ev_bin, ev_not, ev_neg, negF_int, ev_cmp, ev_cmp2, ev_cmp3, ev_and, ev_or, ev_ite, ev_tup, ev_lst, ev_idx, ev_slc, ev_call0, ev_callk, ev_lrng, ev_bi, ev_isi, evs_nil, evs_cons, evD_nil, evD_f, evD_t, evT_nil, evT_cons, evI_seq, evI_rng, evI_enm, elimS, condT, condF, condB, okb, Res.none_bind, Res.bind_assoc, liftS, slot, put, getAny, getVal, List.map_cons, List.map_nil, List.replicate, List.cons_append, List.nil_append, List.append_nil, dr_cell, dr_dP, dr_dI, dr_dL, dr_dW, dr_int, dr_bl, dr_tup, dr_lst, dr_non, dr_str, drs, idxF_lst0, idxF_lst1, idxF_lst2, idxF_tup0, idxF_tup1, idxF_tup2, cmpF_gt, cmpF_le, cmpF_lt, cmpF_ge, cmpF_eq, cmpF_ne, cmpF_in, cmpF_nin, cmpF_eqb, cmpF_neb, inF_dL, inF_lst, inF_tup, truth_bl, truth_int, bindT_nm, bindT_tt, bindT_tl, bindTs_nil, bindTs_nm, seqF_tup, seqF_lst, Option.map_some, Option.map_none, if_true, if_false, Bool.false_eq_true, Nat.reduceAdd, Nat.reduceSub, Nat.reduceEqDiff, Nat.zero_add, binF_add, binF_sub, isi_bool_non, isi_bool_bl, isi_bool_int, isi_bool_str, isi_bool_tup, isi_bool_lst, isi_int_non, isi_int_bl, isi_int_int, isi_int_str, isi_int_tup, isi_int_lst, isi_str_non, isi_str_bl, isi_str_int, isi_str_str, isi_str_tup, isi_str_lst, isi_tuple_non, isi_tuple_bl, isi_tuple_int, isi_tuple_str, isi_tuple_tup, isi_tuple_lst, isi_list_non, isi_list_bl, isi_list_int, isi_list_str, isi_list_tup, isi_list_lst, isi_dict_non, isi_dict_bl, isi_dict_int, isi_dict_str, isi_dict_tup, isi_dict_lst, bnot_bl, Bool.not_true, Bool.not_false, biF_len, biF_list, biF_tuple, biF_sorted, biF_sortedt, biF_all, biF_any, biF_sum, biF_min, biF_max, biF_min2, biF_max2, biF_int, biF_abs, lenF_tup, lenF_lst, szOk0, szOk1, szOk2, szOk3, szOk4, szOk5, szOk6, number_map, Int.cast_ofNat_Int, Int.reduceBEq, Int.reduceBNe, Int.reduceLT, Int.reduceLE, Int.reduceSub, Int.reduceAdd, Int.reduceNeg, decide_true, decide_false, beq_self_eq_true, Int.natCast_zero, Int.natCast_one, e]
  · intro r _
    obtain ⟨xs, x1, x2⟩ := ties_out_s (n := n - 1) (by omega) (ts := ts) (by omega) r
    exact ⟨_, rfl, by simp only [start, List.length_cons, List.length_nil, exSs_nil, exSs_cons, exS_asg, exS_asgO, exS_par, exS_exp, exS_frz, exS_retv, exS_reto, exS_ite, exS_pass, goOn_nx, goOn_rt, fin_nx, fin_rt, frzF_own, frzF_val, getOwn_own, ev_var, ev_pk, ev_cst, ev_glb, ev_bin, ev_not, ev_neg, negF_int, ev_cmp, ev_cmp2, ev_cmp3, ev_and, ev_or, ev_ite, ev_tup, ev_lst, ev_idx, ev_slc, ev_call0, ev_callk, ev_lrng, ev_bi, ev_isi, evs_nil, evs_cons, evD_nil, evD_f, evD_t, evT_nil, evT_cons, evI_seq, evI_rng, evI_enm, elimS, condT, condF, condB, okb, Res.none_bind, Res.bind_assoc, liftS, slot, put, getAny, getVal, List.map_cons, List.map_nil, List.replicate, List.cons_append, List.nil_append, List.append_nil, dr_cell, dr_dP, dr_dI, dr_dL, dr_dW, dr_int, dr_bl, dr_tup, dr_lst, dr_non, dr_str, drs, idxF_lst0, idxF_lst1, idxF_lst2, idxF_tup0, idxF_tup1, idxF_tup2, cmpF_gt, cmpF_le, cmpF_lt, cmpF_ge, cmpF_eq, cmpF_ne, cmpF_in, cmpF_nin, cmpF_eqb, cmpF_neb, inF_dL, inF_lst, inF_tup, truth_bl, truth_int, bindT_nm, bindT_tt, bindT_tl, bindTs_nil, bindTs_nm, seqF_tup, seqF_lst, Option.map_some, Option.map_none, if_true, if_false, Bool.false_eq_true, Nat.reduceAdd, Nat.reduceSub, Nat.reduceEqDiff, Nat.zero_add, binF_add, binF_sub, isi_bool_non, isi_bool_bl, isi_bool_int, isi_bool_str, isi_bool_tup, isi_bool_lst, isi_int_non, isi_int_bl, isi_int_int, isi_int_str, isi_int_tup, isi_int_lst, isi_str_non, isi_str_bl, isi_str_int, isi_str_str, isi_str_tup, isi_str_lst, isi_tuple_non, isi_tuple_bl, isi_tuple_int, isi_tuple_str, isi_tuple_tup, isi_tuple_lst, isi_list_non, isi_list_bl, isi_list_int, isi_list_str, isi_list_tup, isi_list_lst, isi_dict_non, isi_dict_bl, isi_dict_int, isi_dict_str, isi_dict_tup, isi_dict_lst, bnot_bl, Bool.not_true, Bool.not_false, biF_len, biF_list, biF_tuple, biF_sorted, biF_sortedt, biF_all, biF_any, biF_sum, biF_min, biF_max, biF_min2, biF_max2, biF_int, biF_abs, lenF_tup, lenF_lst, szOk0, szOk1, szOk2, szOk3, szOk4, szOk5, szOk6, number_map, Int.cast_ofNat_Int, Int.reduceBEq, Int.reduceBNe, Int.reduceLT, Int.reduceLE, Int.reduceSub, Int.reduceAdd, Int.reduceNeg, decide_true, decide_false, beq_self_eq_true, Int.natCast_zero, Int.natCast_one, x2, x1]⟩
theorem width_s {n : Nat} (h : 7 ≤ n) {m : Nat} {ts : List (Nat × Nat)} (w : WebOk m ts) {a b : Nat} (ha : a < m) (hb : b < m) (ne : a ≠ b) : ∃ k : Nat, IsW ts a b k ∧ ∀ s, callF T n "width" [dW m ts, .int a, .int b] s = some (.ok (.int k), s) := by
  obtain ⟨k, h1, h2⟩ := width_by_s (n := n - 1) (by omega) w ha hb ne
  refine ⟨k, h1, fun s => ?_⟩
  rw [callF_run T (m := n - 1) (by omega) fn_width _ _ rfl]
  have c1 := fun s => check_web_s (n := n - 1) (by omega) w s
  have c2 := fun s => check_two_s (n := n - 1) (by omega) (y := .tup (ts.map dP)) ha hb ne s
  simp only [d_width, start, List.length_cons, List.length_nil, exSs_nil, exSs_cons, exS_asg, exS_asgO, exS_par, exS_exp, exS_frz, exS_retv, exS_reto, exS_ite, exS_pass, goOn_nx, goOn_rt, fin_nx, fin_rt, frzF_own, frzF_val, getOwn_own, ev_var, ev_pk, ev_cst, ev_glb, ev_bin, ev_not, ev_neg, negF_int, ev_cmp, ev_cmp2, ev_cmp3, ev_and, ev_or, ev_ite, ev_tup, ev_lst, ev_idx, ev_slc, ev_call0, ev_callk, ev_lrng, ev_bi, ev_isi, evs_nil, evs_cons, evD_nil, evD_f, evD_t, evT_nil, evT_cons, evI_seq, evI_rng, evI_enm, elimS, condT, condF, condB, okb, Res.none_bind, Res.bind_assoc, liftS, slot, put, getAny, getVal, List.map_cons, List.map_nil, List.replicate, List.cons_append, List.nil_append, List.append_nil, dr_cell, dr_dP, dr_dI, dr_dL, dr_dW, dr_int, dr_bl, dr_tup, dr_lst, dr_non, dr_str, drs, idxF_lst0, idxF_lst1, idxF_lst2, idxF_tup0, idxF_tup1, idxF_tup2, cmpF_gt, cmpF_le, cmpF_lt, cmpF_ge, cmpF_eq, cmpF_ne, cmpF_in, cmpF_nin, cmpF_eqb, cmpF_neb, inF_dL, inF_lst, inF_tup, truth_bl, truth_int, bindT_nm, bindT_tt, bindT_tl, bindTs_nil, bindTs_nm, seqF_tup, seqF_lst, Option.map_some, Option.map_none, if_true, if_false, Bool.false_eq_true, Nat.reduceAdd, Nat.reduceSub, Nat.reduceEqDiff, Nat.zero_add, binF_add, binF_sub, isi_bool_non, isi_bool_bl, isi_bool_int, isi_bool_str, isi_bool_tup, isi_bool_lst, isi_int_non, isi_int_bl, isi_int_int, isi_int_str, isi_int_tup, isi_int_lst, isi_str_non, isi_str_bl, isi_str_int, isi_str_str, isi_str_tup, isi_str_lst, isi_tuple_non, isi_tuple_bl, isi_tuple_int, isi_tuple_str, isi_tuple_tup, isi_tuple_lst, isi_list_non, isi_list_bl, isi_list_int, isi_list_str, isi_list_tup, isi_list_lst, isi_dict_non, isi_dict_bl, isi_dict_int, isi_dict_str, isi_dict_tup, isi_dict_lst, bnot_bl, Bool.not_true, Bool.not_false, biF_len, biF_list, biF_tuple, biF_sorted, biF_sortedt, biF_all, biF_any, biF_sum, biF_min, biF_max, biF_min2, biF_max2, biF_int, biF_abs, lenF_tup, lenF_lst, szOk0, szOk1, szOk2, szOk3, szOk4, szOk5, szOk6, number_map, Int.cast_ofNat_Int, Int.reduceBEq, Int.reduceBNe, Int.reduceLT, Int.reduceLE, Int.reduceSub, Int.reduceAdd, Int.reduceNeg, decide_true, decide_false, beq_self_eq_true, Int.natCast_zero, Int.natCast_one, c1, h2]
  simp only [dW, c2, start, List.length_cons, List.length_nil, exSs_nil, exSs_cons, exS_asg, exS_asgO, exS_par, exS_exp, exS_frz, exS_retv, exS_reto, exS_ite, exS_pass, goOn_nx, goOn_rt, fin_nx, fin_rt, frzF_own, frzF_val, getOwn_own, ev_var, ev_pk, ev_cst, ev_glb, ev_bin, ev_not, ev_neg, negF_int, ev_cmp, ev_cmp2, ev_cmp3, ev_and, ev_or, ev_ite, ev_tup, ev_lst, ev_idx, ev_slc, ev_call0, ev_callk, ev_lrng, ev_bi, ev_isi, evs_nil, evs_cons, evD_nil, evD_f, evD_t, evT_nil, evT_cons, evI_seq, evI_rng, evI_enm, elimS, condT, condF, condB, okb, Res.none_bind, Res.bind_assoc, liftS, slot, put, getAny, getVal, List.map_cons, List.map_nil, List.replicate, List.cons_append, List.nil_append, List.append_nil, dr_cell, dr_dP, dr_dI, dr_dL, dr_dW, dr_int, dr_bl, dr_tup, dr_lst, dr_non, dr_str, drs, idxF_lst0, idxF_lst1, idxF_lst2, idxF_tup0, idxF_tup1, idxF_tup2, cmpF_gt, cmpF_le, cmpF_lt, cmpF_ge, cmpF_eq, cmpF_ne, cmpF_in, cmpF_nin, cmpF_eqb, cmpF_neb, inF_dL, inF_lst, inF_tup, truth_bl, truth_int, bindT_nm, bindT_tt, bindT_tl, bindTs_nil, bindTs_nm, seqF_tup, seqF_lst, Option.map_some, Option.map_none, if_true, if_false, Bool.false_eq_true, Nat.reduceAdd, Nat.reduceSub, Nat.reduceEqDiff, Nat.zero_add, binF_add, binF_sub, isi_bool_non, isi_bool_bl, isi_bool_int, isi_bool_str, isi_bool_tup, isi_bool_lst, isi_int_non, isi_int_bl, isi_int_int, isi_int_str, isi_int_tup, isi_int_lst, isi_str_non, isi_str_bl, isi_str_int, isi_str_str, isi_str_tup, isi_str_lst, isi_tuple_non, isi_tuple_bl, isi_tuple_int, isi_tuple_str, isi_tuple_tup, isi_tuple_lst, isi_list_non, isi_list_bl, isi_list_int, isi_list_str, isi_list_tup, isi_list_lst, isi_dict_non, isi_dict_bl, isi_dict_int, isi_dict_str, isi_dict_tup, isi_dict_lst, bnot_bl, Bool.not_true, Bool.not_false, biF_len, biF_list, biF_tuple, biF_sorted, biF_sortedt, biF_all, biF_any, biF_sum, biF_min, biF_max, biF_min2, biF_max2, biF_int, biF_abs, lenF_tup, lenF_lst, szOk0, szOk1, szOk2, szOk3, szOk4, szOk5, szOk6, number_map, Int.cast_ofNat_Int, Int.reduceBEq, Int.reduceBNe, Int.reduceLT, Int.reduceLE, Int.reduceSub, Int.reduceAdd, Int.reduceNeg, decide_true, decide_false, beq_self_eq_true, Int.natCast_zero, Int.natCast_one] at h2 ⊢
end PyD.K42

namespace PyD.K42
open PySem PyD
theorem hdraw : T.fn "_law_draw" = some (dDraw 2147483579) := fn__law_draw
theorem eqvAll_map {α : Type} (f : α → D) (h : ∀ x, D.eqv (f x) (f x) = true) : ∀ xs : List α, eqvAll (xs.map f) (xs.map f) = true
  | [] => rfl
  | x :: xs => by
    show (D.eqv (f x) (f x) && eqvAll (xs.map f) (xs.map f)) = true
    rw [h, eqvAll_map f h xs]
    rfl
theorem eqv_dP (p : Nat × Nat) : D.eqv (dP p) (dP p) = true := by
  show (D.eqv (.int p.1) (.int p.1) && (D.eqv (.int p.2) (.int p.2) && true)) = true
  rw [eqv_int, eqv_int, beq_self_eq_true, beq_self_eq_true]
  rfl
theorem okD_map {α : Type} (f : α → D) (h : ∀ x, D.okN 19 (f x) = true) (xs : List α) : okD (.lst (xs.map f)) = true := by
  show (xs.map f).all (D.okN 19) = true
  rw [List.all_eq_true]
  intro d hd
  obtain ⟨x, _, rfl⟩ := List.mem_map.mp hd
  exact h x
theorem cmpF_eq_map {α : Type} (f : α → D) (h : ∀ x, D.okN 19 (f x) = true) (h2 : ∀ x, D.eqv (f x) (f x) = true) (xs : List α) : cmpF .eq (.lst (xs.map f)) (.lst (xs.map f)) = some true := by
  show (if okD (.lst (xs.map f)) && okD (.lst (xs.map f)) then some (eqvAll (xs.map f) (xs.map f)) else none) = _
  rw [okD_map f h, eqvAll_map f h2]
  rfl
theorem sort_web {m : Nat} {ts : List (Nat × Nat)} (w : WebOk m ts) : sortF (ts.map dP) = some (ts.map dP) := by
  rw [sortF_enc ltP ltB_dP (fun _ => rfl) (fun _ _ => rfl), isortA_id ltP ts w.sorted]
theorem law_is_whole_s {n : Nat} (h : 1 ≤ n) (x : Int) (s : Stt) : callF T n "_law_is_whole" [.int x] s = some (.ok (.bl true), s) := by
  rw [callF_run T (m := n - 1) (by omega) fn__law_is_whole _ _ rfl]
  simp only [d__law_is_whole, start, List.length_cons, List.length_nil, exSs_nil, exSs_cons, exS_asg, exS_asgO, exS_par, exS_exp, exS_frz, exS_retv, exS_reto, exS_ite, exS_pass, goOn_nx, goOn_rt, fin_nx, fin_rt, frzF_own, frzF_val, getOwn_own, ev_var, ev_pk, ev_cst, ev_glb, ev_bin, ev_not, ev_neg, negF_int, ev_cmp, ev_cmp2, ev_cmp3, ev_and, ev_or, ev_ite, ev_tup, ev_lst, ev_idx, ev_slc, ev_call0, ev_callk, ev_lrng, ev_bi, ev_isi, evs_nil, evs_cons, evD_nil, evD_f, evD_t, evT_nil, evT_cons, evI_seq, evI_rng, evI_enm, elimS, condT, condF, condB, okb, Res.none_bind, Res.bind_assoc, liftS, slot, put, getAny, getVal, List.map_cons, List.map_nil, List.replicate, List.cons_append, List.nil_append, List.append_nil, dr_cell, dr_dP, dr_dI, dr_dL, dr_dW, dr_int, dr_bl, dr_tup, dr_lst, dr_non, dr_str, drs, idxF_lst0, idxF_lst1, idxF_lst2, idxF_tup0, idxF_tup1, idxF_tup2, cmpF_gt, cmpF_le, cmpF_lt, cmpF_ge, cmpF_eq, cmpF_ne, cmpF_in, cmpF_nin, cmpF_eqb, cmpF_neb, inF_dL, inF_lst, inF_tup, truth_bl, truth_int, bindT_nm, bindT_tt, bindT_tl, bindTs_nil, bindTs_nm, seqF_tup, seqF_lst, Option.map_some, Option.map_none, if_true, if_false, Bool.false_eq_true, Nat.reduceAdd, Nat.reduceSub, Nat.reduceEqDiff, Nat.zero_add, binF_add, binF_sub, isi_bool_non, isi_bool_bl, isi_bool_int, isi_bool_str, isi_bool_tup, isi_bool_lst, isi_int_non, isi_int_bl, isi_int_int, isi_int_str, isi_int_tup, isi_int_lst, isi_str_non, isi_str_bl, isi_str_int, isi_str_str, isi_str_tup, isi_str_lst, isi_tuple_non, isi_tuple_bl, isi_tuple_int, isi_tuple_str, isi_tuple_tup, isi_tuple_lst, isi_list_non, isi_list_bl, isi_list_int, isi_list_str, isi_list_tup, isi_list_lst, isi_dict_non, isi_dict_bl, isi_dict_int, isi_dict_str, isi_dict_tup, isi_dict_lst, bnot_bl, Bool.not_true, Bool.not_false, biF_len, biF_list, biF_tuple, biF_sorted, biF_sortedt, biF_all, biF_any, biF_sum, biF_min, biF_max, biF_min2, biF_max2, biF_int, biF_abs, lenF_tup, lenF_lst, szOk0, szOk1, szOk2, szOk3, szOk4, szOk5, szOk6, number_map, Int.cast_ofNat_Int, Int.reduceBEq, Int.reduceBNe, Int.reduceLT, Int.reduceLE, Int.reduceSub, Int.reduceAdd, Int.reduceNeg, decide_true, decide_false, beq_self_eq_true, Int.natCast_zero, Int.natCast_one]
theorem law_is_web_s {n : Nat} (h : 2 ≤ n) {m : Nat} {ts : List (Nat × Nat)} (w : WebOk m ts) (s : Stt) : callF T n "_law_is_web" [dW m ts] s = some (.ok (.bl true), s) := by
  have := w.n2
  have := w.n7
  have h1 := w.t1
  have h2 := w.t12
  have c0 := fun x s => law_is_whole_s (n := n - 1) (by omega) x s
  have c1 : (1 : Int) < (m : Int) := by omega
  have c2 : (m : Int) < 8 := by omega
  have c3 : (0 : Int) < ((ts.map dP).length : Nat) := by rw [List.length_map]; omega
  have c4 : (((ts.map dP).length : Nat) : Int) < 13 := by rw [List.length_map]; omega
  rw [callF_run T (m := n - 1) (by omega) fn__law_is_web _ _ rfl]
  simp only [d__law_is_web, dW, start, List.length_cons, List.length_nil, exSs_nil, exSs_cons, exS_asg, exS_asgO, exS_par, exS_exp, exS_frz, exS_retv, exS_reto, exS_ite, exS_pass, goOn_nx, goOn_rt, fin_nx, fin_rt, frzF_own, frzF_val, getOwn_own, ev_var, ev_pk, ev_cst, ev_glb, ev_bin, ev_not, ev_neg, negF_int, ev_cmp, ev_cmp2, ev_cmp3, ev_and, ev_or, ev_ite, ev_tup, ev_lst, ev_idx, ev_slc, ev_call0, ev_callk, ev_lrng, ev_bi, ev_isi, evs_nil, evs_cons, evD_nil, evD_f, evD_t, evT_nil, evT_cons, evI_seq, evI_rng, evI_enm, elimS, condT, condF, condB, okb, Res.none_bind, Res.bind_assoc, liftS, slot, put, getAny, getVal, List.map_cons, List.map_nil, List.replicate, List.cons_append, List.nil_append, List.append_nil, dr_cell, dr_dP, dr_dI, dr_dL, dr_dW, dr_int, dr_bl, dr_tup, dr_lst, dr_non, dr_str, drs, idxF_lst0, idxF_lst1, idxF_lst2, idxF_tup0, idxF_tup1, idxF_tup2, cmpF_gt, cmpF_le, cmpF_lt, cmpF_ge, cmpF_eq, cmpF_ne, cmpF_in, cmpF_nin, cmpF_eqb, cmpF_neb, inF_dL, inF_lst, inF_tup, truth_bl, truth_int, bindT_nm, bindT_tt, bindT_tl, bindTs_nil, bindTs_nm, seqF_tup, seqF_lst, Option.map_some, Option.map_none, if_true, if_false, Bool.false_eq_true, Nat.reduceAdd, Nat.reduceSub, Nat.reduceEqDiff, Nat.zero_add, binF_add, binF_sub, isi_bool_non, isi_bool_bl, isi_bool_int, isi_bool_str, isi_bool_tup, isi_bool_lst, isi_int_non, isi_int_bl, isi_int_int, isi_int_str, isi_int_tup, isi_int_lst, isi_str_non, isi_str_bl, isi_str_int, isi_str_str, isi_str_tup, isi_str_lst, isi_tuple_non, isi_tuple_bl, isi_tuple_int, isi_tuple_str, isi_tuple_tup, isi_tuple_lst, isi_list_non, isi_list_bl, isi_list_int, isi_list_str, isi_list_tup, isi_list_lst, isi_dict_non, isi_dict_bl, isi_dict_int, isi_dict_str, isi_dict_tup, isi_dict_lst, bnot_bl, Bool.not_true, Bool.not_false, biF_len, biF_list, biF_tuple, biF_sorted, biF_sortedt, biF_all, biF_any, biF_sum, biF_min, biF_max, biF_min2, biF_max2, biF_int, biF_abs, lenF_tup, lenF_lst, szOk0, szOk1, szOk2, szOk3, szOk4, szOk5, szOk6, number_map, Int.cast_ofNat_Int, Int.reduceBEq, Int.reduceBNe, Int.reduceLT, Int.reduceLE, Int.reduceSub, Int.reduceAdd, Int.reduceNeg, decide_true, decide_false, beq_self_eq_true, Int.natCast_zero, Int.natCast_one, c0, c1, c2, c3, c4]
  refine exS_pre _ _ _ dP (fun _ env => ∃ a, env = [Slot.val (dW m ts), a]) ts (by simp only [dW, start, List.length_cons, List.length_nil, exSs_nil, exSs_cons, exS_asg, exS_asgO, exS_par, exS_exp, exS_frz, exS_retv, exS_reto, exS_ite, exS_pass, goOn_nx, goOn_rt, fin_nx, fin_rt, frzF_own, frzF_val, getOwn_own, ev_var, ev_pk, ev_cst, ev_glb, ev_bin, ev_not, ev_neg, negF_int, ev_cmp, ev_cmp2, ev_cmp3, ev_and, ev_or, ev_ite, ev_tup, ev_lst, ev_idx, ev_slc, ev_call0, ev_callk, ev_lrng, ev_bi, ev_isi, evs_nil, evs_cons, evD_nil, evD_f, evD_t, evT_nil, evT_cons, evI_seq, evI_rng, evI_enm, elimS, condT, condF, condB, okb, Res.none_bind, Res.bind_assoc, liftS, slot, put, getAny, getVal, List.map_cons, List.map_nil, List.replicate, List.cons_append, List.nil_append, List.append_nil, dr_cell, dr_dP, dr_dI, dr_dL, dr_dW, dr_int, dr_bl, dr_tup, dr_lst, dr_non, dr_str, drs, idxF_lst0, idxF_lst1, idxF_lst2, idxF_tup0, idxF_tup1, idxF_tup2, cmpF_gt, cmpF_le, cmpF_lt, cmpF_ge, cmpF_eq, cmpF_ne, cmpF_in, cmpF_nin, cmpF_eqb, cmpF_neb, inF_dL, inF_lst, inF_tup, truth_bl, truth_int, bindT_nm, bindT_tt, bindT_tl, bindTs_nil, bindTs_nm, seqF_tup, seqF_lst, Option.map_some, Option.map_none, if_true, if_false, Bool.false_eq_true, Nat.reduceAdd, Nat.reduceSub, Nat.reduceEqDiff, Nat.zero_add, binF_add, binF_sub, isi_bool_non, isi_bool_bl, isi_bool_int, isi_bool_str, isi_bool_tup, isi_bool_lst, isi_int_non, isi_int_bl, isi_int_int, isi_int_str, isi_int_tup, isi_int_lst, isi_str_non, isi_str_bl, isi_str_int, isi_str_str, isi_str_tup, isi_str_lst, isi_tuple_non, isi_tuple_bl, isi_tuple_int, isi_tuple_str, isi_tuple_tup, isi_tuple_lst, isi_list_non, isi_list_bl, isi_list_int, isi_list_str, isi_list_tup, isi_list_lst, isi_dict_non, isi_dict_bl, isi_dict_int, isi_dict_str, isi_dict_tup, isi_dict_lst, bnot_bl, Bool.not_true, Bool.not_false, biF_len, biF_list, biF_tuple, biF_sorted, biF_sortedt, biF_all, biF_any, biF_sum, biF_min, biF_max, biF_min2, biF_max2, biF_int, biF_abs, lenF_tup, lenF_lst, szOk0, szOk1, szOk2, szOk3, szOk4, szOk5, szOk6, number_map, Int.cast_ofNat_Int, Int.reduceBEq, Int.reduceBNe, Int.reduceLT, Int.reduceLE, Int.reduceSub, Int.reduceAdd, Int.reduceNeg, decide_true, decide_false, beq_self_eq_true, Int.natCast_zero, Int.natCast_one]) ?_ ⟨_, rfl⟩ ?_
  · rintro pre p post _ e ⟨a, rfl⟩
    have pm : p ∈ ts := by rw [e]; simp
    have pp := w.pairs p pm
    have k1 : (-1 : Int) < (p.1 : Int) := by omega
    have k2 : (p.1 : Int) < (p.2 : Int) := by omega
    have k3 : (p.2 : Int) < (m : Int) := by omega
    refine ⟨_, _, rfl, ?_, .val (dP p), rfl⟩
    simp only [dW, dP, start, List.length_cons, List.length_nil, exSs_nil, exSs_cons, exS_asg, exS_asgO, exS_par, exS_exp, exS_frz, exS_retv, exS_reto, exS_ite, exS_pass, goOn_nx, goOn_rt, fin_nx, fin_rt, frzF_own, frzF_val, getOwn_own, ev_var, ev_pk, ev_cst, ev_glb, ev_bin, ev_not, ev_neg, negF_int, ev_cmp, ev_cmp2, ev_cmp3, ev_and, ev_or, ev_ite, ev_tup, ev_lst, ev_idx, ev_slc, ev_call0, ev_callk, ev_lrng, ev_bi, ev_isi, evs_nil, evs_cons, evD_nil, evD_f, evD_t, evT_nil, evT_cons, evI_seq, evI_rng, evI_enm, elimS, condT, condF, condB, okb, Res.none_bind, Res.bind_assoc, liftS, slot, put, getAny, getVal, List.map_cons, List.map_nil, List.replicate, List.cons_append, List.nil_append, List.append_nil, dr_cell, dr_dP, dr_dI, dr_dL, dr_dW, dr_int, dr_bl, dr_tup, dr_lst, dr_non, dr_str, drs, idxF_lst0, idxF_lst1, idxF_lst2, idxF_tup0, idxF_tup1, idxF_tup2, cmpF_gt, cmpF_le, cmpF_lt, cmpF_ge, cmpF_eq, cmpF_ne, cmpF_in, cmpF_nin, cmpF_eqb, cmpF_neb, inF_dL, inF_lst, inF_tup, truth_bl, truth_int, bindT_nm, bindT_tt, bindT_tl, bindTs_nil, bindTs_nm, seqF_tup, seqF_lst, Option.map_some, Option.map_none, if_true, if_false, Bool.false_eq_true, Nat.reduceAdd, Nat.reduceSub, Nat.reduceEqDiff, Nat.zero_add, binF_add, binF_sub, isi_bool_non, isi_bool_bl, isi_bool_int, isi_bool_str, isi_bool_tup, isi_bool_lst, isi_int_non, isi_int_bl, isi_int_int, isi_int_str, isi_int_tup, isi_int_lst, isi_str_non, isi_str_bl, isi_str_int, isi_str_str, isi_str_tup, isi_str_lst, isi_tuple_non, isi_tuple_bl, isi_tuple_int, isi_tuple_str, isi_tuple_tup, isi_tuple_lst, isi_list_non, isi_list_bl, isi_list_int, isi_list_str, isi_list_tup, isi_list_lst, isi_dict_non, isi_dict_bl, isi_dict_int, isi_dict_str, isi_dict_tup, isi_dict_lst, bnot_bl, Bool.not_true, Bool.not_false, biF_len, biF_list, biF_tuple, biF_sorted, biF_sortedt, biF_all, biF_any, biF_sum, biF_min, biF_max, biF_min2, biF_max2, biF_int, biF_abs, lenF_tup, lenF_lst, szOk0, szOk1, szOk2, szOk3, szOk4, szOk5, szOk6, number_map, Int.cast_ofNat_Int, Int.reduceBEq, Int.reduceBNe, Int.reduceLT, Int.reduceLE, Int.reduceSub, Int.reduceAdd, Int.reduceNeg, decide_true, decide_false, beq_self_eq_true, Int.natCast_zero, Int.natCast_one, c0, k1, k2, k3]
  · rintro _ ⟨a, rfl⟩
    simp only [dW, start, List.length_cons, List.length_nil, exSs_nil, exSs_cons, exS_asg, exS_asgO, exS_par, exS_exp, exS_frz, exS_retv, exS_reto, exS_ite, exS_pass, goOn_nx, goOn_rt, fin_nx, fin_rt, frzF_own, frzF_val, getOwn_own, ev_var, ev_pk, ev_cst, ev_glb, ev_bin, ev_not, ev_neg, negF_int, ev_cmp, ev_cmp2, ev_cmp3, ev_and, ev_or, ev_ite, ev_tup, ev_lst, ev_idx, ev_slc, ev_call0, ev_callk, ev_lrng, ev_bi, ev_isi, evs_nil, evs_cons, evD_nil, evD_f, evD_t, evT_nil, evT_cons, evI_seq, evI_rng, evI_enm, elimS, condT, condF, condB, okb, Res.none_bind, Res.bind_assoc, liftS, slot, put, getAny, getVal, List.map_cons, List.map_nil, List.replicate, List.cons_append, List.nil_append, List.append_nil, dr_cell, dr_dP, dr_dI, dr_dL, dr_dW, dr_int, dr_bl, dr_tup, dr_lst, dr_non, dr_str, drs, idxF_lst0, idxF_lst1, idxF_lst2, idxF_tup0, idxF_tup1, idxF_tup2, cmpF_gt, cmpF_le, cmpF_lt, cmpF_ge, cmpF_eq, cmpF_ne, cmpF_in, cmpF_nin, cmpF_eqb, cmpF_neb, inF_dL, inF_lst, inF_tup, truth_bl, truth_int, bindT_nm, bindT_tt, bindT_tl, bindTs_nil, bindTs_nm, seqF_tup, seqF_lst, Option.map_some, Option.map_none, if_true, if_false, Bool.false_eq_true, Nat.reduceAdd, Nat.reduceSub, Nat.reduceEqDiff, Nat.zero_add, binF_add, binF_sub, isi_bool_non, isi_bool_bl, isi_bool_int, isi_bool_str, isi_bool_tup, isi_bool_lst, isi_int_non, isi_int_bl, isi_int_int, isi_int_str, isi_int_tup, isi_int_lst, isi_str_non, isi_str_bl, isi_str_int, isi_str_str, isi_str_tup, isi_str_lst, isi_tuple_non, isi_tuple_bl, isi_tuple_int, isi_tuple_str, isi_tuple_tup, isi_tuple_lst, isi_list_non, isi_list_bl, isi_list_int, isi_list_str, isi_list_tup, isi_list_lst, isi_dict_non, isi_dict_bl, isi_dict_int, isi_dict_str, isi_dict_tup, isi_dict_lst, bnot_bl, Bool.not_true, Bool.not_false, biF_len, biF_list, biF_tuple, biF_sorted, biF_sortedt, biF_all, biF_any, biF_sum, biF_min, biF_max, biF_min2, biF_max2, biF_int, biF_abs, lenF_tup, lenF_lst, szOk0, szOk1, szOk2, szOk3, szOk4, szOk5, szOk6, number_map, Int.cast_ofNat_Int, Int.reduceBEq, Int.reduceBNe, Int.reduceLT, Int.reduceLE, Int.reduceSub, Int.reduceAdd, Int.reduceNeg, decide_true, decide_false, beq_self_eq_true, Int.natCast_zero, Int.natCast_one, sort_web w, cmpF_eq_map dP (fun _ => rfl) eqv_dP]
theorem slc63 (ns : List Int) : ∃ ys : List Int, slcF (.lst (ns.map D.int)) .non (.int 63) = some (.lst (ys.map D.int)) := by
  refine ⟨(ns.drop 0).take (cutAt (ns.map D.int).length 63 - 0), ?_⟩
  show some (D.lst (((ns.map D.int).drop 0).take (cutAt (ns.map D.int).length 63 - 0))) = _
  rw [List.map_take, List.map_drop]
theorem ok_pool {r : Res D} {s : Stt} (h : r.Ok fun d s' => (∃ a b : Int, d = .lst [.int a, .int b, .int 0]) ∧ s' = s) : ∃ a b : Int, r = some (.ok (.lst [.int a, .int b, .int 0]), s) := by
  obtain ⟨d, s', e, ⟨a, b, rfl⟩, rfl⟩ := h
  exact ⟨a, b, e⟩
theorem law_pool_s {n : Nat} (h : 1 ≤ n) (ns : List Int) (lap : Nat) (s : Stt) : ∃ a b : Int, callF T n "_law_pool" [.lst (ns.map D.int), .int lap] s = some (.ok (.lst [.int a, .int b, .int 0]), s) := by
  obtain ⟨ys, hy⟩ := slc63 ns
  have m1 : ∀ i, binF .mul (.int 70001) (.int i) = some (.int (70001 * i)) := fun i => binF_mul _ _ (mulOk_l _ _ (by decide))
  have m2 : ∀ i, binF .mul (.int 5087) (.int i) = some (.int (5087 * i)) := fun i => binF_mul _ _ (mulOk_l _ _ (by decide))
  have m3 : ∀ i, binF .mul (.int i) (.int 48271) = some (.int (i * 48271)) := fun i => binF_mul _ _ (mulOk_r _ _ (by decide))
  have m4 : ∀ i, binF .mul (.int i) (.int 1013) = some (.int (i * 1013)) := fun i => binF_mul _ _ (mulOk_r _ _ (by decide))
  have m5 : ∀ i, binF .mod (.int i) (.int 2147483579) = some (.int (i % 2147483579)) := fun i => binF_mod _ _ (by decide)
  have m6 : binF .pow (.int 10) (.int 18) = some (.int (10 ^ 18)) := rfl
  obtain ⟨own, ho⟩ : ∃ own : Int, ∀ s, ev ⟨callF T (n - 1), T.gl, T.wf⟩ (.ite (.cmp .lt (.pk 1) (.bi .len [(.pk 0)])) (.bi .int [(.idx (.pk 0) (.pk 1))]) (.bin .add (.bin .mul (.cst (.int 70001)) (.pk 1)) (.cst (.int 27078)))) [Slot.val (.lst (ns.map D.int)), .val (.int lap), .un, .un, .un] s = some (.ok (.int own), s) := by
    by_cases hl : lap < ns.length
    · have k1 : (lap : Int) < ((ns.map D.int).length : Nat) := by rw [List.length_map]; omega
      have k2 := idxF_lst_map D.int ns lap hl
      exact ⟨ns[lap], fun s => by simp only [start, List.length_cons, List.length_nil, exSs_nil, exSs_cons, exS_asg, exS_asgO, exS_par, exS_exp, exS_frz, exS_retv, exS_reto, exS_ite, exS_pass, goOn_nx, goOn_rt, fin_nx, fin_rt, frzF_own, frzF_val, getOwn_own, ev_var, ev_pk, ev_cst, ev_glb, ev_bin, ev_not, ev_neg, negF_int, ev_cmp, ev_cmp2, ev_cmp3, ev_and, ev_or, ev_ite, ev_tup, ev_lst, ev_idx, ev_slc, ev_call0, ev_callk, ev_lrng, ev_bi, ev_isi, evs_nil, evs_cons, evD_nil, evD_f, evD_t, evT_nil, evT_cons, evI_seq, evI_rng, evI_enm, elimS, condT, condF, condB, okb, Res.none_bind, Res.bind_assoc, liftS, slot, put, getAny, getVal, List.map_cons, List.map_nil, List.replicate, List.cons_append, List.nil_append, List.append_nil, dr_cell, dr_dP, dr_dI, dr_dL, dr_dW, dr_int, dr_bl, dr_tup, dr_lst, dr_non, dr_str, drs, idxF_lst0, idxF_lst1, idxF_lst2, idxF_tup0, idxF_tup1, idxF_tup2, cmpF_gt, cmpF_le, cmpF_lt, cmpF_ge, cmpF_eq, cmpF_ne, cmpF_in, cmpF_nin, cmpF_eqb, cmpF_neb, inF_dL, inF_lst, inF_tup, truth_bl, truth_int, bindT_nm, bindT_tt, bindT_tl, bindTs_nil, bindTs_nm, seqF_tup, seqF_lst, Option.map_some, Option.map_none, if_true, if_false, Bool.false_eq_true, Nat.reduceAdd, Nat.reduceSub, Nat.reduceEqDiff, Nat.zero_add, binF_add, binF_sub, isi_bool_non, isi_bool_bl, isi_bool_int, isi_bool_str, isi_bool_tup, isi_bool_lst, isi_int_non, isi_int_bl, isi_int_int, isi_int_str, isi_int_tup, isi_int_lst, isi_str_non, isi_str_bl, isi_str_int, isi_str_str, isi_str_tup, isi_str_lst, isi_tuple_non, isi_tuple_bl, isi_tuple_int, isi_tuple_str, isi_tuple_tup, isi_tuple_lst, isi_list_non, isi_list_bl, isi_list_int, isi_list_str, isi_list_tup, isi_list_lst, isi_dict_non, isi_dict_bl, isi_dict_int, isi_dict_str, isi_dict_tup, isi_dict_lst, bnot_bl, Bool.not_true, Bool.not_false, biF_len, biF_list, biF_tuple, biF_sorted, biF_sortedt, biF_all, biF_any, biF_sum, biF_min, biF_max, biF_min2, biF_max2, biF_int, biF_abs, lenF_tup, lenF_lst, szOk0, szOk1, szOk2, szOk3, szOk4, szOk5, szOk6, number_map, Int.cast_ofNat_Int, Int.reduceBEq, Int.reduceBNe, Int.reduceLT, Int.reduceLE, Int.reduceSub, Int.reduceAdd, Int.reduceNeg, decide_true, decide_false, beq_self_eq_true, Int.natCast_zero, Int.natCast_one, k1, k2]⟩
    · have k1 : ¬ (lap : Int) < ((ns.map D.int).length : Nat) := by rw [List.length_map]; omega
      exact ⟨_, fun s => by simp only [start, List.length_cons, List.length_nil, exSs_nil, exSs_cons, exS_asg, exS_asgO, exS_par, exS_exp, exS_frz, exS_retv, exS_reto, exS_ite, exS_pass, goOn_nx, goOn_rt, fin_nx, fin_rt, frzF_own, frzF_val, getOwn_own, ev_var, ev_pk, ev_cst, ev_glb, ev_bin, ev_not, ev_neg, negF_int, ev_cmp, ev_cmp2, ev_cmp3, ev_and, ev_or, ev_ite, ev_tup, ev_lst, ev_idx, ev_slc, ev_call0, ev_callk, ev_lrng, ev_bi, ev_isi, evs_nil, evs_cons, evD_nil, evD_f, evD_t, evT_nil, evT_cons, evI_seq, evI_rng, evI_enm, elimS, condT, condF, condB, okb, Res.none_bind, Res.bind_assoc, liftS, slot, put, getAny, getVal, List.map_cons, List.map_nil, List.replicate, List.cons_append, List.nil_append, List.append_nil, dr_cell, dr_dP, dr_dI, dr_dL, dr_dW, dr_int, dr_bl, dr_tup, dr_lst, dr_non, dr_str, drs, idxF_lst0, idxF_lst1, idxF_lst2, idxF_tup0, idxF_tup1, idxF_tup2, cmpF_gt, cmpF_le, cmpF_lt, cmpF_ge, cmpF_eq, cmpF_ne, cmpF_in, cmpF_nin, cmpF_eqb, cmpF_neb, inF_dL, inF_lst, inF_tup, truth_bl, truth_int, bindT_nm, bindT_tt, bindT_tl, bindTs_nil, bindTs_nm, seqF_tup, seqF_lst, Option.map_some, Option.map_none, if_true, if_false, Bool.false_eq_true, Nat.reduceAdd, Nat.reduceSub, Nat.reduceEqDiff, Nat.zero_add, binF_add, binF_sub, isi_bool_non, isi_bool_bl, isi_bool_int, isi_bool_str, isi_bool_tup, isi_bool_lst, isi_int_non, isi_int_bl, isi_int_int, isi_int_str, isi_int_tup, isi_int_lst, isi_str_non, isi_str_bl, isi_str_int, isi_str_str, isi_str_tup, isi_str_lst, isi_tuple_non, isi_tuple_bl, isi_tuple_int, isi_tuple_str, isi_tuple_tup, isi_tuple_lst, isi_list_non, isi_list_bl, isi_list_int, isi_list_str, isi_list_tup, isi_list_lst, isi_dict_non, isi_dict_bl, isi_dict_int, isi_dict_str, isi_dict_tup, isi_dict_lst, bnot_bl, Bool.not_true, Bool.not_false, biF_len, biF_list, biF_tuple, biF_sorted, biF_sortedt, biF_all, biF_any, biF_sum, biF_min, biF_max, biF_min2, biF_max2, biF_int, biF_abs, lenF_tup, lenF_lst, szOk0, szOk1, szOk2, szOk3, szOk4, szOk5, szOk6, number_map, Int.cast_ofNat_Int, Int.reduceBEq, Int.reduceBNe, Int.reduceLT, Int.reduceLE, Int.reduceSub, Int.reduceAdd, Int.reduceNeg, decide_true, decide_false, beq_self_eq_true, Int.natCast_zero, Int.natCast_one, k1, m1]; rfl⟩
  rw [callF_run T (m := n - 1) (by omega) fn__law_pool _ _ rfl]
  have g1 : ∀ s, evD ⟨callF T (n - 1), T.gl, T.wf⟩ [(false, (.ite (.cmp .lt (.pk 1) (.bi .len [(.pk 0)])) (.bi .int [(.idx (.pk 0) (.pk 1))]) (.bin .add (.bin .mul (.cst (.int 70001)) (.pk 1)) (.cst (.int 27078))))), (false, (.bin .add (.cst (.int 3097186)) (.bin .mul (.cst (.int 5087)) (.pk 1))))] [Slot.val (.lst (ns.map D.int)), .val (.int lap), .un, .un, .un] s = some (.ok [.int own, .int (3097186 + 5087 * lap)], s) := fun s => by
    rw [evD_f, ho]
    simp only [start, List.length_cons, List.length_nil, exSs_nil, exSs_cons, exS_asg, exS_asgO, exS_par, exS_exp, exS_frz, exS_retv, exS_reto, exS_ite, exS_pass, goOn_nx, goOn_rt, fin_nx, fin_rt, frzF_own, frzF_val, getOwn_own, ev_var, ev_pk, ev_cst, ev_glb, ev_bin, ev_not, ev_neg, negF_int, ev_cmp, ev_cmp2, ev_cmp3, ev_and, ev_or, ev_ite, ev_tup, ev_lst, ev_idx, ev_slc, ev_call0, ev_callk, ev_lrng, ev_bi, ev_isi, evs_nil, evs_cons, evD_nil, evD_f, evD_t, evT_nil, evT_cons, evI_seq, evI_rng, evI_enm, elimS, condT, condF, condB, okb, Res.none_bind, Res.bind_assoc, liftS, slot, put, getAny, getVal, List.map_cons, List.map_nil, List.replicate, List.cons_append, List.nil_append, List.append_nil, dr_cell, dr_dP, dr_dI, dr_dL, dr_dW, dr_int, dr_bl, dr_tup, dr_lst, dr_non, dr_str, drs, idxF_lst0, idxF_lst1, idxF_lst2, idxF_tup0, idxF_tup1, idxF_tup2, cmpF_gt, cmpF_le, cmpF_lt, cmpF_ge, cmpF_eq, cmpF_ne, cmpF_in, cmpF_nin, cmpF_eqb, cmpF_neb, inF_dL, inF_lst, inF_tup, truth_bl, truth_int, bindT_nm, bindT_tt, bindT_tl, bindTs_nil, bindTs_nm, seqF_tup, seqF_lst, Option.map_some, Option.map_none, if_true, if_false, Bool.false_eq_true, Nat.reduceAdd, Nat.reduceSub, Nat.reduceEqDiff, Nat.zero_add, binF_add, binF_sub, isi_bool_non, isi_bool_bl, isi_bool_int, isi_bool_str, isi_bool_tup, isi_bool_lst, isi_int_non, isi_int_bl, isi_int_int, isi_int_str, isi_int_tup, isi_int_lst, isi_str_non, isi_str_bl, isi_str_int, isi_str_str, isi_str_tup, isi_str_lst, isi_tuple_non, isi_tuple_bl, isi_tuple_int, isi_tuple_str, isi_tuple_tup, isi_tuple_lst, isi_list_non, isi_list_bl, isi_list_int, isi_list_str, isi_list_tup, isi_list_lst, isi_dict_non, isi_dict_bl, isi_dict_int, isi_dict_str, isi_dict_tup, isi_dict_lst, bnot_bl, Bool.not_true, Bool.not_false, biF_len, biF_list, biF_tuple, biF_sorted, biF_sortedt, biF_all, biF_any, biF_sum, biF_min, biF_max, biF_min2, biF_max2, biF_int, biF_abs, lenF_tup, lenF_lst, szOk0, szOk1, szOk2, szOk3, szOk4, szOk5, szOk6, number_map, Int.cast_ofNat_Int, Int.reduceBEq, Int.reduceBNe, Int.reduceLT, Int.reduceLE, Int.reduceSub, Int.reduceAdd, Int.reduceNeg, decide_true, decide_false, beq_self_eq_true, Int.natCast_zero, Int.natCast_one, m2]
  have g2 : ∀ (x y z : D) (u : Slot), parF [(false, 3), (false, 4)] [x, y] [.val z, u, .un, .un, .un] = some [.val z, u, .un, .val x, .val y] := fun _ _ _ _ => rfl
  simp only [d__law_pool, start, exSs_cons, exS_par, List.map_cons, List.map_nil, List.length_cons, List.length_nil, Nat.reduceAdd, Nat.reduceSub, List.replicate, List.cons_append, List.nil_append, Nat.zero_add, g1]
  simp only [okb, g2, Option.map_some, liftS, goOn_nx, exSs_cons, Res.bind_assoc]
  refine ok_pool ?_
  refine exS_ok _ _ _ D.int (fun _ env s' => s' = s ∧ ∃ (c : Slot) (v : Int), env = [Slot.val (.lst (ns.map D.int)), .val (.int lap), c, .val (.int own), .val (.int v)]) ys (by simp only [start, List.length_cons, List.length_nil, exSs_nil, exSs_cons, exS_asg, exS_asgO, exS_par, exS_exp, exS_frz, exS_retv, exS_reto, exS_ite, exS_pass, goOn_nx, goOn_rt, fin_nx, fin_rt, frzF_own, frzF_val, getOwn_own, ev_var, ev_pk, ev_cst, ev_glb, ev_bin, ev_not, ev_neg, negF_int, ev_cmp, ev_cmp2, ev_cmp3, ev_and, ev_or, ev_ite, ev_tup, ev_lst, ev_idx, ev_slc, ev_call0, ev_callk, ev_lrng, ev_bi, ev_isi, evs_nil, evs_cons, evD_nil, evD_f, evD_t, evT_nil, evT_cons, evI_seq, evI_rng, evI_enm, elimS, condT, condF, condB, okb, Res.none_bind, Res.bind_assoc, liftS, slot, put, getAny, getVal, List.map_cons, List.map_nil, List.replicate, List.cons_append, List.nil_append, List.append_nil, dr_cell, dr_dP, dr_dI, dr_dL, dr_dW, dr_int, dr_bl, dr_tup, dr_lst, dr_non, dr_str, drs, idxF_lst0, idxF_lst1, idxF_lst2, idxF_tup0, idxF_tup1, idxF_tup2, cmpF_gt, cmpF_le, cmpF_lt, cmpF_ge, cmpF_eq, cmpF_ne, cmpF_in, cmpF_nin, cmpF_eqb, cmpF_neb, inF_dL, inF_lst, inF_tup, truth_bl, truth_int, bindT_nm, bindT_tt, bindT_tl, bindTs_nil, bindTs_nm, seqF_tup, seqF_lst, Option.map_some, Option.map_none, if_true, if_false, Bool.false_eq_true, Nat.reduceAdd, Nat.reduceSub, Nat.reduceEqDiff, Nat.zero_add, binF_add, binF_sub, isi_bool_non, isi_bool_bl, isi_bool_int, isi_bool_str, isi_bool_tup, isi_bool_lst, isi_int_non, isi_int_bl, isi_int_int, isi_int_str, isi_int_tup, isi_int_lst, isi_str_non, isi_str_bl, isi_str_int, isi_str_str, isi_str_tup, isi_str_lst, isi_tuple_non, isi_tuple_bl, isi_tuple_int, isi_tuple_str, isi_tuple_tup, isi_tuple_lst, isi_list_non, isi_list_bl, isi_list_int, isi_list_str, isi_list_tup, isi_list_lst, isi_dict_non, isi_dict_bl, isi_dict_int, isi_dict_str, isi_dict_tup, isi_dict_lst, bnot_bl, Bool.not_true, Bool.not_false, biF_len, biF_list, biF_tuple, biF_sorted, biF_sortedt, biF_all, biF_any, biF_sum, biF_min, biF_max, biF_min2, biF_max2, biF_int, biF_abs, lenF_tup, lenF_lst, szOk0, szOk1, szOk2, szOk3, szOk4, szOk5, szOk6, number_map, Int.cast_ofNat_Int, Int.reduceBEq, Int.reduceBNe, Int.reduceLT, Int.reduceLE, Int.reduceSub, Int.reduceAdd, Int.reduceNeg, decide_true, decide_false, beq_self_eq_true, Int.natCast_zero, Int.natCast_one, endF, hy]) ?_ ⟨rfl, _, _, rfl⟩ ?_
  · rintro pre x post _ _ e ⟨rfl, c, v, rfl⟩
    refine ⟨_, rfl, .of_eq (by simp only [start, List.length_cons, List.length_nil, exSs_nil, exSs_cons, exS_asg, exS_asgO, exS_par, exS_exp, exS_frz, exS_retv, exS_reto, exS_ite, exS_pass, goOn_nx, goOn_rt, fin_nx, fin_rt, frzF_own, frzF_val, getOwn_own, ev_var, ev_pk, ev_cst, ev_glb, ev_bin, ev_not, ev_neg, negF_int, ev_cmp, ev_cmp2, ev_cmp3, ev_and, ev_or, ev_ite, ev_tup, ev_lst, ev_idx, ev_slc, ev_call0, ev_callk, ev_lrng, ev_bi, ev_isi, evs_nil, evs_cons, evD_nil, evD_f, evD_t, evT_nil, evT_cons, evI_seq, evI_rng, evI_enm, elimS, condT, condF, condB, okb, Res.none_bind, Res.bind_assoc, liftS, slot, put, getAny, getVal, List.map_cons, List.map_nil, List.replicate, List.cons_append, List.nil_append, List.append_nil, dr_cell, dr_dP, dr_dI, dr_dL, dr_dW, dr_int, dr_bl, dr_tup, dr_lst, dr_non, dr_str, drs, idxF_lst0, idxF_lst1, idxF_lst2, idxF_tup0, idxF_tup1, idxF_tup2, cmpF_gt, cmpF_le, cmpF_lt, cmpF_ge, cmpF_eq, cmpF_ne, cmpF_in, cmpF_nin, cmpF_eqb, cmpF_neb, inF_dL, inF_lst, inF_tup, truth_bl, truth_int, bindT_nm, bindT_tt, bindT_tl, bindTs_nil, bindTs_nm, seqF_tup, seqF_lst, Option.map_some, Option.map_none, if_true, if_false, Bool.false_eq_true, Nat.reduceAdd, Nat.reduceSub, Nat.reduceEqDiff, Nat.zero_add, binF_add, binF_sub, isi_bool_non, isi_bool_bl, isi_bool_int, isi_bool_str, isi_bool_tup, isi_bool_lst, isi_int_non, isi_int_bl, isi_int_int, isi_int_str, isi_int_tup, isi_int_lst, isi_str_non, isi_str_bl, isi_str_int, isi_str_str, isi_str_tup, isi_str_lst, isi_tuple_non, isi_tuple_bl, isi_tuple_int, isi_tuple_str, isi_tuple_tup, isi_tuple_lst, isi_list_non, isi_list_bl, isi_list_int, isi_list_str, isi_list_tup, isi_list_lst, isi_dict_non, isi_dict_bl, isi_dict_int, isi_dict_str, isi_dict_tup, isi_dict_lst, bnot_bl, Bool.not_true, Bool.not_false, biF_len, biF_list, biF_tuple, biF_sorted, biF_sortedt, biF_all, biF_any, biF_sum, biF_min, biF_max, biF_min2, biF_max2, biF_int, biF_abs, lenF_tup, lenF_lst, szOk0, szOk1, szOk2, szOk3, szOk4, szOk5, szOk6, number_map, Int.cast_ofNat_Int, Int.reduceBEq, Int.reduceBNe, Int.reduceLT, Int.reduceLE, Int.reduceSub, Int.reduceAdd, Int.reduceNeg, decide_true, decide_false, beq_self_eq_true, Int.natCast_zero, Int.natCast_one, m3, m5]; rfl) ⟨_, rfl, rfl, .val (.int x), _, rfl⟩⟩
  · rintro _ _ ⟨rfl, c, v, rfl⟩
    by_cases k1 : own < 0
    · refine .of_eq (by simp only [start, List.length_cons, List.length_nil, exSs_nil, exSs_cons, exS_asg, exS_asgO, exS_par, exS_exp, exS_frz, exS_retv, exS_reto, exS_ite, exS_pass, goOn_nx, goOn_rt, fin_nx, fin_rt, frzF_own, frzF_val, getOwn_own, ev_var, ev_pk, ev_cst, ev_glb, ev_bin, ev_not, ev_neg, negF_int, ev_cmp, ev_cmp2, ev_cmp3, ev_and, ev_or, ev_ite, ev_tup, ev_lst, ev_idx, ev_slc, ev_call0, ev_callk, ev_lrng, ev_bi, ev_isi, evs_nil, evs_cons, evD_nil, evD_f, evD_t, evT_nil, evT_cons, evI_seq, evI_rng, evI_enm, elimS, condT, condF, condB, okb, Res.none_bind, Res.bind_assoc, liftS, slot, put, getAny, getVal, List.map_cons, List.map_nil, List.replicate, List.cons_append, List.nil_append, List.append_nil, dr_cell, dr_dP, dr_dI, dr_dL, dr_dW, dr_int, dr_bl, dr_tup, dr_lst, dr_non, dr_str, drs, idxF_lst0, idxF_lst1, idxF_lst2, idxF_tup0, idxF_tup1, idxF_tup2, cmpF_gt, cmpF_le, cmpF_lt, cmpF_ge, cmpF_eq, cmpF_ne, cmpF_in, cmpF_nin, cmpF_eqb, cmpF_neb, inF_dL, inF_lst, inF_tup, truth_bl, truth_int, bindT_nm, bindT_tt, bindT_tl, bindTs_nil, bindTs_nm, seqF_tup, seqF_lst, Option.map_some, Option.map_none, if_true, if_false, Bool.false_eq_true, Nat.reduceAdd, Nat.reduceSub, Nat.reduceEqDiff, Nat.zero_add, binF_add, binF_sub, isi_bool_non, isi_bool_bl, isi_bool_int, isi_bool_str, isi_bool_tup, isi_bool_lst, isi_int_non, isi_int_bl, isi_int_int, isi_int_str, isi_int_tup, isi_int_lst, isi_str_non, isi_str_bl, isi_str_int, isi_str_str, isi_str_tup, isi_str_lst, isi_tuple_non, isi_tuple_bl, isi_tuple_int, isi_tuple_str, isi_tuple_tup, isi_tuple_lst, isi_list_non, isi_list_bl, isi_list_int, isi_list_str, isi_list_tup, isi_list_lst, isi_dict_non, isi_dict_bl, isi_dict_int, isi_dict_str, isi_dict_tup, isi_dict_lst, bnot_bl, Bool.not_true, Bool.not_false, biF_len, biF_list, biF_tuple, biF_sorted, biF_sortedt, biF_all, biF_any, biF_sum, biF_min, biF_max, biF_min2, biF_max2, biF_int, biF_abs, lenF_tup, lenF_lst, szOk0, szOk1, szOk2, szOk3, szOk4, szOk5, szOk6, number_map, Int.cast_ofNat_Int, Int.reduceBEq, Int.reduceBNe, Int.reduceLT, Int.reduceLE, Int.reduceSub, Int.reduceAdd, Int.reduceNeg, decide_true, decide_false, beq_self_eq_true, Int.natCast_zero, Int.natCast_one, m4, m5, k1]; rfl) ⟨⟨_, _, rfl⟩, rfl⟩
    · by_cases k2 : (10 ^ 18 : Int) ≤ own
      · refine .of_eq (by simp only [start, List.length_cons, List.length_nil, exSs_nil, exSs_cons, exS_asg, exS_asgO, exS_par, exS_exp, exS_frz, exS_retv, exS_reto, exS_ite, exS_pass, goOn_nx, goOn_rt, fin_nx, fin_rt, frzF_own, frzF_val, getOwn_own, ev_var, ev_pk, ev_cst, ev_glb, ev_bin, ev_not, ev_neg, negF_int, ev_cmp, ev_cmp2, ev_cmp3, ev_and, ev_or, ev_ite, ev_tup, ev_lst, ev_idx, ev_slc, ev_call0, ev_callk, ev_lrng, ev_bi, ev_isi, evs_nil, evs_cons, evD_nil, evD_f, evD_t, evT_nil, evT_cons, evI_seq, evI_rng, evI_enm, elimS, condT, condF, condB, okb, Res.none_bind, Res.bind_assoc, liftS, slot, put, getAny, getVal, List.map_cons, List.map_nil, List.replicate, List.cons_append, List.nil_append, List.append_nil, dr_cell, dr_dP, dr_dI, dr_dL, dr_dW, dr_int, dr_bl, dr_tup, dr_lst, dr_non, dr_str, drs, idxF_lst0, idxF_lst1, idxF_lst2, idxF_tup0, idxF_tup1, idxF_tup2, cmpF_gt, cmpF_le, cmpF_lt, cmpF_ge, cmpF_eq, cmpF_ne, cmpF_in, cmpF_nin, cmpF_eqb, cmpF_neb, inF_dL, inF_lst, inF_tup, truth_bl, truth_int, bindT_nm, bindT_tt, bindT_tl, bindTs_nil, bindTs_nm, seqF_tup, seqF_lst, Option.map_some, Option.map_none, if_true, if_false, Bool.false_eq_true, Nat.reduceAdd, Nat.reduceSub, Nat.reduceEqDiff, Nat.zero_add, binF_add, binF_sub, isi_bool_non, isi_bool_bl, isi_bool_int, isi_bool_str, isi_bool_tup, isi_bool_lst, isi_int_non, isi_int_bl, isi_int_int, isi_int_str, isi_int_tup, isi_int_lst, isi_str_non, isi_str_bl, isi_str_int, isi_str_str, isi_str_tup, isi_str_lst, isi_tuple_non, isi_tuple_bl, isi_tuple_int, isi_tuple_str, isi_tuple_tup, isi_tuple_lst, isi_list_non, isi_list_bl, isi_list_int, isi_list_str, isi_list_tup, isi_list_lst, isi_dict_non, isi_dict_bl, isi_dict_int, isi_dict_str, isi_dict_tup, isi_dict_lst, bnot_bl, Bool.not_true, Bool.not_false, biF_len, biF_list, biF_tuple, biF_sorted, biF_sortedt, biF_all, biF_any, biF_sum, biF_min, biF_max, biF_min2, biF_max2, biF_int, biF_abs, lenF_tup, lenF_lst, szOk0, szOk1, szOk2, szOk3, szOk4, szOk5, szOk6, number_map, Int.cast_ofNat_Int, Int.reduceBEq, Int.reduceBNe, Int.reduceLT, Int.reduceLE, Int.reduceSub, Int.reduceAdd, Int.reduceNeg, decide_true, decide_false, beq_self_eq_true, Int.natCast_zero, Int.natCast_one, m4, m5, m6, k1, k2]; rfl) ⟨⟨_, _, rfl⟩, rfl⟩
      · refine .of_eq (by simp only [start, List.length_cons, List.length_nil, exSs_nil, exSs_cons, exS_asg, exS_asgO, exS_par, exS_exp, exS_frz, exS_retv, exS_reto, exS_ite, exS_pass, goOn_nx, goOn_rt, fin_nx, fin_rt, frzF_own, frzF_val, getOwn_own, ev_var, ev_pk, ev_cst, ev_glb, ev_bin, ev_not, ev_neg, negF_int, ev_cmp, ev_cmp2, ev_cmp3, ev_and, ev_or, ev_ite, ev_tup, ev_lst, ev_idx, ev_slc, ev_call0, ev_callk, ev_lrng, ev_bi, ev_isi, evs_nil, evs_cons, evD_nil, evD_f, evD_t, evT_nil, evT_cons, evI_seq, evI_rng, evI_enm, elimS, condT, condF, condB, okb, Res.none_bind, Res.bind_assoc, liftS, slot, put, getAny, getVal, List.map_cons, List.map_nil, List.replicate, List.cons_append, List.nil_append, List.append_nil, dr_cell, dr_dP, dr_dI, dr_dL, dr_dW, dr_int, dr_bl, dr_tup, dr_lst, dr_non, dr_str, drs, idxF_lst0, idxF_lst1, idxF_lst2, idxF_tup0, idxF_tup1, idxF_tup2, cmpF_gt, cmpF_le, cmpF_lt, cmpF_ge, cmpF_eq, cmpF_ne, cmpF_in, cmpF_nin, cmpF_eqb, cmpF_neb, inF_dL, inF_lst, inF_tup, truth_bl, truth_int, bindT_nm, bindT_tt, bindT_tl, bindTs_nil, bindTs_nm, seqF_tup, seqF_lst, Option.map_some, Option.map_none, if_true, if_false, Bool.false_eq_true, Nat.reduceAdd, Nat.reduceSub, Nat.reduceEqDiff, Nat.zero_add, binF_add, binF_sub, isi_bool_non, isi_bool_bl, isi_bool_int, isi_bool_str, isi_bool_tup, isi_bool_lst, isi_int_non, isi_int_bl, isi_int_int, isi_int_str, isi_int_tup, isi_int_lst, isi_str_non, isi_str_bl, isi_str_int, isi_str_str, isi_str_tup, isi_str_lst, isi_tuple_non, isi_tuple_bl, isi_tuple_int, isi_tuple_str, isi_tuple_tup, isi_tuple_lst, isi_list_non, isi_list_bl, isi_list_int, isi_list_str, isi_list_tup, isi_list_lst, isi_dict_non, isi_dict_bl, isi_dict_int, isi_dict_str, isi_dict_tup, isi_dict_lst, bnot_bl, Bool.not_true, Bool.not_false, biF_len, biF_list, biF_tuple, biF_sorted, biF_sortedt, biF_all, biF_any, biF_sum, biF_min, biF_max, biF_min2, biF_max2, biF_int, biF_abs, lenF_tup, lenF_lst, szOk0, szOk1, szOk2, szOk3, szOk4, szOk5, szOk6, number_map, Int.cast_ofNat_Int, Int.reduceBEq, Int.reduceBNe, Int.reduceLT, Int.reduceLE, Int.reduceSub, Int.reduceAdd, Int.reduceNeg, decide_true, decide_false, beq_self_eq_true, Int.natCast_zero, Int.natCast_one, m4, m5, m6, k1, k2]; rfl) ⟨⟨_, _, rfl⟩, rfl⟩
theorem draw_s {n : Nat} (hn : 1 ≤ n) {s : Stt} {c : Nat} {k : Int} (hs : PoolAt s c) (h0 : 0 < k) (h1 : k < 1073741824) :
    (callF T n "_law_draw" [.cell c, .int k] s).Ok fun r s' => (∃ x : Nat, r = .int x ∧ (x : Int) < k) ∧ PoolAt s' c ∧ ∀ e, e ≠ c → getS s' e = getS s e := draw_ok (by decide) hdraw hn hs h0 h1
theorem law_pick_s {n : Nat} (hn : 2 ≤ n) {s : Stt} {c e : Nat} (hs : PoolAt s c) {ts : List (Nat × Nat)} (ht : getS s e = some (.lst (ts.map dP))) (ne : e ≠ c) (h0 : ts ≠ []) (h1 : ts.length < 1000) :
    (callF T n "_law_pick" [.cell c, .cell e] s).Ok fun r s' => (∃ p, p ∈ ts ∧ r = dP p) ∧ PoolAt s' c ∧ ∀ e, e ≠ c → getS s' e = getS s e := by
  have h2 := List.length_pos_iff.mpr h0
  rw [callF_run T (m := n - 1) (by omega) fn__law_pick _ _ rfl]
  simp only [d__law_pick, start, List.length_cons, List.length_nil, exSs_nil, exSs_cons, exS_asg, exS_asgO, exS_par, exS_exp, exS_frz, exS_retv, exS_reto, exS_ite, exS_pass, goOn_nx, goOn_rt, fin_nx, fin_rt, frzF_own, frzF_val, getOwn_own, ev_var, ev_pk, ev_cst, ev_glb, ev_bin, ev_not, ev_neg, negF_int, ev_cmp, ev_cmp2, ev_cmp3, ev_and, ev_or, ev_ite, ev_tup, ev_lst, ev_idx, ev_slc, ev_call0, ev_callk, ev_lrng, ev_bi, ev_isi, evs_nil, evs_cons, evD_nil, evD_f, evD_t, evT_nil, evT_cons, evI_seq, evI_rng, evI_enm, elimS, condT, condF, condB, okb, Res.none_bind, Res.bind_assoc, liftS, slot, put, getAny, getVal, List.map_cons, List.map_nil, List.replicate, List.cons_append, List.nil_append, List.append_nil, dr_cell, dr_dP, dr_dI, dr_dL, dr_dW, dr_int, dr_bl, dr_tup, dr_lst, dr_non, dr_str, drs, idxF_lst0, idxF_lst1, idxF_lst2, idxF_tup0, idxF_tup1, idxF_tup2, cmpF_gt, cmpF_le, cmpF_lt, cmpF_ge, cmpF_eq, cmpF_ne, cmpF_in, cmpF_nin, cmpF_eqb, cmpF_neb, inF_dL, inF_lst, inF_tup, truth_bl, truth_int, bindT_nm, bindT_tt, bindT_tl, bindTs_nil, bindTs_nm, seqF_tup, seqF_lst, Option.map_some, Option.map_none, if_true, if_false, Bool.false_eq_true, Nat.reduceAdd, Nat.reduceSub, Nat.reduceEqDiff, Nat.zero_add, binF_add, binF_sub, isi_bool_non, isi_bool_bl, isi_bool_int, isi_bool_str, isi_bool_tup, isi_bool_lst, isi_int_non, isi_int_bl, isi_int_int, isi_int_str, isi_int_tup, isi_int_lst, isi_str_non, isi_str_bl, isi_str_int, isi_str_str, isi_str_tup, isi_str_lst, isi_tuple_non, isi_tuple_bl, isi_tuple_int, isi_tuple_str, isi_tuple_tup, isi_tuple_lst, isi_list_non, isi_list_bl, isi_list_int, isi_list_str, isi_list_tup, isi_list_lst, isi_dict_non, isi_dict_bl, isi_dict_int, isi_dict_str, isi_dict_tup, isi_dict_lst, bnot_bl, Bool.not_true, Bool.not_false, biF_len, biF_list, biF_tuple, biF_sorted, biF_sortedt, biF_all, biF_any, biF_sum, biF_min, biF_max, biF_min2, biF_max2, biF_int, biF_abs, lenF_tup, lenF_lst, szOk0, szOk1, szOk2, szOk3, szOk4, szOk5, szOk6, number_map, Int.cast_ofNat_Int, Int.reduceBEq, Int.reduceBNe, Int.reduceLT, Int.reduceLE, Int.reduceSub, Int.reduceAdd, Int.reduceNeg, decide_true, decide_false, beq_self_eq_true, Int.natCast_zero, Int.natCast_one, ht, List.length_map]
  refine Res.Ok.bind (draw_s (n := n - 1) (by omega) hs (by omega) (by omega)) ?_
  rintro _ s1 ⟨⟨x, rfl, hx⟩, p1, f1⟩
  have hx : x < ts.length := by omega
  have k := idxF_lst_map dP ts x hx
  have ht1 := (f1 e ne).trans ht
  exact .of_eq (by simp only [start, List.length_cons, List.length_nil, exSs_nil, exSs_cons, exS_asg, exS_asgO, exS_par, exS_exp, exS_frz, exS_retv, exS_reto, exS_ite, exS_pass, goOn_nx, goOn_rt, fin_nx, fin_rt, frzF_own, frzF_val, getOwn_own, ev_var, ev_pk, ev_cst, ev_glb, ev_bin, ev_not, ev_neg, negF_int, ev_cmp, ev_cmp2, ev_cmp3, ev_and, ev_or, ev_ite, ev_tup, ev_lst, ev_idx, ev_slc, ev_call0, ev_callk, ev_lrng, ev_bi, ev_isi, evs_nil, evs_cons, evD_nil, evD_f, evD_t, evT_nil, evT_cons, evI_seq, evI_rng, evI_enm, elimS, condT, condF, condB, okb, Res.none_bind, Res.bind_assoc, liftS, slot, put, getAny, getVal, List.map_cons, List.map_nil, List.replicate, List.cons_append, List.nil_append, List.append_nil, dr_cell, dr_dP, dr_dI, dr_dL, dr_dW, dr_int, dr_bl, dr_tup, dr_lst, dr_non, dr_str, drs, idxF_lst0, idxF_lst1, idxF_lst2, idxF_tup0, idxF_tup1, idxF_tup2, cmpF_gt, cmpF_le, cmpF_lt, cmpF_ge, cmpF_eq, cmpF_ne, cmpF_in, cmpF_nin, cmpF_eqb, cmpF_neb, inF_dL, inF_lst, inF_tup, truth_bl, truth_int, bindT_nm, bindT_tt, bindT_tl, bindTs_nil, bindTs_nm, seqF_tup, seqF_lst, Option.map_some, Option.map_none, if_true, if_false, Bool.false_eq_true, Nat.reduceAdd, Nat.reduceSub, Nat.reduceEqDiff, Nat.zero_add, binF_add, binF_sub, isi_bool_non, isi_bool_bl, isi_bool_int, isi_bool_str, isi_bool_tup, isi_bool_lst, isi_int_non, isi_int_bl, isi_int_int, isi_int_str, isi_int_tup, isi_int_lst, isi_str_non, isi_str_bl, isi_str_int, isi_str_str, isi_str_tup, isi_str_lst, isi_tuple_non, isi_tuple_bl, isi_tuple_int, isi_tuple_str, isi_tuple_tup, isi_tuple_lst, isi_list_non, isi_list_bl, isi_list_int, isi_list_str, isi_list_tup, isi_list_lst, isi_dict_non, isi_dict_bl, isi_dict_int, isi_dict_str, isi_dict_tup, isi_dict_lst, bnot_bl, Bool.not_true, Bool.not_false, biF_len, biF_list, biF_tuple, biF_sorted, biF_sortedt, biF_all, biF_any, biF_sum, biF_min, biF_max, biF_min2, biF_max2, biF_int, biF_abs, lenF_tup, lenF_lst, szOk0, szOk1, szOk2, szOk3, szOk4, szOk5, szOk6, number_map, Int.cast_ofNat_Int, Int.reduceBEq, Int.reduceBNe, Int.reduceLT, Int.reduceLE, Int.reduceSub, Int.reduceAdd, Int.reduceNeg, decide_true, decide_false, beq_self_eq_true, Int.natCast_zero, Int.natCast_one, ht1, k]) ⟨⟨_, List.getElem_mem hx, rfl⟩, p1, f1⟩
end PyD.K42

namespace PyD.K42
open PySem PyD
theorem pole_ne {m x d : Nat} (hx : x < m) (hd : d + 1 < m) : ∃ y : Nat, ((x : Int) + 1 + (d : Int)) % (m : Int) = (y : Int) ∧ y < m ∧ y ≠ x := by
  refine ⟨(x + 1 + d) % m, by push_cast; rfl, Nat.mod_lt _ (by omega), ?_⟩
  by_cases h : x + 1 + d < m
  · rw [Nat.mod_eq_of_lt h]; omega
  · rw [Nat.mod_eq_sub_mod (by omega), Nat.mod_eq_of_lt (by omega)]; omega
theorem minmax {x y m : Nat} (hx : x < m) (hy : y < m) (ne : y ≠ x) : ∃ p : Nat × Nat, p.1 < p.2 ∧ p.2 < m ∧ (if (y : Int) < x then (y : Int) else x) = p.1 ∧ (if (y : Int) > x then (y : Int) else x) = p.2 := by
  by_cases h : y < x
  · exact ⟨(y, x), h, hx, if_pos (by omega), if_neg (by omega)⟩
  · exact ⟨(x, y), by show x < y; omega, hy, if_neg (by omega), if_pos (by omega)⟩
theorem law_poles_s {n : Nat} (hn : 2 ≤ n) {s : Stt} {c : Nat} (hs : PoolAt s c) {m : Nat} {ts : List (Nat × Nat)} (h2 : 2 ≤ m) (h7 : m ≤ 7) :
    (callF T n "_law_poles" [.cell c, dW m ts] s).Ok fun r s' => (∃ p : Nat × Nat, p.1 < p.2 ∧ p.2 < m ∧ r = dP p) ∧ PoolAt s' c ∧ ∀ e, e ≠ c → getS s' e = getS s e := by
  rw [callF_run T (m := n - 1) (by omega) fn__law_poles _ _ rfl]
  simp only [d__law_poles, dW, start, List.length_cons, List.length_nil, exSs_nil, exSs_cons, exS_asg, exS_asgO, exS_par, exS_exp, exS_frz, exS_retv, exS_reto, exS_ite, exS_pass, goOn_nx, goOn_rt, fin_nx, fin_rt, frzF_own, frzF_val, getOwn_own, ev_var, ev_pk, ev_cst, ev_glb, ev_bin, ev_not, ev_neg, negF_int, ev_cmp, ev_cmp2, ev_cmp3, ev_and, ev_or, ev_ite, ev_tup, ev_lst, ev_idx, ev_slc, ev_call0, ev_callk, ev_lrng, ev_bi, ev_isi, evs_nil, evs_cons, evD_nil, evD_f, evD_t, evT_nil, evT_cons, evI_seq, evI_rng, evI_enm, elimS, condT, condF, condB, okb, Res.none_bind, Res.bind_assoc, liftS, slot, put, getAny, getVal, List.map_cons, List.map_nil, List.replicate, List.cons_append, List.nil_append, List.append_nil, dr_cell, dr_dP, dr_dI, dr_dL, dr_dW, dr_int, dr_bl, dr_tup, dr_lst, dr_non, dr_str, drs, idxF_lst0, idxF_lst1, idxF_lst2, idxF_tup0, idxF_tup1, idxF_tup2, cmpF_gt, cmpF_le, cmpF_lt, cmpF_ge, cmpF_eq, cmpF_ne, cmpF_in, cmpF_nin, cmpF_eqb, cmpF_neb, inF_dL, inF_lst, inF_tup, truth_bl, truth_int, bindT_nm, bindT_tt, bindT_tl, bindTs_nil, bindTs_nm, seqF_tup, seqF_lst, Option.map_some, Option.map_none, if_true, if_false, Bool.false_eq_true, Nat.reduceAdd, Nat.reduceSub, Nat.reduceEqDiff, Nat.zero_add, binF_add, binF_sub, isi_bool_non, isi_bool_bl, isi_bool_int, isi_bool_str, isi_bool_tup, isi_bool_lst, isi_int_non, isi_int_bl, isi_int_int, isi_int_str, isi_int_tup, isi_int_lst, isi_str_non, isi_str_bl, isi_str_int, isi_str_str, isi_str_tup, isi_str_lst, isi_tuple_non, isi_tuple_bl, isi_tuple_int, isi_tuple_str, isi_tuple_tup, isi_tuple_lst, isi_list_non, isi_list_bl, isi_list_int, isi_list_str, isi_list_tup, isi_list_lst, isi_dict_non, isi_dict_bl, isi_dict_int, isi_dict_str, isi_dict_tup, isi_dict_lst, bnot_bl, Bool.not_true, Bool.not_false, biF_len, biF_list, biF_tuple, biF_sorted, biF_sortedt, biF_all, biF_any, biF_sum, biF_min, biF_max, biF_min2, biF_max2, biF_int, biF_abs, lenF_tup, lenF_lst, szOk0, szOk1, szOk2, szOk3, szOk4, szOk5, szOk6, number_map, Int.cast_ofNat_Int, Int.reduceBEq, Int.reduceBNe, Int.reduceLT, Int.reduceLE, Int.reduceSub, Int.reduceAdd, Int.reduceNeg, decide_true, decide_false, beq_self_eq_true, Int.natCast_zero, Int.natCast_one]
  refine Res.Ok.bind (draw_s (n := n - 1) (by omega) hs (by omega) (by omega)) ?_
  rintro _ s1 ⟨⟨x, rfl, hx⟩, p1, f1⟩
  simp only [start, List.length_cons, List.length_nil, exSs_nil, exSs_cons, exS_asg, exS_asgO, exS_par, exS_exp, exS_frz, exS_retv, exS_reto, exS_ite, exS_pass, goOn_nx, goOn_rt, fin_nx, fin_rt, frzF_own, frzF_val, getOwn_own, ev_var, ev_pk, ev_cst, ev_glb, ev_bin, ev_not, ev_neg, negF_int, ev_cmp, ev_cmp2, ev_cmp3, ev_and, ev_or, ev_ite, ev_tup, ev_lst, ev_idx, ev_slc, ev_call0, ev_callk, ev_lrng, ev_bi, ev_isi, evs_nil, evs_cons, evD_nil, evD_f, evD_t, evT_nil, evT_cons, evI_seq, evI_rng, evI_enm, elimS, condT, condF, condB, okb, Res.none_bind, Res.bind_assoc, liftS, slot, put, getAny, getVal, List.map_cons, List.map_nil, List.replicate, List.cons_append, List.nil_append, List.append_nil, dr_cell, dr_dP, dr_dI, dr_dL, dr_dW, dr_int, dr_bl, dr_tup, dr_lst, dr_non, dr_str, drs, idxF_lst0, idxF_lst1, idxF_lst2, idxF_tup0, idxF_tup1, idxF_tup2, cmpF_gt, cmpF_le, cmpF_lt, cmpF_ge, cmpF_eq, cmpF_ne, cmpF_in, cmpF_nin, cmpF_eqb, cmpF_neb, inF_dL, inF_lst, inF_tup, truth_bl, truth_int, bindT_nm, bindT_tt, bindT_tl, bindTs_nil, bindTs_nm, seqF_tup, seqF_lst, Option.map_some, Option.map_none, if_true, if_false, Bool.false_eq_true, Nat.reduceAdd, Nat.reduceSub, Nat.reduceEqDiff, Nat.zero_add, binF_add, binF_sub, isi_bool_non, isi_bool_bl, isi_bool_int, isi_bool_str, isi_bool_tup, isi_bool_lst, isi_int_non, isi_int_bl, isi_int_int, isi_int_str, isi_int_tup, isi_int_lst, isi_str_non, isi_str_bl, isi_str_int, isi_str_str, isi_str_tup, isi_str_lst, isi_tuple_non, isi_tuple_bl, isi_tuple_int, isi_tuple_str, isi_tuple_tup, isi_tuple_lst, isi_list_non, isi_list_bl, isi_list_int, isi_list_str, isi_list_tup, isi_list_lst, isi_dict_non, isi_dict_bl, isi_dict_int, isi_dict_str, isi_dict_tup, isi_dict_lst, bnot_bl, Bool.not_true, Bool.not_false, biF_len, biF_list, biF_tuple, biF_sorted, biF_sortedt, biF_all, biF_any, biF_sum, biF_min, biF_max, biF_min2, biF_max2, biF_int, biF_abs, lenF_tup, lenF_lst, szOk0, szOk1, szOk2, szOk3, szOk4, szOk5, szOk6, number_map, Int.cast_ofNat_Int, Int.reduceBEq, Int.reduceBNe, Int.reduceLT, Int.reduceLE, Int.reduceSub, Int.reduceAdd, Int.reduceNeg, decide_true, decide_false, beq_self_eq_true, Int.natCast_zero, Int.natCast_one]
  refine Res.Ok.bind (draw_s (n := n - 1) (by omega) p1 (by omega) (by omega)) ?_
  rintro _ s2 ⟨⟨d, rfl, hd⟩, p2, f2⟩
  obtain ⟨y, hy, hy1, hy2⟩ := pole_ne (m := m) (x := x) (d := d) (by omega) (by omega)
  obtain ⟨p, q1, q2, q3, q4⟩ := minmax (m := m) (x := x) (y := y) (by omega) hy1 hy2
  have md : binF .mod (.int ((x : Int) + 1 + d)) (.int m) = some (.int y) := by rw [binF_mod _ _ (by omega), hy]
  exact .of_eq (a := dP p) (by simp only [start, List.length_cons, List.length_nil, exSs_nil, exSs_cons, exS_asg, exS_asgO, exS_par, exS_exp, exS_frz, exS_retv, exS_reto, exS_ite, exS_pass, goOn_nx, goOn_rt, fin_nx, fin_rt, frzF_own, frzF_val, getOwn_own, ev_var, ev_pk, ev_cst, ev_glb, ev_bin, ev_not, ev_neg, negF_int, ev_cmp, ev_cmp2, ev_cmp3, ev_and, ev_or, ev_ite, ev_tup, ev_lst, ev_idx, ev_slc, ev_call0, ev_callk, ev_lrng, ev_bi, ev_isi, evs_nil, evs_cons, evD_nil, evD_f, evD_t, evT_nil, evT_cons, evI_seq, evI_rng, evI_enm, elimS, condT, condF, condB, okb, Res.none_bind, Res.bind_assoc, liftS, slot, put, getAny, getVal, List.map_cons, List.map_nil, List.replicate, List.cons_append, List.nil_append, List.append_nil, dr_cell, dr_dP, dr_dI, dr_dL, dr_dW, dr_int, dr_bl, dr_tup, dr_lst, dr_non, dr_str, drs, idxF_lst0, idxF_lst1, idxF_lst2, idxF_tup0, idxF_tup1, idxF_tup2, cmpF_gt, cmpF_le, cmpF_lt, cmpF_ge, cmpF_eq, cmpF_ne, cmpF_in, cmpF_nin, cmpF_eqb, cmpF_neb, inF_dL, inF_lst, inF_tup, truth_bl, truth_int, bindT_nm, bindT_tt, bindT_tl, bindTs_nil, bindTs_nm, seqF_tup, seqF_lst, Option.map_some, Option.map_none, if_true, if_false, Bool.false_eq_true, Nat.reduceAdd, Nat.reduceSub, Nat.reduceEqDiff, Nat.zero_add, binF_add, binF_sub, isi_bool_non, isi_bool_bl, isi_bool_int, isi_bool_str, isi_bool_tup, isi_bool_lst, isi_int_non, isi_int_bl, isi_int_int, isi_int_str, isi_int_tup, isi_int_lst, isi_str_non, isi_str_bl, isi_str_int, isi_str_str, isi_str_tup, isi_str_lst, isi_tuple_non, isi_tuple_bl, isi_tuple_int, isi_tuple_str, isi_tuple_tup, isi_tuple_lst, isi_list_non, isi_list_bl, isi_list_int, isi_list_str, isi_list_tup, isi_list_lst, isi_dict_non, isi_dict_bl, isi_dict_int, isi_dict_str, isi_dict_tup, isi_dict_lst, bnot_bl, Bool.not_true, Bool.not_false, biF_len, biF_list, biF_tuple, biF_sorted, biF_sortedt, biF_all, biF_any, biF_sum, biF_min, biF_max, biF_min2, biF_max2, biF_int, biF_abs, lenF_tup, lenF_lst, szOk0, szOk1, szOk2, szOk3, szOk4, szOk5, szOk6, number_map, Int.cast_ofNat_Int, Int.reduceBEq, Int.reduceBNe, Int.reduceLT, Int.reduceLE, Int.reduceSub, Int.reduceAdd, Int.reduceNeg, decide_true, decide_false, beq_self_eq_true, Int.natCast_zero, Int.natCast_one, md, q3, q4, dP]) ⟨⟨p, q1, q2, rfl⟩, p2, fun e ne => (f2 e ne).trans (f1 e ne)⟩
def WebIn (s : Stt) (c e m t : Nat) : Prop := PoolAt s c ∧ ∃ ts : List (Nat × Nat), getS s e = some (.lst (ts.map dP)) ∧ (∀ p, p ∈ ts → p.1 < p.2 ∧ p.2 < m) ∧ ts.length ≤ t
theorem isEmpty_map {α : Type} (f : α → D) (h : ∀ x, D.okN 19 (f x) = true) (xs : List α) : cmpF .eq (.lst (xs.map f)) (.lst []) = some xs.isEmpty := by
  show (if okD (.lst (xs.map f)) && okD (.lst []) then some (eqvAll (xs.map f) []) else none) = _
  rw [okD_map f h]
  cases xs <;> rfl
theorem law_web_s {n : Nat} (hn : 3 ≤ n) {s : Stt} {c : Nat} (hs : PoolAt s c) {mp mt : Nat} (hp : 2 ≤ mp) (hp7 : mp ≤ 7) (ht : 1 ≤ mt) (ht12 : mt ≤ 12) :
    (callF T n "_law_web" [.cell c, .int mp, .int mt] s).Ok fun r s' => (∃ m ts, r = dW m ts ∧ WebOk m ts ∧ m ≤ mp ∧ ts.length ≤ mt) ∧ PoolAt s' c := by
  rw [callF_run T (m := n - 1) (by omega) fn__law_web _ _ rfl]
  simp only [d__law_web, start, List.length_cons, List.length_nil, exSs_nil, exSs_cons, exS_asg, exS_asgO, exS_par, exS_exp, exS_frz, exS_retv, exS_reto, exS_ite, exS_pass, goOn_nx, goOn_rt, fin_nx, fin_rt, frzF_own, frzF_val, getOwn_own, ev_var, ev_pk, ev_cst, ev_glb, ev_bin, ev_not, ev_neg, negF_int, ev_cmp, ev_cmp2, ev_cmp3, ev_and, ev_or, ev_ite, ev_tup, ev_lst, ev_idx, ev_slc, ev_call0, ev_callk, ev_lrng, ev_bi, ev_isi, evs_nil, evs_cons, evD_nil, evD_f, evD_t, evT_nil, evT_cons, evI_seq, evI_rng, evI_enm, elimS, condT, condF, condB, okb, Res.none_bind, Res.bind_assoc, liftS, slot, put, getAny, getVal, List.map_cons, List.map_nil, List.replicate, List.cons_append, List.nil_append, List.append_nil, dr_cell, dr_dP, dr_dI, dr_dL, dr_dW, dr_int, dr_bl, dr_tup, dr_lst, dr_non, dr_str, drs, idxF_lst0, idxF_lst1, idxF_lst2, idxF_tup0, idxF_tup1, idxF_tup2, cmpF_gt, cmpF_le, cmpF_lt, cmpF_ge, cmpF_eq, cmpF_ne, cmpF_in, cmpF_nin, cmpF_eqb, cmpF_neb, inF_dL, inF_lst, inF_tup, truth_bl, truth_int, bindT_nm, bindT_tt, bindT_tl, bindTs_nil, bindTs_nm, seqF_tup, seqF_lst, Option.map_some, Option.map_none, if_true, if_false, Bool.false_eq_true, Nat.reduceAdd, Nat.reduceSub, Nat.reduceEqDiff, Nat.zero_add, binF_add, binF_sub, isi_bool_non, isi_bool_bl, isi_bool_int, isi_bool_str, isi_bool_tup, isi_bool_lst, isi_int_non, isi_int_bl, isi_int_int, isi_int_str, isi_int_tup, isi_int_lst, isi_str_non, isi_str_bl, isi_str_int, isi_str_str, isi_str_tup, isi_str_lst, isi_tuple_non, isi_tuple_bl, isi_tuple_int, isi_tuple_str, isi_tuple_tup, isi_tuple_lst, isi_list_non, isi_list_bl, isi_list_int, isi_list_str, isi_list_tup, isi_list_lst, isi_dict_non, isi_dict_bl, isi_dict_int, isi_dict_str, isi_dict_tup, isi_dict_lst, bnot_bl, Bool.not_true, Bool.not_false, biF_len, biF_list, biF_tuple, biF_sorted, biF_sortedt, biF_all, biF_any, biF_sum, biF_min, biF_max, biF_min2, biF_max2, biF_int, biF_abs, lenF_tup, lenF_lst, szOk0, szOk1, szOk2, szOk3, szOk4, szOk5, szOk6, number_map, Int.cast_ofNat_Int, Int.reduceBEq, Int.reduceBNe, Int.reduceLT, Int.reduceLE, Int.reduceSub, Int.reduceAdd, Int.reduceNeg, decide_true, decide_false, beq_self_eq_true, Int.natCast_zero, Int.natCast_one]
  refine Res.Ok.bind (draw_s (n := n - 1) (by omega) hs (by omega) (by omega)) ?_
  rintro _ s1 ⟨⟨x, rfl, hx⟩, p1, f1⟩
  simp only [start, List.length_cons, List.length_nil, exSs_nil, exSs_cons, exS_asg, exS_asgO, exS_par, exS_exp, exS_frz, exS_retv, exS_reto, exS_ite, exS_pass, goOn_nx, goOn_rt, fin_nx, fin_rt, frzF_own, frzF_val, getOwn_own, ev_var, ev_pk, ev_cst, ev_glb, ev_bin, ev_not, ev_neg, negF_int, ev_cmp, ev_cmp2, ev_cmp3, ev_and, ev_or, ev_ite, ev_tup, ev_lst, ev_idx, ev_slc, ev_call0, ev_callk, ev_lrng, ev_bi, ev_isi, evs_nil, evs_cons, evD_nil, evD_f, evD_t, evT_nil, evT_cons, evI_seq, evI_rng, evI_enm, elimS, condT, condF, condB, okb, Res.none_bind, Res.bind_assoc, liftS, slot, put, getAny, getVal, List.map_cons, List.map_nil, List.replicate, List.cons_append, List.nil_append, List.append_nil, dr_cell, dr_dP, dr_dI, dr_dL, dr_dW, dr_int, dr_bl, dr_tup, dr_lst, dr_non, dr_str, drs, idxF_lst0, idxF_lst1, idxF_lst2, idxF_tup0, idxF_tup1, idxF_tup2, cmpF_gt, cmpF_le, cmpF_lt, cmpF_ge, cmpF_eq, cmpF_ne, cmpF_in, cmpF_nin, cmpF_eqb, cmpF_neb, inF_dL, inF_lst, inF_tup, truth_bl, truth_int, bindT_nm, bindT_tt, bindT_tl, bindTs_nil, bindTs_nm, seqF_tup, seqF_lst, Option.map_some, Option.map_none, if_true, if_false, Bool.false_eq_true, Nat.reduceAdd, Nat.reduceSub, Nat.reduceEqDiff, Nat.zero_add, binF_add, binF_sub, isi_bool_non, isi_bool_bl, isi_bool_int, isi_bool_str, isi_bool_tup, isi_bool_lst, isi_int_non, isi_int_bl, isi_int_int, isi_int_str, isi_int_tup, isi_int_lst, isi_str_non, isi_str_bl, isi_str_int, isi_str_str, isi_str_tup, isi_str_lst, isi_tuple_non, isi_tuple_bl, isi_tuple_int, isi_tuple_str, isi_tuple_tup, isi_tuple_lst, isi_list_non, isi_list_bl, isi_list_int, isi_list_str, isi_list_tup, isi_list_lst, isi_dict_non, isi_dict_bl, isi_dict_int, isi_dict_str, isi_dict_tup, isi_dict_lst, bnot_bl, Bool.not_true, Bool.not_false, biF_len, biF_list, biF_tuple, biF_sorted, biF_sortedt, biF_all, biF_any, biF_sum, biF_min, biF_max, biF_min2, biF_max2, biF_int, biF_abs, lenF_tup, lenF_lst, szOk0, szOk1, szOk2, szOk3, szOk4, szOk5, szOk6, number_map, Int.cast_ofNat_Int, Int.reduceBEq, Int.reduceBNe, Int.reduceLT, Int.reduceLE, Int.reduceSub, Int.reduceAdd, Int.reduceNeg, decide_true, decide_false, beq_self_eq_true, Int.natCast_zero, Int.natCast_one, ev_box, boxF_lst, parF]
  have nec : s1.length ≠ c := by have := p1.lt; omega
  have e0 : getS (s1 ++ [D.lst []]) s1.length = some (.lst (([] : List (Nat × Nat)).map dP)) := getS_snoc
  refine Res.Ok.bind (draw_s (n := n - 1) (by omega) (p1.snoc _) (by omega) (by omega)) ?_
  rintro _ s2 ⟨⟨t, rfl, ht2⟩, p2, f2⟩
  have e1 := (f2 _ nec).trans e0
  generalize s1.length = e at *
  obtain ⟨m, rfl⟩ : ∃ m, m = 2 + x := ⟨_, rfl⟩
  have mx : (2 : Int) + (x : Int) = ((2 + x : Nat) : Int) := by omega
  have tx : (1 : Int) + (t : Int) = ((1 + t : Nat) : Int) := by omega
  simp only [start, List.length_cons, List.length_nil, exSs_nil, exSs_cons, exS_asg, exS_asgO, exS_par, exS_exp, exS_frz, exS_retv, exS_reto, exS_ite, exS_pass, goOn_nx, goOn_rt, fin_nx, fin_rt, frzF_own, frzF_val, getOwn_own, ev_var, ev_pk, ev_cst, ev_glb, ev_bin, ev_not, ev_neg, negF_int, ev_cmp, ev_cmp2, ev_cmp3, ev_and, ev_or, ev_ite, ev_tup, ev_lst, ev_idx, ev_slc, ev_call0, ev_callk, ev_lrng, ev_bi, ev_isi, evs_nil, evs_cons, evD_nil, evD_f, evD_t, evT_nil, evT_cons, evI_seq, evI_rng, evI_enm, elimS, condT, condF, condB, okb, Res.none_bind, Res.bind_assoc, liftS, slot, put, getAny, getVal, List.map_cons, List.map_nil, List.replicate, List.cons_append, List.nil_append, List.append_nil, dr_cell, dr_dP, dr_dI, dr_dL, dr_dW, dr_int, dr_bl, dr_tup, dr_lst, dr_non, dr_str, drs, idxF_lst0, idxF_lst1, idxF_lst2, idxF_tup0, idxF_tup1, idxF_tup2, cmpF_gt, cmpF_le, cmpF_lt, cmpF_ge, cmpF_eq, cmpF_ne, cmpF_in, cmpF_nin, cmpF_eqb, cmpF_neb, inF_dL, inF_lst, inF_tup, truth_bl, truth_int, bindT_nm, bindT_tt, bindT_tl, bindTs_nil, bindTs_nm, seqF_tup, seqF_lst, Option.map_some, Option.map_none, if_true, if_false, Bool.false_eq_true, Nat.reduceAdd, Nat.reduceSub, Nat.reduceEqDiff, Nat.zero_add, binF_add, binF_sub, isi_bool_non, isi_bool_bl, isi_bool_int, isi_bool_str, isi_bool_tup, isi_bool_lst, isi_int_non, isi_int_bl, isi_int_int, isi_int_str, isi_int_tup, isi_int_lst, isi_str_non, isi_str_bl, isi_str_int, isi_str_str, isi_str_tup, isi_str_lst, isi_tuple_non, isi_tuple_bl, isi_tuple_int, isi_tuple_str, isi_tuple_tup, isi_tuple_lst, isi_list_non, isi_list_bl, isi_list_int, isi_list_str, isi_list_tup, isi_list_lst, isi_dict_non, isi_dict_bl, isi_dict_int, isi_dict_str, isi_dict_tup, isi_dict_lst, bnot_bl, Bool.not_true, Bool.not_false, biF_len, biF_list, biF_tuple, biF_sorted, biF_sortedt, biF_all, biF_any, biF_sum, biF_min, biF_max, biF_min2, biF_max2, biF_int, biF_abs, lenF_tup, lenF_lst, szOk0, szOk1, szOk2, szOk3, szOk4, szOk5, szOk6, number_map, Int.cast_ofNat_Int, Int.reduceBEq, Int.reduceBNe, Int.reduceLT, Int.reduceLE, Int.reduceSub, Int.reduceAdd, Int.reduceNeg, decide_true, decide_false, beq_self_eq_true, Int.natCast_zero, Int.natCast_one, mx, tx]
  have bt : 1 + t ≤ mt := by omega
  have bm : 2 + x ≤ mp := by omega
  have bm2 : 2 ≤ 2 + x := by omega
  generalize 1 + t = k at *
  generalize 2 + x = m at *
  refine exS_ok _ _ _ (fun i : Nat => D.int ((1 : Nat) + (i : Int))) (fun _ env s => WebIn s c e m k ∧ ∃ u v w x y, env = [Slot.val (.cell c), .val (.int mp), .val (.int mt), .val (.int k), u, v, .val (.int m), .val (.cell e), w, x, y]) (List.range (m - 1)) (s1 := s2) (by
    have := rngF2 1 m (by omega) (by decide)
    simp only [start, List.length_cons, List.length_nil, exSs_nil, exSs_cons, exS_asg, exS_asgO, exS_par, exS_exp, exS_frz, exS_retv, exS_reto, exS_ite, exS_pass, goOn_nx, goOn_rt, fin_nx, fin_rt, frzF_own, frzF_val, getOwn_own, ev_var, ev_pk, ev_cst, ev_glb, ev_bin, ev_not, ev_neg, negF_int, ev_cmp, ev_cmp2, ev_cmp3, ev_and, ev_or, ev_ite, ev_tup, ev_lst, ev_idx, ev_slc, ev_call0, ev_callk, ev_lrng, ev_bi, ev_isi, evs_nil, evs_cons, evD_nil, evD_f, evD_t, evT_nil, evT_cons, evI_seq, evI_rng, evI_enm, elimS, condT, condF, condB, okb, Res.none_bind, Res.bind_assoc, liftS, slot, put, getAny, getVal, List.map_cons, List.map_nil, List.replicate, List.cons_append, List.nil_append, List.append_nil, dr_cell, dr_dP, dr_dI, dr_dL, dr_dW, dr_int, dr_bl, dr_tup, dr_lst, dr_non, dr_str, drs, idxF_lst0, idxF_lst1, idxF_lst2, idxF_tup0, idxF_tup1, idxF_tup2, cmpF_gt, cmpF_le, cmpF_lt, cmpF_ge, cmpF_eq, cmpF_ne, cmpF_in, cmpF_nin, cmpF_eqb, cmpF_neb, inF_dL, inF_lst, inF_tup, truth_bl, truth_int, bindT_nm, bindT_tt, bindT_tl, bindTs_nil, bindTs_nm, seqF_tup, seqF_lst, Option.map_some, Option.map_none, if_true, if_false, Bool.false_eq_true, Nat.reduceAdd, Nat.reduceSub, Nat.reduceEqDiff, Nat.zero_add, binF_add, binF_sub, isi_bool_non, isi_bool_bl, isi_bool_int, isi_bool_str, isi_bool_tup, isi_bool_lst, isi_int_non, isi_int_bl, isi_int_int, isi_int_str, isi_int_tup, isi_int_lst, isi_str_non, isi_str_bl, isi_str_int, isi_str_str, isi_str_tup, isi_str_lst, isi_tuple_non, isi_tuple_bl, isi_tuple_int, isi_tuple_str, isi_tuple_tup, isi_tuple_lst, isi_list_non, isi_list_bl, isi_list_int, isi_list_str, isi_list_tup, isi_list_lst, isi_dict_non, isi_dict_bl, isi_dict_int, isi_dict_str, isi_dict_tup, isi_dict_lst, bnot_bl, Bool.not_true, Bool.not_false, biF_len, biF_list, biF_tuple, biF_sorted, biF_sortedt, biF_all, biF_any, biF_sum, biF_min, biF_max, biF_min2, biF_max2, biF_int, biF_abs, lenF_tup, lenF_lst, szOk0, szOk1, szOk2, szOk3, szOk4, szOk5, szOk6, number_map, Int.cast_ofNat_Int, Int.reduceBEq, Int.reduceBNe, Int.reduceLT, Int.reduceLE, Int.reduceSub, Int.reduceAdd, Int.reduceNeg, decide_true, decide_false, beq_self_eq_true, Int.natCast_zero, Int.natCast_one] at this ⊢
    simp only [this, start, List.length_cons, List.length_nil, exSs_nil, exSs_cons, exS_asg, exS_asgO, exS_par, exS_exp, exS_frz, exS_retv, exS_reto, exS_ite, exS_pass, goOn_nx, goOn_rt, fin_nx, fin_rt, frzF_own, frzF_val, getOwn_own, ev_var, ev_pk, ev_cst, ev_glb, ev_bin, ev_not, ev_neg, negF_int, ev_cmp, ev_cmp2, ev_cmp3, ev_and, ev_or, ev_ite, ev_tup, ev_lst, ev_idx, ev_slc, ev_call0, ev_callk, ev_lrng, ev_bi, ev_isi, evs_nil, evs_cons, evD_nil, evD_f, evD_t, evT_nil, evT_cons, evI_seq, evI_rng, evI_enm, elimS, condT, condF, condB, okb, Res.none_bind, Res.bind_assoc, liftS, slot, put, getAny, getVal, List.map_cons, List.map_nil, List.replicate, List.cons_append, List.nil_append, List.append_nil, dr_cell, dr_dP, dr_dI, dr_dL, dr_dW, dr_int, dr_bl, dr_tup, dr_lst, dr_non, dr_str, drs, idxF_lst0, idxF_lst1, idxF_lst2, idxF_tup0, idxF_tup1, idxF_tup2, cmpF_gt, cmpF_le, cmpF_lt, cmpF_ge, cmpF_eq, cmpF_ne, cmpF_in, cmpF_nin, cmpF_eqb, cmpF_neb, inF_dL, inF_lst, inF_tup, truth_bl, truth_int, bindT_nm, bindT_tt, bindT_tl, bindTs_nil, bindTs_nm, seqF_tup, seqF_lst, Option.map_some, Option.map_none, if_true, if_false, Bool.false_eq_true, Nat.reduceAdd, Nat.reduceSub, Nat.reduceEqDiff, Nat.zero_add, binF_add, binF_sub, isi_bool_non, isi_bool_bl, isi_bool_int, isi_bool_str, isi_bool_tup, isi_bool_lst, isi_int_non, isi_int_bl, isi_int_int, isi_int_str, isi_int_tup, isi_int_lst, isi_str_non, isi_str_bl, isi_str_int, isi_str_str, isi_str_tup, isi_str_lst, isi_tuple_non, isi_tuple_bl, isi_tuple_int, isi_tuple_str, isi_tuple_tup, isi_tuple_lst, isi_list_non, isi_list_bl, isi_list_int, isi_list_str, isi_list_tup, isi_list_lst, isi_dict_non, isi_dict_bl, isi_dict_int, isi_dict_str, isi_dict_tup, isi_dict_lst, bnot_bl, Bool.not_true, Bool.not_false, biF_len, biF_list, biF_tuple, biF_sorted, biF_sortedt, biF_all, biF_any, biF_sum, biF_min, biF_max, biF_min2, biF_max2, biF_int, biF_abs, lenF_tup, lenF_lst, szOk0, szOk1, szOk2, szOk3, szOk4, szOk5, szOk6, number_map, Int.cast_ofNat_Int, Int.reduceBEq, Int.reduceBNe, Int.reduceLT, Int.reduceLE, Int.reduceSub, Int.reduceAdd, Int.reduceNeg, decide_true, decide_false, beq_self_eq_true, Int.natCast_zero, Int.natCast_one]) ?_ ⟨⟨p2, [], e1, by simp, by simp⟩, _, _, _, _, _, rfl⟩ ?_
  · rintro pre i post _ s er ⟨⟨pa, ts, g, g1, g2⟩, u, v, w, x, y, rfl⟩
    have hi : i < m - 1 := by
      have : i ∈ List.range (m - 1) := by rw [er]; simp
      exact List.mem_range.mp this
    refine ⟨_, rfl, ?_⟩
    by_cases hl : ts.length < k
    · have k1 : (((ts.map dP).length : Nat) : Int) < (k : Int) := by rw [List.length_map]; omega
      simp only [start, List.length_cons, List.length_nil, exSs_nil, exSs_cons, exS_asg, exS_asgO, exS_par, exS_exp, exS_frz, exS_retv, exS_reto, exS_ite, exS_pass, goOn_nx, goOn_rt, fin_nx, fin_rt, frzF_own, frzF_val, getOwn_own, ev_var, ev_pk, ev_cst, ev_glb, ev_bin, ev_not, ev_neg, negF_int, ev_cmp, ev_cmp2, ev_cmp3, ev_and, ev_or, ev_ite, ev_tup, ev_lst, ev_idx, ev_slc, ev_call0, ev_callk, ev_lrng, ev_bi, ev_isi, evs_nil, evs_cons, evD_nil, evD_f, evD_t, evT_nil, evT_cons, evI_seq, evI_rng, evI_enm, elimS, condT, condF, condB, okb, Res.none_bind, Res.bind_assoc, liftS, slot, put, getAny, getVal, List.map_cons, List.map_nil, List.replicate, List.cons_append, List.nil_append, List.append_nil, dr_cell, dr_dP, dr_dI, dr_dL, dr_dW, dr_int, dr_bl, dr_tup, dr_lst, dr_non, dr_str, drs, idxF_lst0, idxF_lst1, idxF_lst2, idxF_tup0, idxF_tup1, idxF_tup2, cmpF_gt, cmpF_le, cmpF_lt, cmpF_ge, cmpF_eq, cmpF_ne, cmpF_in, cmpF_nin, cmpF_eqb, cmpF_neb, inF_dL, inF_lst, inF_tup, truth_bl, truth_int, bindT_nm, bindT_tt, bindT_tl, bindTs_nil, bindTs_nm, seqF_tup, seqF_lst, Option.map_some, Option.map_none, if_true, if_false, Bool.false_eq_true, Nat.reduceAdd, Nat.reduceSub, Nat.reduceEqDiff, Nat.zero_add, binF_add, binF_sub, isi_bool_non, isi_bool_bl, isi_bool_int, isi_bool_str, isi_bool_tup, isi_bool_lst, isi_int_non, isi_int_bl, isi_int_int, isi_int_str, isi_int_tup, isi_int_lst, isi_str_non, isi_str_bl, isi_str_int, isi_str_str, isi_str_tup, isi_str_lst, isi_tuple_non, isi_tuple_bl, isi_tuple_int, isi_tuple_str, isi_tuple_tup, isi_tuple_lst, isi_list_non, isi_list_bl, isi_list_int, isi_list_str, isi_list_tup, isi_list_lst, isi_dict_non, isi_dict_bl, isi_dict_int, isi_dict_str, isi_dict_tup, isi_dict_lst, bnot_bl, Bool.not_true, Bool.not_false, biF_len, biF_list, biF_tuple, biF_sorted, biF_sortedt, biF_all, biF_any, biF_sum, biF_min, biF_max, biF_min2, biF_max2, biF_int, biF_abs, lenF_tup, lenF_lst, szOk0, szOk1, szOk2, szOk3, szOk4, szOk5, szOk6, number_map, Int.cast_ofNat_Int, Int.reduceBEq, Int.reduceBNe, Int.reduceLT, Int.reduceLE, Int.reduceSub, Int.reduceAdd, Int.reduceNeg, decide_true, decide_false, beq_self_eq_true, Int.natCast_zero, Int.natCast_one, g, k1]
      refine Res.Ok.bind (draw_s (n := n - 1) (by omega) pa (by omega) (by omega)) ?_
      rintro _ s3 ⟨⟨d, rfl, hd⟩, p3, f3⟩
      have g3 := (f3 e nec).trans g
      by_cases hd0 : (0 : Int) < (d : Int)
      · simp only [start, List.length_cons, List.length_nil, exSs_nil, exSs_cons, exS_asg, exS_asgO, exS_par, exS_exp, exS_frz, exS_retv, exS_reto, exS_ite, exS_pass, goOn_nx, goOn_rt, fin_nx, fin_rt, frzF_own, frzF_val, getOwn_own, ev_var, ev_pk, ev_cst, ev_glb, ev_bin, ev_not, ev_neg, negF_int, ev_cmp, ev_cmp2, ev_cmp3, ev_and, ev_or, ev_ite, ev_tup, ev_lst, ev_idx, ev_slc, ev_call0, ev_callk, ev_lrng, ev_bi, ev_isi, evs_nil, evs_cons, evD_nil, evD_f, evD_t, evT_nil, evT_cons, evI_seq, evI_rng, evI_enm, elimS, condT, condF, condB, okb, Res.none_bind, Res.bind_assoc, liftS, slot, put, getAny, getVal, List.map_cons, List.map_nil, List.replicate, List.cons_append, List.nil_append, List.append_nil, dr_cell, dr_dP, dr_dI, dr_dL, dr_dW, dr_int, dr_bl, dr_tup, dr_lst, dr_non, dr_str, drs, idxF_lst0, idxF_lst1, idxF_lst2, idxF_tup0, idxF_tup1, idxF_tup2, cmpF_gt, cmpF_le, cmpF_lt, cmpF_ge, cmpF_eq, cmpF_ne, cmpF_in, cmpF_nin, cmpF_eqb, cmpF_neb, inF_dL, inF_lst, inF_tup, truth_bl, truth_int, bindT_nm, bindT_tt, bindT_tl, bindTs_nil, bindTs_nm, seqF_tup, seqF_lst, Option.map_some, Option.map_none, if_true, if_false, Bool.false_eq_true, Nat.reduceAdd, Nat.reduceSub, Nat.reduceEqDiff, Nat.zero_add, binF_add, binF_sub, isi_bool_non, isi_bool_bl, isi_bool_int, isi_bool_str, isi_bool_tup, isi_bool_lst, isi_int_non, isi_int_bl, isi_int_int, isi_int_str, isi_int_tup, isi_int_lst, isi_str_non, isi_str_bl, isi_str_int, isi_str_str, isi_str_tup, isi_str_lst, isi_tuple_non, isi_tuple_bl, isi_tuple_int, isi_tuple_str, isi_tuple_tup, isi_tuple_lst, isi_list_non, isi_list_bl, isi_list_int, isi_list_str, isi_list_tup, isi_list_lst, isi_dict_non, isi_dict_bl, isi_dict_int, isi_dict_str, isi_dict_tup, isi_dict_lst, bnot_bl, Bool.not_true, Bool.not_false, biF_len, biF_list, biF_tuple, biF_sorted, biF_sortedt, biF_all, biF_any, biF_sum, biF_min, biF_max, biF_min2, biF_max2, biF_int, biF_abs, lenF_tup, lenF_lst, szOk0, szOk1, szOk2, szOk3, szOk4, szOk5, szOk6, number_map, Int.cast_ofNat_Int, Int.reduceBEq, Int.reduceBNe, Int.reduceLT, Int.reduceLE, Int.reduceSub, Int.reduceAdd, Int.reduceNeg, decide_true, decide_false, beq_self_eq_true, Int.natCast_zero, Int.natCast_one, hd0]
        refine Res.Ok.bind (draw_s (n := n - 1) (by omega) p3 (by omega) (by omega)) ?_
        rintro _ s4 ⟨⟨o, rfl, ho⟩, p4, f4⟩
        have g4 := (f4 e nec).trans g3
        refine exS_app_ok _ _ _ rfl g4 ?_
        simp only [start, List.length_cons, List.length_nil, exSs_nil, exSs_cons, exS_asg, exS_asgO, exS_par, exS_exp, exS_frz, exS_retv, exS_reto, exS_ite, exS_pass, goOn_nx, goOn_rt, fin_nx, fin_rt, frzF_own, frzF_val, getOwn_own, ev_var, ev_pk, ev_cst, ev_glb, ev_bin, ev_not, ev_neg, negF_int, ev_cmp, ev_cmp2, ev_cmp3, ev_and, ev_or, ev_ite, ev_tup, ev_lst, ev_idx, ev_slc, ev_call0, ev_callk, ev_lrng, ev_bi, ev_isi, evs_nil, evs_cons, evD_nil, evD_f, evD_t, evT_nil, evT_cons, evI_seq, evI_rng, evI_enm, elimS, condT, condF, condB, okb, Res.none_bind, Res.bind_assoc, liftS, slot, put, getAny, getVal, List.map_cons, List.map_nil, List.replicate, List.cons_append, List.nil_append, List.append_nil, dr_cell, dr_dP, dr_dI, dr_dL, dr_dW, dr_int, dr_bl, dr_tup, dr_lst, dr_non, dr_str, drs, idxF_lst0, idxF_lst1, idxF_lst2, idxF_tup0, idxF_tup1, idxF_tup2, cmpF_gt, cmpF_le, cmpF_lt, cmpF_ge, cmpF_eq, cmpF_ne, cmpF_in, cmpF_nin, cmpF_eqb, cmpF_neb, inF_dL, inF_lst, inF_tup, truth_bl, truth_int, bindT_nm, bindT_tt, bindT_tl, bindTs_nil, bindTs_nm, seqF_tup, seqF_lst, Option.map_some, Option.map_none, if_true, if_false, Bool.false_eq_true, Nat.reduceAdd, Nat.reduceSub, Nat.reduceEqDiff, Nat.zero_add, binF_add, binF_sub, isi_bool_non, isi_bool_bl, isi_bool_int, isi_bool_str, isi_bool_tup, isi_bool_lst, isi_int_non, isi_int_bl, isi_int_int, isi_int_str, isi_int_tup, isi_int_lst, isi_str_non, isi_str_bl, isi_str_int, isi_str_str, isi_str_tup, isi_str_lst, isi_tuple_non, isi_tuple_bl, isi_tuple_int, isi_tuple_str, isi_tuple_tup, isi_tuple_lst, isi_list_non, isi_list_bl, isi_list_int, isi_list_str, isi_list_tup, isi_list_lst, isi_dict_non, isi_dict_bl, isi_dict_int, isi_dict_str, isi_dict_tup, isi_dict_lst, bnot_bl, Bool.not_true, Bool.not_false, biF_len, biF_list, biF_tuple, biF_sorted, biF_sortedt, biF_all, biF_any, biF_sum, biF_min, biF_max, biF_min2, biF_max2, biF_int, biF_abs, lenF_tup, lenF_lst, szOk0, szOk1, szOk2, szOk3, szOk4, szOk5, szOk6, number_map, Int.cast_ofNat_Int, Int.reduceBEq, Int.reduceBNe, Int.reduceLT, Int.reduceLE, Int.reduceSub, Int.reduceAdd, Int.reduceNeg, decide_true, decide_false, beq_self_eq_true, Int.natCast_zero, Int.natCast_one, appF_ok g4 (by rw [List.length_map]; omega)]
        refine .ret ⟨_, rfl, ⟨p4.set nec, ts ++ [(o, 1 + i)], by rw [getS_set g4, List.map_append]; rfl, ?_, by simp; omega⟩, _, v, w, x, _, rfl⟩
        intro p hp
        rcases List.mem_append.mp hp with hp | hp
        · exact g1 p hp
        · rw [List.mem_singleton.mp hp]
          exact ⟨by show o < 1 + i; omega, by show 1 + i < m; omega⟩
      · exact .of_eq (by simp only [start, List.length_cons, List.length_nil, exSs_nil, exSs_cons, exS_asg, exS_asgO, exS_par, exS_exp, exS_frz, exS_retv, exS_reto, exS_ite, exS_pass, goOn_nx, goOn_rt, fin_nx, fin_rt, frzF_own, frzF_val, getOwn_own, ev_var, ev_pk, ev_cst, ev_glb, ev_bin, ev_not, ev_neg, negF_int, ev_cmp, ev_cmp2, ev_cmp3, ev_and, ev_or, ev_ite, ev_tup, ev_lst, ev_idx, ev_slc, ev_call0, ev_callk, ev_lrng, ev_bi, ev_isi, evs_nil, evs_cons, evD_nil, evD_f, evD_t, evT_nil, evT_cons, evI_seq, evI_rng, evI_enm, elimS, condT, condF, condB, okb, Res.none_bind, Res.bind_assoc, liftS, slot, put, getAny, getVal, List.map_cons, List.map_nil, List.replicate, List.cons_append, List.nil_append, List.append_nil, dr_cell, dr_dP, dr_dI, dr_dL, dr_dW, dr_int, dr_bl, dr_tup, dr_lst, dr_non, dr_str, drs, idxF_lst0, idxF_lst1, idxF_lst2, idxF_tup0, idxF_tup1, idxF_tup2, cmpF_gt, cmpF_le, cmpF_lt, cmpF_ge, cmpF_eq, cmpF_ne, cmpF_in, cmpF_nin, cmpF_eqb, cmpF_neb, inF_dL, inF_lst, inF_tup, truth_bl, truth_int, bindT_nm, bindT_tt, bindT_tl, bindTs_nil, bindTs_nm, seqF_tup, seqF_lst, Option.map_some, Option.map_none, if_true, if_false, Bool.false_eq_true, Nat.reduceAdd, Nat.reduceSub, Nat.reduceEqDiff, Nat.zero_add, binF_add, binF_sub, isi_bool_non, isi_bool_bl, isi_bool_int, isi_bool_str, isi_bool_tup, isi_bool_lst, isi_int_non, isi_int_bl, isi_int_int, isi_int_str, isi_int_tup, isi_int_lst, isi_str_non, isi_str_bl, isi_str_int, isi_str_str, isi_str_tup, isi_str_lst, isi_tuple_non, isi_tuple_bl, isi_tuple_int, isi_tuple_str, isi_tuple_tup, isi_tuple_lst, isi_list_non, isi_list_bl, isi_list_int, isi_list_str, isi_list_tup, isi_list_lst, isi_dict_non, isi_dict_bl, isi_dict_int, isi_dict_str, isi_dict_tup, isi_dict_lst, bnot_bl, Bool.not_true, Bool.not_false, biF_len, biF_list, biF_tuple, biF_sorted, biF_sortedt, biF_all, biF_any, biF_sum, biF_min, biF_max, biF_min2, biF_max2, biF_int, biF_abs, lenF_tup, lenF_lst, szOk0, szOk1, szOk2, szOk3, szOk4, szOk5, szOk6, number_map, Int.cast_ofNat_Int, Int.reduceBEq, Int.reduceBNe, Int.reduceLT, Int.reduceLE, Int.reduceSub, Int.reduceAdd, Int.reduceNeg, decide_true, decide_false, beq_self_eq_true, Int.natCast_zero, Int.natCast_one, hd0]; rfl) ⟨_, rfl, ⟨p3, ts, g3, g1, g2⟩, _, v, w, x, y, rfl⟩
    · have k1 : ¬ (((ts.map dP).length : Nat) : Int) < (k : Int) := by rw [List.length_map]; omega
      exact .of_eq (by simp only [start, List.length_cons, List.length_nil, exSs_nil, exSs_cons, exS_asg, exS_asgO, exS_par, exS_exp, exS_frz, exS_retv, exS_reto, exS_ite, exS_pass, goOn_nx, goOn_rt, fin_nx, fin_rt, frzF_own, frzF_val, getOwn_own, ev_var, ev_pk, ev_cst, ev_glb, ev_bin, ev_not, ev_neg, negF_int, ev_cmp, ev_cmp2, ev_cmp3, ev_and, ev_or, ev_ite, ev_tup, ev_lst, ev_idx, ev_slc, ev_call0, ev_callk, ev_lrng, ev_bi, ev_isi, evs_nil, evs_cons, evD_nil, evD_f, evD_t, evT_nil, evT_cons, evI_seq, evI_rng, evI_enm, elimS, condT, condF, condB, okb, Res.none_bind, Res.bind_assoc, liftS, slot, put, getAny, getVal, List.map_cons, List.map_nil, List.replicate, List.cons_append, List.nil_append, List.append_nil, dr_cell, dr_dP, dr_dI, dr_dL, dr_dW, dr_int, dr_bl, dr_tup, dr_lst, dr_non, dr_str, drs, idxF_lst0, idxF_lst1, idxF_lst2, idxF_tup0, idxF_tup1, idxF_tup2, cmpF_gt, cmpF_le, cmpF_lt, cmpF_ge, cmpF_eq, cmpF_ne, cmpF_in, cmpF_nin, cmpF_eqb, cmpF_neb, inF_dL, inF_lst, inF_tup, truth_bl, truth_int, bindT_nm, bindT_tt, bindT_tl, bindTs_nil, bindTs_nm, seqF_tup, seqF_lst, Option.map_some, Option.map_none, if_true, if_false, Bool.false_eq_true, Nat.reduceAdd, Nat.reduceSub, Nat.reduceEqDiff, Nat.zero_add, binF_add, binF_sub, isi_bool_non, isi_bool_bl, isi_bool_int, isi_bool_str, isi_bool_tup, isi_bool_lst, isi_int_non, isi_int_bl, isi_int_int, isi_int_str, isi_int_tup, isi_int_lst, isi_str_non, isi_str_bl, isi_str_int, isi_str_str, isi_str_tup, isi_str_lst, isi_tuple_non, isi_tuple_bl, isi_tuple_int, isi_tuple_str, isi_tuple_tup, isi_tuple_lst, isi_list_non, isi_list_bl, isi_list_int, isi_list_str, isi_list_tup, isi_list_lst, isi_dict_non, isi_dict_bl, isi_dict_int, isi_dict_str, isi_dict_tup, isi_dict_lst, bnot_bl, Bool.not_true, Bool.not_false, biF_len, biF_list, biF_tuple, biF_sorted, biF_sortedt, biF_all, biF_any, biF_sum, biF_min, biF_max, biF_min2, biF_max2, biF_int, biF_abs, lenF_tup, lenF_lst, szOk0, szOk1, szOk2, szOk3, szOk4, szOk5, szOk6, number_map, Int.cast_ofNat_Int, Int.reduceBEq, Int.reduceBNe, Int.reduceLT, Int.reduceLE, Int.reduceSub, Int.reduceAdd, Int.reduceNeg, decide_true, decide_false, beq_self_eq_true, Int.natCast_zero, Int.natCast_one, g, k1]; rfl) ⟨_, rfl, ⟨pa, ts, g, g1, g2⟩, _, v, w, x, y, rfl⟩
  · rintro _ s3 ⟨⟨p3, ts, g, g1, g2⟩, u, v, w, x, y, rfl⟩
    simp only [start, List.length_cons, List.length_nil, exSs_nil, exSs_cons, exS_asg, exS_asgO, exS_par, exS_exp, exS_frz, exS_retv, exS_reto, exS_ite, exS_pass, goOn_nx, goOn_rt, fin_nx, fin_rt, frzF_own, frzF_val, getOwn_own, ev_var, ev_pk, ev_cst, ev_glb, ev_bin, ev_not, ev_neg, negF_int, ev_cmp, ev_cmp2, ev_cmp3, ev_and, ev_or, ev_ite, ev_tup, ev_lst, ev_idx, ev_slc, ev_call0, ev_callk, ev_lrng, ev_bi, ev_isi, evs_nil, evs_cons, evD_nil, evD_f, evD_t, evT_nil, evT_cons, evI_seq, evI_rng, evI_enm, elimS, condT, condF, condB, okb, Res.none_bind, Res.bind_assoc, liftS, slot, put, getAny, getVal, List.map_cons, List.map_nil, List.replicate, List.cons_append, List.nil_append, List.append_nil, dr_cell, dr_dP, dr_dI, dr_dL, dr_dW, dr_int, dr_bl, dr_tup, dr_lst, dr_non, dr_str, drs, idxF_lst0, idxF_lst1, idxF_lst2, idxF_tup0, idxF_tup1, idxF_tup2, cmpF_gt, cmpF_le, cmpF_lt, cmpF_ge, cmpF_eq, cmpF_ne, cmpF_in, cmpF_nin, cmpF_eqb, cmpF_neb, inF_dL, inF_lst, inF_tup, truth_bl, truth_int, bindT_nm, bindT_tt, bindT_tl, bindTs_nil, bindTs_nm, seqF_tup, seqF_lst, Option.map_some, Option.map_none, if_true, if_false, Bool.false_eq_true, Nat.reduceAdd, Nat.reduceSub, Nat.reduceEqDiff, Nat.zero_add, binF_add, binF_sub, isi_bool_non, isi_bool_bl, isi_bool_int, isi_bool_str, isi_bool_tup, isi_bool_lst, isi_int_non, isi_int_bl, isi_int_int, isi_int_str, isi_int_tup, isi_int_lst, isi_str_non, isi_str_bl, isi_str_int, isi_str_str, isi_str_tup, isi_str_lst, isi_tuple_non, isi_tuple_bl, isi_tuple_int, isi_tuple_str, isi_tuple_tup, isi_tuple_lst, isi_list_non, isi_list_bl, isi_list_int, isi_list_str, isi_list_tup, isi_list_lst, isi_dict_non, isi_dict_bl, isi_dict_int, isi_dict_str, isi_dict_tup, isi_dict_lst, bnot_bl, Bool.not_true, Bool.not_false, biF_len, biF_list, biF_tuple, biF_sorted, biF_sortedt, biF_all, biF_any, biF_sum, biF_min, biF_max, biF_min2, biF_max2, biF_int, biF_abs, lenF_tup, lenF_lst, szOk0, szOk1, szOk2, szOk3, szOk4, szOk5, szOk6, number_map, Int.cast_ofNat_Int, Int.reduceBEq, Int.reduceBNe, Int.reduceLT, Int.reduceLE, Int.reduceSub, Int.reduceAdd, Int.reduceNeg, decide_true, decide_false, beq_self_eq_true, Int.natCast_zero, Int.natCast_one]
    have kl : ((k : Int) - ((ts.map dP).length : Nat)) = ((k - ts.length : Nat) : Int) := by rw [List.length_map]; omega
    refine exS_ok _ _ _ (fun i : Nat => D.int (i : Int)) (fun pre env s => PoolAt s c ∧ (∃ us : List (Nat × Nat), getS s e = some (.lst (us.map dP)) ∧ (∀ p, p ∈ us → p.1 < p.2 ∧ p.2 < m) ∧ us.length = (k - (k - ts.length)) + pre.length) ∧ ∃ u v w x y, env = [Slot.val (.cell c), .val (.int mp), .val (.int mt), .val (.int k), u, v, .val (.int m), .val (.cell e), w, x, y]) (List.range (k - ts.length)) (by simp only [start, List.length_cons, List.length_nil, exSs_nil, exSs_cons, exS_asg, exS_asgO, exS_par, exS_exp, exS_frz, exS_retv, exS_reto, exS_ite, exS_pass, goOn_nx, goOn_rt, fin_nx, fin_rt, frzF_own, frzF_val, getOwn_own, ev_var, ev_pk, ev_cst, ev_glb, ev_bin, ev_not, ev_neg, negF_int, ev_cmp, ev_cmp2, ev_cmp3, ev_and, ev_or, ev_ite, ev_tup, ev_lst, ev_idx, ev_slc, ev_call0, ev_callk, ev_lrng, ev_bi, ev_isi, evs_nil, evs_cons, evD_nil, evD_f, evD_t, evT_nil, evT_cons, evI_seq, evI_rng, evI_enm, elimS, condT, condF, condB, okb, Res.none_bind, Res.bind_assoc, liftS, slot, put, getAny, getVal, List.map_cons, List.map_nil, List.replicate, List.cons_append, List.nil_append, List.append_nil, dr_cell, dr_dP, dr_dI, dr_dL, dr_dW, dr_int, dr_bl, dr_tup, dr_lst, dr_non, dr_str, drs, idxF_lst0, idxF_lst1, idxF_lst2, idxF_tup0, idxF_tup1, idxF_tup2, cmpF_gt, cmpF_le, cmpF_lt, cmpF_ge, cmpF_eq, cmpF_ne, cmpF_in, cmpF_nin, cmpF_eqb, cmpF_neb, inF_dL, inF_lst, inF_tup, truth_bl, truth_int, bindT_nm, bindT_tt, bindT_tl, bindTs_nil, bindTs_nm, seqF_tup, seqF_lst, Option.map_some, Option.map_none, if_true, if_false, Bool.false_eq_true, Nat.reduceAdd, Nat.reduceSub, Nat.reduceEqDiff, Nat.zero_add, binF_add, binF_sub, isi_bool_non, isi_bool_bl, isi_bool_int, isi_bool_str, isi_bool_tup, isi_bool_lst, isi_int_non, isi_int_bl, isi_int_int, isi_int_str, isi_int_tup, isi_int_lst, isi_str_non, isi_str_bl, isi_str_int, isi_str_str, isi_str_tup, isi_str_lst, isi_tuple_non, isi_tuple_bl, isi_tuple_int, isi_tuple_str, isi_tuple_tup, isi_tuple_lst, isi_list_non, isi_list_bl, isi_list_int, isi_list_str, isi_list_tup, isi_list_lst, isi_dict_non, isi_dict_bl, isi_dict_int, isi_dict_str, isi_dict_tup, isi_dict_lst, bnot_bl, Bool.not_true, Bool.not_false, biF_len, biF_list, biF_tuple, biF_sorted, biF_sortedt, biF_all, biF_any, biF_sum, biF_min, biF_max, biF_min2, biF_max2, biF_int, biF_abs, lenF_tup, lenF_lst, szOk0, szOk1, szOk2, szOk3, szOk4, szOk5, szOk6, number_map, Int.cast_ofNat_Int, Int.reduceBEq, Int.reduceBNe, Int.reduceLT, Int.reduceLE, Int.reduceSub, Int.reduceAdd, Int.reduceNeg, decide_true, decide_false, beq_self_eq_true, Int.natCast_zero, Int.natCast_one, g, kl, rngF1' (m := k - ts.length) (by omega)]) ?_ ⟨p3, ⟨ts, g, g1, by simp; omega⟩, _, _, _, _, _, rfl⟩ ?_
    · rintro pre i post _ s er ⟨pa, ⟨us, g, h1, h2⟩, u, v, w, x, y, rfl⟩
      refine ⟨_, rfl, ?_⟩
      have er' := pre_le er
      rw [List.length_range] at er'
      simp only [start, List.length_cons, List.length_nil, exSs_nil, exSs_cons, exS_asg, exS_asgO, exS_par, exS_exp, exS_frz, exS_retv, exS_reto, exS_ite, exS_pass, goOn_nx, goOn_rt, fin_nx, fin_rt, frzF_own, frzF_val, getOwn_own, ev_var, ev_pk, ev_cst, ev_glb, ev_bin, ev_not, ev_neg, negF_int, ev_cmp, ev_cmp2, ev_cmp3, ev_and, ev_or, ev_ite, ev_tup, ev_lst, ev_idx, ev_slc, ev_call0, ev_callk, ev_lrng, ev_bi, ev_isi, evs_nil, evs_cons, evD_nil, evD_f, evD_t, evT_nil, evT_cons, evI_seq, evI_rng, evI_enm, elimS, condT, condF, condB, okb, Res.none_bind, Res.bind_assoc, liftS, slot, put, getAny, getVal, List.map_cons, List.map_nil, List.replicate, List.cons_append, List.nil_append, List.append_nil, dr_cell, dr_dP, dr_dI, dr_dL, dr_dW, dr_int, dr_bl, dr_tup, dr_lst, dr_non, dr_str, drs, idxF_lst0, idxF_lst1, idxF_lst2, idxF_tup0, idxF_tup1, idxF_tup2, cmpF_gt, cmpF_le, cmpF_lt, cmpF_ge, cmpF_eq, cmpF_ne, cmpF_in, cmpF_nin, cmpF_eqb, cmpF_neb, inF_dL, inF_lst, inF_tup, truth_bl, truth_int, bindT_nm, bindT_tt, bindT_tl, bindTs_nil, bindTs_nm, seqF_tup, seqF_lst, Option.map_some, Option.map_none, if_true, if_false, Bool.false_eq_true, Nat.reduceAdd, Nat.reduceSub, Nat.reduceEqDiff, Nat.zero_add, binF_add, binF_sub, isi_bool_non, isi_bool_bl, isi_bool_int, isi_bool_str, isi_bool_tup, isi_bool_lst, isi_int_non, isi_int_bl, isi_int_int, isi_int_str, isi_int_tup, isi_int_lst, isi_str_non, isi_str_bl, isi_str_int, isi_str_str, isi_str_tup, isi_str_lst, isi_tuple_non, isi_tuple_bl, isi_tuple_int, isi_tuple_str, isi_tuple_tup, isi_tuple_lst, isi_list_non, isi_list_bl, isi_list_int, isi_list_str, isi_list_tup, isi_list_lst, isi_dict_non, isi_dict_bl, isi_dict_int, isi_dict_str, isi_dict_tup, isi_dict_lst, bnot_bl, Bool.not_true, Bool.not_false, biF_len, biF_list, biF_tuple, biF_sorted, biF_sortedt, biF_all, biF_any, biF_sum, biF_min, biF_max, biF_min2, biF_max2, biF_int, biF_abs, lenF_tup, lenF_lst, szOk0, szOk1, szOk2, szOk3, szOk4, szOk5, szOk6, number_map, Int.cast_ofNat_Int, Int.reduceBEq, Int.reduceBNe, Int.reduceLT, Int.reduceLE, Int.reduceSub, Int.reduceAdd, Int.reduceNeg, decide_true, decide_false, beq_self_eq_true, Int.natCast_zero, Int.natCast_one]
      refine Res.Ok.bind (draw_s (n := n - 1) (by omega) pa (by omega) (by omega)) ?_
      rintro _ s4 ⟨⟨a, rfl, ha⟩, p4, f4⟩
      have g4 := (f4 e nec).trans g
      simp only [start, List.length_cons, List.length_nil, exSs_nil, exSs_cons, exS_asg, exS_asgO, exS_par, exS_exp, exS_frz, exS_retv, exS_reto, exS_ite, exS_pass, goOn_nx, goOn_rt, fin_nx, fin_rt, frzF_own, frzF_val, getOwn_own, ev_var, ev_pk, ev_cst, ev_glb, ev_bin, ev_not, ev_neg, negF_int, ev_cmp, ev_cmp2, ev_cmp3, ev_and, ev_or, ev_ite, ev_tup, ev_lst, ev_idx, ev_slc, ev_call0, ev_callk, ev_lrng, ev_bi, ev_isi, evs_nil, evs_cons, evD_nil, evD_f, evD_t, evT_nil, evT_cons, evI_seq, evI_rng, evI_enm, elimS, condT, condF, condB, okb, Res.none_bind, Res.bind_assoc, liftS, slot, put, getAny, getVal, List.map_cons, List.map_nil, List.replicate, List.cons_append, List.nil_append, List.append_nil, dr_cell, dr_dP, dr_dI, dr_dL, dr_dW, dr_int, dr_bl, dr_tup, dr_lst, dr_non, dr_str, drs, idxF_lst0, idxF_lst1, idxF_lst2, idxF_tup0, idxF_tup1, idxF_tup2, cmpF_gt, cmpF_le, cmpF_lt, cmpF_ge, cmpF_eq, cmpF_ne, cmpF_in, cmpF_nin, cmpF_eqb, cmpF_neb, inF_dL, inF_lst, inF_tup, truth_bl, truth_int, bindT_nm, bindT_tt, bindT_tl, bindTs_nil, bindTs_nm, seqF_tup, seqF_lst, Option.map_some, Option.map_none, if_true, if_false, Bool.false_eq_true, Nat.reduceAdd, Nat.reduceSub, Nat.reduceEqDiff, Nat.zero_add, binF_add, binF_sub, isi_bool_non, isi_bool_bl, isi_bool_int, isi_bool_str, isi_bool_tup, isi_bool_lst, isi_int_non, isi_int_bl, isi_int_int, isi_int_str, isi_int_tup, isi_int_lst, isi_str_non, isi_str_bl, isi_str_int, isi_str_str, isi_str_tup, isi_str_lst, isi_tuple_non, isi_tuple_bl, isi_tuple_int, isi_tuple_str, isi_tuple_tup, isi_tuple_lst, isi_list_non, isi_list_bl, isi_list_int, isi_list_str, isi_list_tup, isi_list_lst, isi_dict_non, isi_dict_bl, isi_dict_int, isi_dict_str, isi_dict_tup, isi_dict_lst, bnot_bl, Bool.not_true, Bool.not_false, biF_len, biF_list, biF_tuple, biF_sorted, biF_sortedt, biF_all, biF_any, biF_sum, biF_min, biF_max, biF_min2, biF_max2, biF_int, biF_abs, lenF_tup, lenF_lst, szOk0, szOk1, szOk2, szOk3, szOk4, szOk5, szOk6, number_map, Int.cast_ofNat_Int, Int.reduceBEq, Int.reduceBNe, Int.reduceLT, Int.reduceLE, Int.reduceSub, Int.reduceAdd, Int.reduceNeg, decide_true, decide_false, beq_self_eq_true, Int.natCast_zero, Int.natCast_one]
      refine Res.Ok.bind (draw_s (n := n - 1) (by omega) p4 (by omega) (by omega)) ?_
      rintro _ s5 ⟨⟨d, rfl, hd⟩, p5, f5⟩
      have g5 := (f5 e nec).trans g4
      obtain ⟨b, hb, hb1, hb2⟩ := pole_ne (m := m) (x := a) (d := d) (by omega) (by omega)
      obtain ⟨p, q1, q2, q3, q4⟩ := minmax (m := m) (x := a) (y := b) (by omega) hb1 hb2
      have md : binF .mod (.int ((a : Int) + 1 + d)) (.int m) = some (.int b) := by rw [binF_mod _ _ (by omega), hb]
      simp only [start, List.length_cons, List.length_nil, exSs_nil, exSs_cons, exS_asg, exS_asgO, exS_par, exS_exp, exS_frz, exS_retv, exS_reto, exS_ite, exS_pass, goOn_nx, goOn_rt, fin_nx, fin_rt, frzF_own, frzF_val, getOwn_own, ev_var, ev_pk, ev_cst, ev_glb, ev_bin, ev_not, ev_neg, negF_int, ev_cmp, ev_cmp2, ev_cmp3, ev_and, ev_or, ev_ite, ev_tup, ev_lst, ev_idx, ev_slc, ev_call0, ev_callk, ev_lrng, ev_bi, ev_isi, evs_nil, evs_cons, evD_nil, evD_f, evD_t, evT_nil, evT_cons, evI_seq, evI_rng, evI_enm, elimS, condT, condF, condB, okb, Res.none_bind, Res.bind_assoc, liftS, slot, put, getAny, getVal, List.map_cons, List.map_nil, List.replicate, List.cons_append, List.nil_append, List.append_nil, dr_cell, dr_dP, dr_dI, dr_dL, dr_dW, dr_int, dr_bl, dr_tup, dr_lst, dr_non, dr_str, drs, idxF_lst0, idxF_lst1, idxF_lst2, idxF_tup0, idxF_tup1, idxF_tup2, cmpF_gt, cmpF_le, cmpF_lt, cmpF_ge, cmpF_eq, cmpF_ne, cmpF_in, cmpF_nin, cmpF_eqb, cmpF_neb, inF_dL, inF_lst, inF_tup, truth_bl, truth_int, bindT_nm, bindT_tt, bindT_tl, bindTs_nil, bindTs_nm, seqF_tup, seqF_lst, Option.map_some, Option.map_none, if_true, if_false, Bool.false_eq_true, Nat.reduceAdd, Nat.reduceSub, Nat.reduceEqDiff, Nat.zero_add, binF_add, binF_sub, isi_bool_non, isi_bool_bl, isi_bool_int, isi_bool_str, isi_bool_tup, isi_bool_lst, isi_int_non, isi_int_bl, isi_int_int, isi_int_str, isi_int_tup, isi_int_lst, isi_str_non, isi_str_bl, isi_str_int, isi_str_str, isi_str_tup, isi_str_lst, isi_tuple_non, isi_tuple_bl, isi_tuple_int, isi_tuple_str, isi_tuple_tup, isi_tuple_lst, isi_list_non, isi_list_bl, isi_list_int, isi_list_str, isi_list_tup, isi_list_lst, isi_dict_non, isi_dict_bl, isi_dict_int, isi_dict_str, isi_dict_tup, isi_dict_lst, bnot_bl, Bool.not_true, Bool.not_false, biF_len, biF_list, biF_tuple, biF_sorted, biF_sortedt, biF_all, biF_any, biF_sum, biF_min, biF_max, biF_min2, biF_max2, biF_int, biF_abs, lenF_tup, lenF_lst, szOk0, szOk1, szOk2, szOk3, szOk4, szOk5, szOk6, number_map, Int.cast_ofNat_Int, Int.reduceBEq, Int.reduceBNe, Int.reduceLT, Int.reduceLE, Int.reduceSub, Int.reduceAdd, Int.reduceNeg, decide_true, decide_false, beq_self_eq_true, Int.natCast_zero, Int.natCast_one, md]
      refine exS_app_ok _ _ _ rfl g5 ?_
      refine Res.Ok.bind (P := fun r s' => (∃ q : Nat × Nat, r = dP q ∧ q.1 < q.2 ∧ q.2 < m) ∧ PoolAt s' c ∧ getS s' e = some (.lst (us.map dP))) ?_ ?_
      · by_cases ue : us = []
        · subst ue
          simp only [start, List.length_cons, List.length_nil, exSs_nil, exSs_cons, exS_asg, exS_asgO, exS_par, exS_exp, exS_frz, exS_retv, exS_reto, exS_ite, exS_pass, goOn_nx, goOn_rt, fin_nx, fin_rt, frzF_own, frzF_val, getOwn_own, ev_var, ev_pk, ev_cst, ev_glb, ev_bin, ev_not, ev_neg, negF_int, ev_cmp, ev_cmp2, ev_cmp3, ev_and, ev_or, ev_ite, ev_tup, ev_lst, ev_idx, ev_slc, ev_call0, ev_callk, ev_lrng, ev_bi, ev_isi, evs_nil, evs_cons, evD_nil, evD_f, evD_t, evT_nil, evT_cons, evI_seq, evI_rng, evI_enm, elimS, condT, condF, condB, okb, Res.none_bind, Res.bind_assoc, liftS, slot, put, getAny, getVal, List.map_cons, List.map_nil, List.replicate, List.cons_append, List.nil_append, List.append_nil, dr_cell, dr_dP, dr_dI, dr_dL, dr_dW, dr_int, dr_bl, dr_tup, dr_lst, dr_non, dr_str, drs, idxF_lst0, idxF_lst1, idxF_lst2, idxF_tup0, idxF_tup1, idxF_tup2, cmpF_gt, cmpF_le, cmpF_lt, cmpF_ge, cmpF_eq, cmpF_ne, cmpF_in, cmpF_nin, cmpF_eqb, cmpF_neb, inF_dL, inF_lst, inF_tup, truth_bl, truth_int, bindT_nm, bindT_tt, bindT_tl, bindTs_nil, bindTs_nm, seqF_tup, seqF_lst, Option.map_some, Option.map_none, if_true, if_false, Bool.false_eq_true, Nat.reduceAdd, Nat.reduceSub, Nat.reduceEqDiff, Nat.zero_add, binF_add, binF_sub, isi_bool_non, isi_bool_bl, isi_bool_int, isi_bool_str, isi_bool_tup, isi_bool_lst, isi_int_non, isi_int_bl, isi_int_int, isi_int_str, isi_int_tup, isi_int_lst, isi_str_non, isi_str_bl, isi_str_int, isi_str_str, isi_str_tup, isi_str_lst, isi_tuple_non, isi_tuple_bl, isi_tuple_int, isi_tuple_str, isi_tuple_tup, isi_tuple_lst, isi_list_non, isi_list_bl, isi_list_int, isi_list_str, isi_list_tup, isi_list_lst, isi_dict_non, isi_dict_bl, isi_dict_int, isi_dict_str, isi_dict_tup, isi_dict_lst, bnot_bl, Bool.not_true, Bool.not_false, biF_len, biF_list, biF_tuple, biF_sorted, biF_sortedt, biF_all, biF_any, biF_sum, biF_min, biF_max, biF_min2, biF_max2, biF_int, biF_abs, lenF_tup, lenF_lst, szOk0, szOk1, szOk2, szOk3, szOk4, szOk5, szOk6, number_map, Int.cast_ofNat_Int, Int.reduceBEq, Int.reduceBNe, Int.reduceLT, Int.reduceLE, Int.reduceSub, Int.reduceAdd, Int.reduceNeg, decide_true, decide_false, beq_self_eq_true, Int.natCast_zero, Int.natCast_one, g5]
          have k0 : cmpF .eq (.lst []) (.lst []) = some true := rfl
          exact .of_eq (a := dP p) (by simp only [start, List.length_cons, List.length_nil, exSs_nil, exSs_cons, exS_asg, exS_asgO, exS_par, exS_exp, exS_frz, exS_retv, exS_reto, exS_ite, exS_pass, goOn_nx, goOn_rt, fin_nx, fin_rt, frzF_own, frzF_val, getOwn_own, ev_var, ev_pk, ev_cst, ev_glb, ev_bin, ev_not, ev_neg, negF_int, ev_cmp, ev_cmp2, ev_cmp3, ev_and, ev_or, ev_ite, ev_tup, ev_lst, ev_idx, ev_slc, ev_call0, ev_callk, ev_lrng, ev_bi, ev_isi, evs_nil, evs_cons, evD_nil, evD_f, evD_t, evT_nil, evT_cons, evI_seq, evI_rng, evI_enm, elimS, condT, condF, condB, okb, Res.none_bind, Res.bind_assoc, liftS, slot, put, getAny, getVal, List.map_cons, List.map_nil, List.replicate, List.cons_append, List.nil_append, List.append_nil, dr_cell, dr_dP, dr_dI, dr_dL, dr_dW, dr_int, dr_bl, dr_tup, dr_lst, dr_non, dr_str, drs, idxF_lst0, idxF_lst1, idxF_lst2, idxF_tup0, idxF_tup1, idxF_tup2, cmpF_gt, cmpF_le, cmpF_lt, cmpF_ge, cmpF_eq, cmpF_ne, cmpF_in, cmpF_nin, cmpF_eqb, cmpF_neb, inF_dL, inF_lst, inF_tup, truth_bl, truth_int, bindT_nm, bindT_tt, bindT_tl, bindTs_nil, bindTs_nm, seqF_tup, seqF_lst, Option.map_some, Option.map_none, if_true, if_false, Bool.false_eq_true, Nat.reduceAdd, Nat.reduceSub, Nat.reduceEqDiff, Nat.zero_add, binF_add, binF_sub, isi_bool_non, isi_bool_bl, isi_bool_int, isi_bool_str, isi_bool_tup, isi_bool_lst, isi_int_non, isi_int_bl, isi_int_int, isi_int_str, isi_int_tup, isi_int_lst, isi_str_non, isi_str_bl, isi_str_int, isi_str_str, isi_str_tup, isi_str_lst, isi_tuple_non, isi_tuple_bl, isi_tuple_int, isi_tuple_str, isi_tuple_tup, isi_tuple_lst, isi_list_non, isi_list_bl, isi_list_int, isi_list_str, isi_list_tup, isi_list_lst, isi_dict_non, isi_dict_bl, isi_dict_int, isi_dict_str, isi_dict_tup, isi_dict_lst, bnot_bl, Bool.not_true, Bool.not_false, biF_len, biF_list, biF_tuple, biF_sorted, biF_sortedt, biF_all, biF_any, biF_sum, biF_min, biF_max, biF_min2, biF_max2, biF_int, biF_abs, lenF_tup, lenF_lst, szOk0, szOk1, szOk2, szOk3, szOk4, szOk5, szOk6, number_map, Int.cast_ofNat_Int, Int.reduceBEq, Int.reduceBNe, Int.reduceLT, Int.reduceLE, Int.reduceSub, Int.reduceAdd, Int.reduceNeg, decide_true, decide_false, beq_self_eq_true, Int.natCast_zero, Int.natCast_one, k0, q3, q4, dP]) ⟨⟨p, rfl, q1, q2⟩, p5, g5⟩
        · have ue' : us.isEmpty = false := by cases us with
            | nil => exact absurd rfl ue
            | cons => rfl
          simp only [start, List.length_cons, List.length_nil, exSs_nil, exSs_cons, exS_asg, exS_asgO, exS_par, exS_exp, exS_frz, exS_retv, exS_reto, exS_ite, exS_pass, goOn_nx, goOn_rt, fin_nx, fin_rt, frzF_own, frzF_val, getOwn_own, ev_var, ev_pk, ev_cst, ev_glb, ev_bin, ev_not, ev_neg, negF_int, ev_cmp, ev_cmp2, ev_cmp3, ev_and, ev_or, ev_ite, ev_tup, ev_lst, ev_idx, ev_slc, ev_call0, ev_callk, ev_lrng, ev_bi, ev_isi, evs_nil, evs_cons, evD_nil, evD_f, evD_t, evT_nil, evT_cons, evI_seq, evI_rng, evI_enm, elimS, condT, condF, condB, okb, Res.none_bind, Res.bind_assoc, liftS, slot, put, getAny, getVal, List.map_cons, List.map_nil, List.replicate, List.cons_append, List.nil_append, List.append_nil, dr_cell, dr_dP, dr_dI, dr_dL, dr_dW, dr_int, dr_bl, dr_tup, dr_lst, dr_non, dr_str, drs, idxF_lst0, idxF_lst1, idxF_lst2, idxF_tup0, idxF_tup1, idxF_tup2, cmpF_gt, cmpF_le, cmpF_lt, cmpF_ge, cmpF_eq, cmpF_ne, cmpF_in, cmpF_nin, cmpF_eqb, cmpF_neb, inF_dL, inF_lst, inF_tup, truth_bl, truth_int, bindT_nm, bindT_tt, bindT_tl, bindTs_nil, bindTs_nm, seqF_tup, seqF_lst, Option.map_some, Option.map_none, if_true, if_false, Bool.false_eq_true, Nat.reduceAdd, Nat.reduceSub, Nat.reduceEqDiff, Nat.zero_add, binF_add, binF_sub, isi_bool_non, isi_bool_bl, isi_bool_int, isi_bool_str, isi_bool_tup, isi_bool_lst, isi_int_non, isi_int_bl, isi_int_int, isi_int_str, isi_int_tup, isi_int_lst, isi_str_non, isi_str_bl, isi_str_int, isi_str_str, isi_str_tup, isi_str_lst, isi_tuple_non, isi_tuple_bl, isi_tuple_int, isi_tuple_str, isi_tuple_tup, isi_tuple_lst, isi_list_non, isi_list_bl, isi_list_int, isi_list_str, isi_list_tup, isi_list_lst, isi_dict_non, isi_dict_bl, isi_dict_int, isi_dict_str, isi_dict_tup, isi_dict_lst, bnot_bl, Bool.not_true, Bool.not_false, biF_len, biF_list, biF_tuple, biF_sorted, biF_sortedt, biF_all, biF_any, biF_sum, biF_min, biF_max, biF_min2, biF_max2, biF_int, biF_abs, lenF_tup, lenF_lst, szOk0, szOk1, szOk2, szOk3, szOk4, szOk5, szOk6, number_map, Int.cast_ofNat_Int, Int.reduceBEq, Int.reduceBNe, Int.reduceLT, Int.reduceLE, Int.reduceSub, Int.reduceAdd, Int.reduceNeg, decide_true, decide_false, beq_self_eq_true, Int.natCast_zero, Int.natCast_one, g5, isEmpty_map dP (fun _ => rfl), ue']
          refine Res.Ok.bind (draw_s (n := n - 1) (by omega) p5 (by omega) (by omega)) ?_
          rintro _ s6 ⟨⟨d, rfl, hd⟩, p6, f6⟩
          have g6 := (f6 e nec).trans g5
          by_cases hd0 : (0 : Int) < (d : Int)
          · exact .of_eq (a := dP p) (by simp only [start, List.length_cons, List.length_nil, exSs_nil, exSs_cons, exS_asg, exS_asgO, exS_par, exS_exp, exS_frz, exS_retv, exS_reto, exS_ite, exS_pass, goOn_nx, goOn_rt, fin_nx, fin_rt, frzF_own, frzF_val, getOwn_own, ev_var, ev_pk, ev_cst, ev_glb, ev_bin, ev_not, ev_neg, negF_int, ev_cmp, ev_cmp2, ev_cmp3, ev_and, ev_or, ev_ite, ev_tup, ev_lst, ev_idx, ev_slc, ev_call0, ev_callk, ev_lrng, ev_bi, ev_isi, evs_nil, evs_cons, evD_nil, evD_f, evD_t, evT_nil, evT_cons, evI_seq, evI_rng, evI_enm, elimS, condT, condF, condB, okb, Res.none_bind, Res.bind_assoc, liftS, slot, put, getAny, getVal, List.map_cons, List.map_nil, List.replicate, List.cons_append, List.nil_append, List.append_nil, dr_cell, dr_dP, dr_dI, dr_dL, dr_dW, dr_int, dr_bl, dr_tup, dr_lst, dr_non, dr_str, drs, idxF_lst0, idxF_lst1, idxF_lst2, idxF_tup0, idxF_tup1, idxF_tup2, cmpF_gt, cmpF_le, cmpF_lt, cmpF_ge, cmpF_eq, cmpF_ne, cmpF_in, cmpF_nin, cmpF_eqb, cmpF_neb, inF_dL, inF_lst, inF_tup, truth_bl, truth_int, bindT_nm, bindT_tt, bindT_tl, bindTs_nil, bindTs_nm, seqF_tup, seqF_lst, Option.map_some, Option.map_none, if_true, if_false, Bool.false_eq_true, Nat.reduceAdd, Nat.reduceSub, Nat.reduceEqDiff, Nat.zero_add, binF_add, binF_sub, isi_bool_non, isi_bool_bl, isi_bool_int, isi_bool_str, isi_bool_tup, isi_bool_lst, isi_int_non, isi_int_bl, isi_int_int, isi_int_str, isi_int_tup, isi_int_lst, isi_str_non, isi_str_bl, isi_str_int, isi_str_str, isi_str_tup, isi_str_lst, isi_tuple_non, isi_tuple_bl, isi_tuple_int, isi_tuple_str, isi_tuple_tup, isi_tuple_lst, isi_list_non, isi_list_bl, isi_list_int, isi_list_str, isi_list_tup, isi_list_lst, isi_dict_non, isi_dict_bl, isi_dict_int, isi_dict_str, isi_dict_tup, isi_dict_lst, bnot_bl, Bool.not_true, Bool.not_false, biF_len, biF_list, biF_tuple, biF_sorted, biF_sortedt, biF_all, biF_any, biF_sum, biF_min, biF_max, biF_min2, biF_max2, biF_int, biF_abs, lenF_tup, lenF_lst, szOk0, szOk1, szOk2, szOk3, szOk4, szOk5, szOk6, number_map, Int.cast_ofNat_Int, Int.reduceBEq, Int.reduceBNe, Int.reduceLT, Int.reduceLE, Int.reduceSub, Int.reduceAdd, Int.reduceNeg, decide_true, decide_false, beq_self_eq_true, Int.natCast_zero, Int.natCast_one, hd0, q3, q4, dP]) ⟨⟨p, rfl, q1, q2⟩, p6, g6⟩
          · simp only [start, List.length_cons, List.length_nil, exSs_nil, exSs_cons, exS_asg, exS_asgO, exS_par, exS_exp, exS_frz, exS_retv, exS_reto, exS_ite, exS_pass, goOn_nx, goOn_rt, fin_nx, fin_rt, frzF_own, frzF_val, getOwn_own, ev_var, ev_pk, ev_cst, ev_glb, ev_bin, ev_not, ev_neg, negF_int, ev_cmp, ev_cmp2, ev_cmp3, ev_and, ev_or, ev_ite, ev_tup, ev_lst, ev_idx, ev_slc, ev_call0, ev_callk, ev_lrng, ev_bi, ev_isi, evs_nil, evs_cons, evD_nil, evD_f, evD_t, evT_nil, evT_cons, evI_seq, evI_rng, evI_enm, elimS, condT, condF, condB, okb, Res.none_bind, Res.bind_assoc, liftS, slot, put, getAny, getVal, List.map_cons, List.map_nil, List.replicate, List.cons_append, List.nil_append, List.append_nil, dr_cell, dr_dP, dr_dI, dr_dL, dr_dW, dr_int, dr_bl, dr_tup, dr_lst, dr_non, dr_str, drs, idxF_lst0, idxF_lst1, idxF_lst2, idxF_tup0, idxF_tup1, idxF_tup2, cmpF_gt, cmpF_le, cmpF_lt, cmpF_ge, cmpF_eq, cmpF_ne, cmpF_in, cmpF_nin, cmpF_eqb, cmpF_neb, inF_dL, inF_lst, inF_tup, truth_bl, truth_int, bindT_nm, bindT_tt, bindT_tl, bindTs_nil, bindTs_nm, seqF_tup, seqF_lst, Option.map_some, Option.map_none, if_true, if_false, Bool.false_eq_true, Nat.reduceAdd, Nat.reduceSub, Nat.reduceEqDiff, Nat.zero_add, binF_add, binF_sub, isi_bool_non, isi_bool_bl, isi_bool_int, isi_bool_str, isi_bool_tup, isi_bool_lst, isi_int_non, isi_int_bl, isi_int_int, isi_int_str, isi_int_tup, isi_int_lst, isi_str_non, isi_str_bl, isi_str_int, isi_str_str, isi_str_tup, isi_str_lst, isi_tuple_non, isi_tuple_bl, isi_tuple_int, isi_tuple_str, isi_tuple_tup, isi_tuple_lst, isi_list_non, isi_list_bl, isi_list_int, isi_list_str, isi_list_tup, isi_list_lst, isi_dict_non, isi_dict_bl, isi_dict_int, isi_dict_str, isi_dict_tup, isi_dict_lst, bnot_bl, Bool.not_true, Bool.not_false, biF_len, biF_list, biF_tuple, biF_sorted, biF_sortedt, biF_all, biF_any, biF_sum, biF_min, biF_max, biF_min2, biF_max2, biF_int, biF_abs, lenF_tup, lenF_lst, szOk0, szOk1, szOk2, szOk3, szOk4, szOk5, szOk6, number_map, Int.cast_ofNat_Int, Int.reduceBEq, Int.reduceBNe, Int.reduceLT, Int.reduceLE, Int.reduceSub, Int.reduceAdd, Int.reduceNeg, decide_true, decide_false, beq_self_eq_true, Int.natCast_zero, Int.natCast_one, hd0]
            refine (law_pick_s (n := n - 1) (by omega) p6 g6 nec ue (by omega)).mono ?_
            rintro _ s7 ⟨⟨q, qm, rfl⟩, p7, f7⟩
            exact ⟨⟨q, rfl, (h1 q qm).1, (h1 q qm).2⟩, p7, (f7 e nec).trans g6⟩
      · rintro _ s6 ⟨⟨q, rfl, j1, j2⟩, p6, g6⟩
        simp only [start, List.length_cons, List.length_nil, exSs_nil, exSs_cons, exS_asg, exS_asgO, exS_par, exS_exp, exS_frz, exS_retv, exS_reto, exS_ite, exS_pass, goOn_nx, goOn_rt, fin_nx, fin_rt, frzF_own, frzF_val, getOwn_own, ev_var, ev_pk, ev_cst, ev_glb, ev_bin, ev_not, ev_neg, negF_int, ev_cmp, ev_cmp2, ev_cmp3, ev_and, ev_or, ev_ite, ev_tup, ev_lst, ev_idx, ev_slc, ev_call0, ev_callk, ev_lrng, ev_bi, ev_isi, evs_nil, evs_cons, evD_nil, evD_f, evD_t, evT_nil, evT_cons, evI_seq, evI_rng, evI_enm, elimS, condT, condF, condB, okb, Res.none_bind, Res.bind_assoc, liftS, slot, put, getAny, getVal, List.map_cons, List.map_nil, List.replicate, List.cons_append, List.nil_append, List.append_nil, dr_cell, dr_dP, dr_dI, dr_dL, dr_dW, dr_int, dr_bl, dr_tup, dr_lst, dr_non, dr_str, drs, idxF_lst0, idxF_lst1, idxF_lst2, idxF_tup0, idxF_tup1, idxF_tup2, cmpF_gt, cmpF_le, cmpF_lt, cmpF_ge, cmpF_eq, cmpF_ne, cmpF_in, cmpF_nin, cmpF_eqb, cmpF_neb, inF_dL, inF_lst, inF_tup, truth_bl, truth_int, bindT_nm, bindT_tt, bindT_tl, bindTs_nil, bindTs_nm, seqF_tup, seqF_lst, Option.map_some, Option.map_none, if_true, if_false, Bool.false_eq_true, Nat.reduceAdd, Nat.reduceSub, Nat.reduceEqDiff, Nat.zero_add, binF_add, binF_sub, isi_bool_non, isi_bool_bl, isi_bool_int, isi_bool_str, isi_bool_tup, isi_bool_lst, isi_int_non, isi_int_bl, isi_int_int, isi_int_str, isi_int_tup, isi_int_lst, isi_str_non, isi_str_bl, isi_str_int, isi_str_str, isi_str_tup, isi_str_lst, isi_tuple_non, isi_tuple_bl, isi_tuple_int, isi_tuple_str, isi_tuple_tup, isi_tuple_lst, isi_list_non, isi_list_bl, isi_list_int, isi_list_str, isi_list_tup, isi_list_lst, isi_dict_non, isi_dict_bl, isi_dict_int, isi_dict_str, isi_dict_tup, isi_dict_lst, bnot_bl, Bool.not_true, Bool.not_false, biF_len, biF_list, biF_tuple, biF_sorted, biF_sortedt, biF_all, biF_any, biF_sum, biF_min, biF_max, biF_min2, biF_max2, biF_int, biF_abs, lenF_tup, lenF_lst, szOk0, szOk1, szOk2, szOk3, szOk4, szOk5, szOk6, number_map, Int.cast_ofNat_Int, Int.reduceBEq, Int.reduceBNe, Int.reduceLT, Int.reduceLE, Int.reduceSub, Int.reduceAdd, Int.reduceNeg, decide_true, decide_false, beq_self_eq_true, Int.natCast_zero, Int.natCast_one, appF_ok g6 (by rw [List.length_map]; omega)]
        refine .ret ⟨_, rfl, p6.set nec, ⟨us ++ [q], by rw [getS_set g6, List.map_append]; rfl, ?_, by simp; omega⟩, _, _, _, _, _, rfl⟩
        intro p hp
        rcases List.mem_append.mp hp with hp | hp
        · exact h1 p hp
        · rw [List.mem_singleton.mp hp]
          exact ⟨j1, j2⟩
    · rintro _ s5 ⟨p5, ⟨us, h1, h2, h3⟩, u, v, w, x, y, rfl⟩
      rw [List.length_range] at h3
      have so := sortF_enc ltP ltB_dP (fun _ => rfl) (fun _ _ => rfl) us
      have pe := isortA_perm ltP us
      have le := pe.length_eq
      refine .of_eq (a := dW m (isortA ltP us)) (by simp only [start, List.length_cons, List.length_nil, exSs_nil, exSs_cons, exS_asg, exS_asgO, exS_par, exS_exp, exS_frz, exS_retv, exS_reto, exS_ite, exS_pass, goOn_nx, goOn_rt, fin_nx, fin_rt, frzF_own, frzF_val, getOwn_own, ev_var, ev_pk, ev_cst, ev_glb, ev_bin, ev_not, ev_neg, negF_int, ev_cmp, ev_cmp2, ev_cmp3, ev_and, ev_or, ev_ite, ev_tup, ev_lst, ev_idx, ev_slc, ev_call0, ev_callk, ev_lrng, ev_bi, ev_isi, evs_nil, evs_cons, evD_nil, evD_f, evD_t, evT_nil, evT_cons, evI_seq, evI_rng, evI_enm, elimS, condT, condF, condB, okb, Res.none_bind, Res.bind_assoc, liftS, slot, put, getAny, getVal, List.map_cons, List.map_nil, List.replicate, List.cons_append, List.nil_append, List.append_nil, dr_cell, dr_dP, dr_dI, dr_dL, dr_dW, dr_int, dr_bl, dr_tup, dr_lst, dr_non, dr_str, drs, idxF_lst0, idxF_lst1, idxF_lst2, idxF_tup0, idxF_tup1, idxF_tup2, cmpF_gt, cmpF_le, cmpF_lt, cmpF_ge, cmpF_eq, cmpF_ne, cmpF_in, cmpF_nin, cmpF_eqb, cmpF_neb, inF_dL, inF_lst, inF_tup, truth_bl, truth_int, bindT_nm, bindT_tt, bindT_tl, bindTs_nil, bindTs_nm, seqF_tup, seqF_lst, Option.map_some, Option.map_none, if_true, if_false, Bool.false_eq_true, Nat.reduceAdd, Nat.reduceSub, Nat.reduceEqDiff, Nat.zero_add, binF_add, binF_sub, isi_bool_non, isi_bool_bl, isi_bool_int, isi_bool_str, isi_bool_tup, isi_bool_lst, isi_int_non, isi_int_bl, isi_int_int, isi_int_str, isi_int_tup, isi_int_lst, isi_str_non, isi_str_bl, isi_str_int, isi_str_str, isi_str_tup, isi_str_lst, isi_tuple_non, isi_tuple_bl, isi_tuple_int, isi_tuple_str, isi_tuple_tup, isi_tuple_lst, isi_list_non, isi_list_bl, isi_list_int, isi_list_str, isi_list_tup, isi_list_lst, isi_dict_non, isi_dict_bl, isi_dict_int, isi_dict_str, isi_dict_tup, isi_dict_lst, bnot_bl, Bool.not_true, Bool.not_false, biF_len, biF_list, biF_tuple, biF_sorted, biF_sortedt, biF_all, biF_any, biF_sum, biF_min, biF_max, biF_min2, biF_max2, biF_int, biF_abs, lenF_tup, lenF_lst, szOk0, szOk1, szOk2, szOk3, szOk4, szOk5, szOk6, number_map, Int.cast_ofNat_Int, Int.reduceBEq, Int.reduceBNe, Int.reduceLT, Int.reduceLE, Int.reduceSub, Int.reduceAdd, Int.reduceNeg, decide_true, decide_false, beq_self_eq_true, Int.natCast_zero, Int.natCast_one, h1, so, dW]) ⟨⟨_, _, rfl, ⟨by omega, by omega, by omega, by omega, fun p hp => h2 p (pe.mem_iff.mp hp), isortA_pw ltP ltP_tr ltP_as us⟩, by omega, by omega⟩, p5⟩
end PyD.K42

namespace PyD.K42
open PySem PyD
def dG (g : List Nat) : D := .lst (g.map dI)
theorem dr_dG (s : Stt) (g : List Nat) : dr s (dG g) = some (dG g) := rfl
theorem inF_dG (x : Nat) (l : List Nat) : inF (.int x) (dG l) = some (inL l x) := inF_tup x l
theorem listsD_map : ∀ gs : List (List Nat), listsD (gs.map dG) = some (gs.map fun g => g.map dI)
  | [] => rfl
  | g :: gs => by
    show (match listsD (gs.map dG) with | some l => some (g.map dI :: l) | none => none) = _
    rw [listsD_map gs]
    rfl
theorem flat_len (gs : List (List Nat)) (p : List Nat → Bool) : (gs.filter p).flatten.length ≤ gs.flatten.length := by
  induction gs with
  | nil => exact Nat.le_refl _
  | cons g gs ih =>
    rw [List.filter_cons]
    split
    · simp only [List.flatten_cons, List.length_append]; omega
    · simp only [List.flatten_cons, List.length_append]; omega
theorem gstep_flat (gs : List (List Nat)) (p : Nat × Nat) : (gstep gs p).flatten.length = gs.flatten.length := by
  unfold gstep
  rw [List.flatten_append, List.length_append]
  show _ + (((gs.filter fun g => inL g p.1 || inL g p.2).flatten) ++ []).length = _
  rw [List.append_nil]
  induction gs with
  | nil => rfl
  | cons g gs ih =>
    rw [List.filter_cons, List.filter_cons]
    cases inL g p.1 <;> cases inL g p.2 <;> simp only [Bool.not_true, Bool.not_false, Bool.and_true, Bool.and_false, Bool.or_true, Bool.or_false, if_true, Bool.false_eq_true, if_false, List.flatten_cons, List.length_append] <;> omega
theorem gstep_len (gs : List (List Nat)) (p : Nat × Nat) : (gstep gs p).length ≤ gs.length + 1 := by
  unfold gstep
  rw [List.length_append]
  have := List.length_filter_le (fun g => !inL g p.1 && !inL g p.2) gs
  show _ + 1 ≤ _
  omega
theorem flat_one (n : Nat) : ((List.range n).map fun x => [x]).flatten.length = n := by
  induction n with
  | zero => rfl
  | succ n ih =>
    rw [List.range_succ, List.map_append, List.flatten_append, List.length_append, ih]
    rfl
theorem law_groups_s {n : Nat} (hn : 1 ≤ n) {m : Nat} (hm : m ≤ 16) {ps : List (Nat × Nat)} (hp : ∀ p, p ∈ ps → p.1 < m ∧ p.2 < m) (hl : ps.length ≤ 100) (s : Stt) : callF T n "_law_groups" [.int m, .lst (ps.map dP)] s = some (.ok (.lst ((groups m ps).map dG)), s) := by
  rw [callF_run T (m := n - 1) (by omega) fn__law_groups _ _ rfl]
  simp only [d__law_groups, start, List.length_cons, List.length_nil, exSs_nil, exSs_cons, exS_asg, exS_asgO, exS_par, exS_exp, exS_frz, exS_retv, exS_reto, exS_ite, exS_pass, goOn_nx, goOn_rt, fin_nx, fin_rt, frzF_own, frzF_val, getOwn_own, ev_var, ev_pk, ev_cst, ev_glb, ev_bin, ev_not, ev_neg, negF_int, ev_cmp, ev_cmp2, ev_cmp3, ev_and, ev_or, ev_ite, ev_tup, ev_lst, ev_idx, ev_slc, ev_call0, ev_callk, ev_lrng, ev_bi, ev_isi, evs_nil, evs_cons, evD_nil, evD_f, evD_t, evT_nil, evT_cons, evI_seq, evI_rng, evI_enm, elimS, condT, condF, condB, okb, Res.none_bind, Res.bind_assoc, liftS, slot, put, getAny, getVal, List.map_cons, List.map_nil, List.replicate, List.cons_append, List.nil_append, List.append_nil, dr_cell, dr_dP, dr_dI, dr_dL, dr_dW, dr_int, dr_bl, dr_tup, dr_lst, dr_non, dr_str, drs, idxF_lst0, idxF_lst1, idxF_lst2, idxF_tup0, idxF_tup1, idxF_tup2, cmpF_gt, cmpF_le, cmpF_lt, cmpF_ge, cmpF_eq, cmpF_ne, cmpF_in, cmpF_nin, cmpF_eqb, cmpF_neb, inF_dL, inF_lst, inF_tup, truth_bl, truth_int, bindT_nm, bindT_tt, bindT_tl, bindTs_nil, bindTs_nm, seqF_tup, seqF_lst, Option.map_some, Option.map_none, if_true, if_false, Bool.false_eq_true, Nat.reduceAdd, Nat.reduceSub, Nat.reduceEqDiff, Nat.zero_add, binF_add, binF_sub, isi_bool_non, isi_bool_bl, isi_bool_int, isi_bool_str, isi_bool_tup, isi_bool_lst, isi_int_non, isi_int_bl, isi_int_int, isi_int_str, isi_int_tup, isi_int_lst, isi_str_non, isi_str_bl, isi_str_int, isi_str_str, isi_str_tup, isi_str_lst, isi_tuple_non, isi_tuple_bl, isi_tuple_int, isi_tuple_str, isi_tuple_tup, isi_tuple_lst, isi_list_non, isi_list_bl, isi_list_int, isi_list_str, isi_list_tup, isi_list_lst, isi_dict_non, isi_dict_bl, isi_dict_int, isi_dict_str, isi_dict_tup, isi_dict_lst, bnot_bl, Bool.not_true, Bool.not_false, biF_len, biF_list, biF_tuple, biF_sorted, biF_sortedt, biF_all, biF_any, biF_sum, biF_min, biF_max, biF_min2, biF_max2, biF_int, biF_abs, lenF_tup, lenF_lst, szOk0, szOk1, szOk2, szOk3, szOk4, szOk5, szOk6, number_map, Int.cast_ofNat_Int, Int.reduceBEq, Int.reduceBNe, Int.reduceLT, Int.reduceLE, Int.reduceSub, Int.reduceAdd, Int.reduceNeg, decide_true, decide_false, beq_self_eq_true, Int.natCast_zero, Int.natCast_one]
  rw [ev_comp0 _ _ _ dI (fun x => dG [x]) (List.range m) (by simp only [start, List.length_cons, List.length_nil, exSs_nil, exSs_cons, exS_asg, exS_asgO, exS_par, exS_exp, exS_frz, exS_retv, exS_reto, exS_ite, exS_pass, goOn_nx, goOn_rt, fin_nx, fin_rt, frzF_own, frzF_val, getOwn_own, ev_var, ev_pk, ev_cst, ev_glb, ev_bin, ev_not, ev_neg, negF_int, ev_cmp, ev_cmp2, ev_cmp3, ev_and, ev_or, ev_ite, ev_tup, ev_lst, ev_idx, ev_slc, ev_call0, ev_callk, ev_lrng, ev_bi, ev_isi, evs_nil, evs_cons, evD_nil, evD_f, evD_t, evT_nil, evT_cons, evI_seq, evI_rng, evI_enm, elimS, condT, condF, condB, okb, Res.none_bind, Res.bind_assoc, liftS, slot, put, getAny, getVal, List.map_cons, List.map_nil, List.replicate, List.cons_append, List.nil_append, List.append_nil, dr_cell, dr_dP, dr_dI, dr_dL, dr_dW, dr_int, dr_bl, dr_tup, dr_lst, dr_non, dr_str, drs, idxF_lst0, idxF_lst1, idxF_lst2, idxF_tup0, idxF_tup1, idxF_tup2, cmpF_gt, cmpF_le, cmpF_lt, cmpF_ge, cmpF_eq, cmpF_ne, cmpF_in, cmpF_nin, cmpF_eqb, cmpF_neb, inF_dL, inF_lst, inF_tup, truth_bl, truth_int, bindT_nm, bindT_tt, bindT_tl, bindTs_nil, bindTs_nm, seqF_tup, seqF_lst, Option.map_some, Option.map_none, if_true, if_false, Bool.false_eq_true, Nat.reduceAdd, Nat.reduceSub, Nat.reduceEqDiff, Nat.zero_add, binF_add, binF_sub, isi_bool_non, isi_bool_bl, isi_bool_int, isi_bool_str, isi_bool_tup, isi_bool_lst, isi_int_non, isi_int_bl, isi_int_int, isi_int_str, isi_int_tup, isi_int_lst, isi_str_non, isi_str_bl, isi_str_int, isi_str_str, isi_str_tup, isi_str_lst, isi_tuple_non, isi_tuple_bl, isi_tuple_int, isi_tuple_str, isi_tuple_tup, isi_tuple_lst, isi_list_non, isi_list_bl, isi_list_int, isi_list_str, isi_list_tup, isi_list_lst, isi_dict_non, isi_dict_bl, isi_dict_int, isi_dict_str, isi_dict_tup, isi_dict_lst, bnot_bl, Bool.not_true, Bool.not_false, biF_len, biF_list, biF_tuple, biF_sorted, biF_sortedt, biF_all, biF_any, biF_sum, biF_min, biF_max, biF_min2, biF_max2, biF_int, biF_abs, lenF_tup, lenF_lst, szOk0, szOk1, szOk2, szOk3, szOk4, szOk5, szOk6, number_map, Int.cast_ofNat_Int, Int.reduceBEq, Int.reduceBNe, Int.reduceLT, Int.reduceLE, Int.reduceSub, Int.reduceAdd, Int.reduceNeg, decide_true, decide_false, beq_self_eq_true, Int.natCast_zero, Int.natCast_one, rngF1' (m := m) (by omega)]; rfl) (fun x hx => ⟨_, rfl, by simp only [start, List.length_cons, List.length_nil, exSs_nil, exSs_cons, exS_asg, exS_asgO, exS_par, exS_exp, exS_frz, exS_retv, exS_reto, exS_ite, exS_pass, goOn_nx, goOn_rt, fin_nx, fin_rt, frzF_own, frzF_val, getOwn_own, ev_var, ev_pk, ev_cst, ev_glb, ev_bin, ev_not, ev_neg, negF_int, ev_cmp, ev_cmp2, ev_cmp3, ev_and, ev_or, ev_ite, ev_tup, ev_lst, ev_idx, ev_slc, ev_call0, ev_callk, ev_lrng, ev_bi, ev_isi, evs_nil, evs_cons, evD_nil, evD_f, evD_t, evT_nil, evT_cons, evI_seq, evI_rng, evI_enm, elimS, condT, condF, condB, okb, Res.none_bind, Res.bind_assoc, liftS, slot, put, getAny, getVal, List.map_cons, List.map_nil, List.replicate, List.cons_append, List.nil_append, List.append_nil, dr_cell, dr_dP, dr_dI, dr_dL, dr_dW, dr_int, dr_bl, dr_tup, dr_lst, dr_non, dr_str, drs, idxF_lst0, idxF_lst1, idxF_lst2, idxF_tup0, idxF_tup1, idxF_tup2, cmpF_gt, cmpF_le, cmpF_lt, cmpF_ge, cmpF_eq, cmpF_ne, cmpF_in, cmpF_nin, cmpF_eqb, cmpF_neb, inF_dL, inF_lst, inF_tup, truth_bl, truth_int, bindT_nm, bindT_tt, bindT_tl, bindTs_nil, bindTs_nm, seqF_tup, seqF_lst, Option.map_some, Option.map_none, if_true, if_false, Bool.false_eq_true, Nat.reduceAdd, Nat.reduceSub, Nat.reduceEqDiff, Nat.zero_add, binF_add, binF_sub, isi_bool_non, isi_bool_bl, isi_bool_int, isi_bool_str, isi_bool_tup, isi_bool_lst, isi_int_non, isi_int_bl, isi_int_int, isi_int_str, isi_int_tup, isi_int_lst, isi_str_non, isi_str_bl, isi_str_int, isi_str_str, isi_str_tup, isi_str_lst, isi_tuple_non, isi_tuple_bl, isi_tuple_int, isi_tuple_str, isi_tuple_tup, isi_tuple_lst, isi_list_non, isi_list_bl, isi_list_int, isi_list_str, isi_list_tup, isi_list_lst, isi_dict_non, isi_dict_bl, isi_dict_int, isi_dict_str, isi_dict_tup, isi_dict_lst, bnot_bl, Bool.not_true, Bool.not_false, biF_len, biF_list, biF_tuple, biF_sorted, biF_sortedt, biF_all, biF_any, biF_sum, biF_min, biF_max, biF_min2, biF_max2, biF_int, biF_abs, lenF_tup, lenF_lst, szOk0, szOk1, szOk2, szOk3, szOk4, szOk5, szOk6, number_map, Int.cast_ofNat_Int, Int.reduceBEq, Int.reduceBNe, Int.reduceLT, Int.reduceLE, Int.reduceSub, Int.reduceAdd, Int.reduceNeg, decide_true, decide_false, beq_self_eq_true, Int.natCast_zero, Int.natCast_one]; rfl⟩) (szRange (by omega))]
  simp only [start, List.length_cons, List.length_nil, exSs_nil, exSs_cons, exS_asg, exS_asgO, exS_par, exS_exp, exS_frz, exS_retv, exS_reto, exS_ite, exS_pass, goOn_nx, goOn_rt, fin_nx, fin_rt, frzF_own, frzF_val, getOwn_own, ev_var, ev_pk, ev_cst, ev_glb, ev_bin, ev_not, ev_neg, negF_int, ev_cmp, ev_cmp2, ev_cmp3, ev_and, ev_or, ev_ite, ev_tup, ev_lst, ev_idx, ev_slc, ev_call0, ev_callk, ev_lrng, ev_bi, ev_isi, evs_nil, evs_cons, evD_nil, evD_f, evD_t, evT_nil, evT_cons, evI_seq, evI_rng, evI_enm, elimS, condT, condF, condB, okb, Res.none_bind, Res.bind_assoc, liftS, slot, put, getAny, getVal, List.map_cons, List.map_nil, List.replicate, List.cons_append, List.nil_append, List.append_nil, dr_cell, dr_dP, dr_dI, dr_dL, dr_dW, dr_int, dr_bl, dr_tup, dr_lst, dr_non, dr_str, drs, idxF_lst0, idxF_lst1, idxF_lst2, idxF_tup0, idxF_tup1, idxF_tup2, cmpF_gt, cmpF_le, cmpF_lt, cmpF_ge, cmpF_eq, cmpF_ne, cmpF_in, cmpF_nin, cmpF_eqb, cmpF_neb, inF_dL, inF_lst, inF_tup, truth_bl, truth_int, bindT_nm, bindT_tt, bindT_tl, bindTs_nil, bindTs_nm, seqF_tup, seqF_lst, Option.map_some, Option.map_none, if_true, if_false, Bool.false_eq_true, Nat.reduceAdd, Nat.reduceSub, Nat.reduceEqDiff, Nat.zero_add, binF_add, binF_sub, isi_bool_non, isi_bool_bl, isi_bool_int, isi_bool_str, isi_bool_tup, isi_bool_lst, isi_int_non, isi_int_bl, isi_int_int, isi_int_str, isi_int_tup, isi_int_lst, isi_str_non, isi_str_bl, isi_str_int, isi_str_str, isi_str_tup, isi_str_lst, isi_tuple_non, isi_tuple_bl, isi_tuple_int, isi_tuple_str, isi_tuple_tup, isi_tuple_lst, isi_list_non, isi_list_bl, isi_list_int, isi_list_str, isi_list_tup, isi_list_lst, isi_dict_non, isi_dict_bl, isi_dict_int, isi_dict_str, isi_dict_tup, isi_dict_lst, bnot_bl, Bool.not_true, Bool.not_false, biF_len, biF_list, biF_tuple, biF_sorted, biF_sortedt, biF_all, biF_any, biF_sum, biF_min, biF_max, biF_min2, biF_max2, biF_int, biF_abs, lenF_tup, lenF_lst, szOk0, szOk1, szOk2, szOk3, szOk4, szOk5, szOk6, number_map, Int.cast_ofNat_Int, Int.reduceBEq, Int.reduceBNe, Int.reduceLT, Int.reduceLE, Int.reduceSub, Int.reduceAdd, Int.reduceNeg, decide_true, decide_false, beq_self_eq_true, Int.natCast_zero, Int.natCast_one]
  refine exS_pre _ _ _ dP (fun pre env => ∃ gs : List (List Nat), gs = pre.foldl gstep ((List.range m).map fun x => [x]) ∧ (∀ x, x < m → ∃ g, g ∈ gs ∧ x ∈ g) ∧ gs.flatten.length = m ∧ gs.length ≤ m + pre.length ∧ ∃ a b c d e, env = [Slot.val (.int m), .val (.lst (ps.map dP)), .val (.lst (gs.map dG)), a, b, c, d, e]) ps (by simp only [start, List.length_cons, List.length_nil, exSs_nil, exSs_cons, exS_asg, exS_asgO, exS_par, exS_exp, exS_frz, exS_retv, exS_reto, exS_ite, exS_pass, goOn_nx, goOn_rt, fin_nx, fin_rt, frzF_own, frzF_val, getOwn_own, ev_var, ev_pk, ev_cst, ev_glb, ev_bin, ev_not, ev_neg, negF_int, ev_cmp, ev_cmp2, ev_cmp3, ev_and, ev_or, ev_ite, ev_tup, ev_lst, ev_idx, ev_slc, ev_call0, ev_callk, ev_lrng, ev_bi, ev_isi, evs_nil, evs_cons, evD_nil, evD_f, evD_t, evT_nil, evT_cons, evI_seq, evI_rng, evI_enm, elimS, condT, condF, condB, okb, Res.none_bind, Res.bind_assoc, liftS, slot, put, getAny, getVal, List.map_cons, List.map_nil, List.replicate, List.cons_append, List.nil_append, List.append_nil, dr_cell, dr_dP, dr_dI, dr_dL, dr_dW, dr_int, dr_bl, dr_tup, dr_lst, dr_non, dr_str, drs, idxF_lst0, idxF_lst1, idxF_lst2, idxF_tup0, idxF_tup1, idxF_tup2, cmpF_gt, cmpF_le, cmpF_lt, cmpF_ge, cmpF_eq, cmpF_ne, cmpF_in, cmpF_nin, cmpF_eqb, cmpF_neb, inF_dL, inF_lst, inF_tup, truth_bl, truth_int, bindT_nm, bindT_tt, bindT_tl, bindTs_nil, bindTs_nm, seqF_tup, seqF_lst, Option.map_some, Option.map_none, if_true, if_false, Bool.false_eq_true, Nat.reduceAdd, Nat.reduceSub, Nat.reduceEqDiff, Nat.zero_add, binF_add, binF_sub, isi_bool_non, isi_bool_bl, isi_bool_int, isi_bool_str, isi_bool_tup, isi_bool_lst, isi_int_non, isi_int_bl, isi_int_int, isi_int_str, isi_int_tup, isi_int_lst, isi_str_non, isi_str_bl, isi_str_int, isi_str_str, isi_str_tup, isi_str_lst, isi_tuple_non, isi_tuple_bl, isi_tuple_int, isi_tuple_str, isi_tuple_tup, isi_tuple_lst, isi_list_non, isi_list_bl, isi_list_int, isi_list_str, isi_list_tup, isi_list_lst, isi_dict_non, isi_dict_bl, isi_dict_int, isi_dict_str, isi_dict_tup, isi_dict_lst, bnot_bl, Bool.not_true, Bool.not_false, biF_len, biF_list, biF_tuple, biF_sorted, biF_sortedt, biF_all, biF_any, biF_sum, biF_min, biF_max, biF_min2, biF_max2, biF_int, biF_abs, lenF_tup, lenF_lst, szOk0, szOk1, szOk2, szOk3, szOk4, szOk5, szOk6, number_map, Int.cast_ofNat_Int, Int.reduceBEq, Int.reduceBNe, Int.reduceLT, Int.reduceLE, Int.reduceSub, Int.reduceAdd, Int.reduceNeg, decide_true, decide_false, beq_self_eq_true, Int.natCast_zero, Int.natCast_one]) ?_ ?_ ?_
  · rintro pre p post _ er ⟨gs, ge, g1, g2, g3, a, b, c, d, e, rfl⟩
    have er' := pre_le er
    have pm : p ∈ ps := by rw [er]; simp
    obtain ⟨q1, q2⟩ := hp p pm
    have sz : szOk gs.length = true := szOk_le' (by omega)
    have k1 : ∀ s, ev ⟨callF T (n - 1), T.gl, T.wf⟩ (.comp (.var 7) (.nm 7) (.seq (.pk 2)) [(.or (.cmp .in_ (.pk 3) (.pk 7)) (.cmp .in_ (.pk 4) (.pk 7)))]) [Slot.val (.int m), .val (.lst (ps.map dP)), .val (.lst (gs.map dG)), .val (.int p.1), .val (.int p.2), c, d, e] s = some (.ok (.lst ((gs.filter fun g => inL g p.1 || inL g p.2).map dG)), s) := fun s => by
      refine ev_comp _ _ _ dG _ _ gs (by simp only [start, List.length_cons, List.length_nil, exSs_nil, exSs_cons, exS_asg, exS_asgO, exS_par, exS_exp, exS_frz, exS_retv, exS_reto, exS_ite, exS_pass, goOn_nx, goOn_rt, fin_nx, fin_rt, frzF_own, frzF_val, getOwn_own, ev_var, ev_pk, ev_cst, ev_glb, ev_bin, ev_not, ev_neg, negF_int, ev_cmp, ev_cmp2, ev_cmp3, ev_and, ev_or, ev_ite, ev_tup, ev_lst, ev_idx, ev_slc, ev_call0, ev_callk, ev_lrng, ev_bi, ev_isi, evs_nil, evs_cons, evD_nil, evD_f, evD_t, evT_nil, evT_cons, evI_seq, evI_rng, evI_enm, elimS, condT, condF, condB, okb, Res.none_bind, Res.bind_assoc, liftS, slot, put, getAny, getVal, List.map_cons, List.map_nil, List.replicate, List.cons_append, List.nil_append, List.append_nil, dr_cell, dr_dP, dr_dI, dr_dL, dr_dW, dr_int, dr_bl, dr_tup, dr_lst, dr_non, dr_str, drs, idxF_lst0, idxF_lst1, idxF_lst2, idxF_tup0, idxF_tup1, idxF_tup2, cmpF_gt, cmpF_le, cmpF_lt, cmpF_ge, cmpF_eq, cmpF_ne, cmpF_in, cmpF_nin, cmpF_eqb, cmpF_neb, inF_dL, inF_lst, inF_tup, truth_bl, truth_int, bindT_nm, bindT_tt, bindT_tl, bindTs_nil, bindTs_nm, seqF_tup, seqF_lst, Option.map_some, Option.map_none, if_true, if_false, Bool.false_eq_true, Nat.reduceAdd, Nat.reduceSub, Nat.reduceEqDiff, Nat.zero_add, binF_add, binF_sub, isi_bool_non, isi_bool_bl, isi_bool_int, isi_bool_str, isi_bool_tup, isi_bool_lst, isi_int_non, isi_int_bl, isi_int_int, isi_int_str, isi_int_tup, isi_int_lst, isi_str_non, isi_str_bl, isi_str_int, isi_str_str, isi_str_tup, isi_str_lst, isi_tuple_non, isi_tuple_bl, isi_tuple_int, isi_tuple_str, isi_tuple_tup, isi_tuple_lst, isi_list_non, isi_list_bl, isi_list_int, isi_list_str, isi_list_tup, isi_list_lst, isi_dict_non, isi_dict_bl, isi_dict_int, isi_dict_str, isi_dict_tup, isi_dict_lst, bnot_bl, Bool.not_true, Bool.not_false, biF_len, biF_list, biF_tuple, biF_sorted, biF_sortedt, biF_all, biF_any, biF_sum, biF_min, biF_max, biF_min2, biF_max2, biF_int, biF_abs, lenF_tup, lenF_lst, szOk0, szOk1, szOk2, szOk3, szOk4, szOk5, szOk6, number_map, Int.cast_ofNat_Int, Int.reduceBEq, Int.reduceBNe, Int.reduceLT, Int.reduceLE, Int.reduceSub, Int.reduceAdd, Int.reduceNeg, decide_true, decide_false, beq_self_eq_true, Int.natCast_zero, Int.natCast_one]) (fun g hg => ⟨_, rfl, ?_, fun _ => by simp only [start, List.length_cons, List.length_nil, exSs_nil, exSs_cons, exS_asg, exS_asgO, exS_par, exS_exp, exS_frz, exS_retv, exS_reto, exS_ite, exS_pass, goOn_nx, goOn_rt, fin_nx, fin_rt, frzF_own, frzF_val, getOwn_own, ev_var, ev_pk, ev_cst, ev_glb, ev_bin, ev_not, ev_neg, negF_int, ev_cmp, ev_cmp2, ev_cmp3, ev_and, ev_or, ev_ite, ev_tup, ev_lst, ev_idx, ev_slc, ev_call0, ev_callk, ev_lrng, ev_bi, ev_isi, evs_nil, evs_cons, evD_nil, evD_f, evD_t, evT_nil, evT_cons, evI_seq, evI_rng, evI_enm, elimS, condT, condF, condB, okb, Res.none_bind, Res.bind_assoc, liftS, slot, put, getAny, getVal, List.map_cons, List.map_nil, List.replicate, List.cons_append, List.nil_append, List.append_nil, dr_cell, dr_dP, dr_dI, dr_dL, dr_dW, dr_int, dr_bl, dr_tup, dr_lst, dr_non, dr_str, drs, idxF_lst0, idxF_lst1, idxF_lst2, idxF_tup0, idxF_tup1, idxF_tup2, cmpF_gt, cmpF_le, cmpF_lt, cmpF_ge, cmpF_eq, cmpF_ne, cmpF_in, cmpF_nin, cmpF_eqb, cmpF_neb, inF_dL, inF_lst, inF_tup, truth_bl, truth_int, bindT_nm, bindT_tt, bindT_tl, bindTs_nil, bindTs_nm, seqF_tup, seqF_lst, Option.map_some, Option.map_none, if_true, if_false, Bool.false_eq_true, Nat.reduceAdd, Nat.reduceSub, Nat.reduceEqDiff, Nat.zero_add, binF_add, binF_sub, isi_bool_non, isi_bool_bl, isi_bool_int, isi_bool_str, isi_bool_tup, isi_bool_lst, isi_int_non, isi_int_bl, isi_int_int, isi_int_str, isi_int_tup, isi_int_lst, isi_str_non, isi_str_bl, isi_str_int, isi_str_str, isi_str_tup, isi_str_lst, isi_tuple_non, isi_tuple_bl, isi_tuple_int, isi_tuple_str, isi_tuple_tup, isi_tuple_lst, isi_list_non, isi_list_bl, isi_list_int, isi_list_str, isi_list_tup, isi_list_lst, isi_dict_non, isi_dict_bl, isi_dict_int, isi_dict_str, isi_dict_tup, isi_dict_lst, bnot_bl, Bool.not_true, Bool.not_false, biF_len, biF_list, biF_tuple, biF_sorted, biF_sortedt, biF_all, biF_any, biF_sum, biF_min, biF_max, biF_min2, biF_max2, biF_int, biF_abs, lenF_tup, lenF_lst, szOk0, szOk1, szOk2, szOk3, szOk4, szOk5, szOk6, number_map, Int.cast_ofNat_Int, Int.reduceBEq, Int.reduceBNe, Int.reduceLT, Int.reduceLE, Int.reduceSub, Int.reduceAdd, Int.reduceNeg, decide_true, decide_false, beq_self_eq_true, Int.natCast_zero, Int.natCast_one]⟩) sz
      simp only [start, List.length_cons, List.length_nil, exSs_nil, exSs_cons, exS_asg, exS_asgO, exS_par, exS_exp, exS_frz, exS_retv, exS_reto, exS_ite, exS_pass, goOn_nx, goOn_rt, fin_nx, fin_rt, frzF_own, frzF_val, getOwn_own, ev_var, ev_pk, ev_cst, ev_glb, ev_bin, ev_not, ev_neg, negF_int, ev_cmp, ev_cmp2, ev_cmp3, ev_and, ev_or, ev_ite, ev_tup, ev_lst, ev_idx, ev_slc, ev_call0, ev_callk, ev_lrng, ev_bi, ev_isi, evs_nil, evs_cons, evD_nil, evD_f, evD_t, evT_nil, evT_cons, evI_seq, evI_rng, evI_enm, elimS, condT, condF, condB, okb, Res.none_bind, Res.bind_assoc, liftS, slot, put, getAny, getVal, List.map_cons, List.map_nil, List.replicate, List.cons_append, List.nil_append, List.append_nil, dr_cell, dr_dP, dr_dI, dr_dL, dr_dW, dr_int, dr_bl, dr_tup, dr_lst, dr_non, dr_str, drs, idxF_lst0, idxF_lst1, idxF_lst2, idxF_tup0, idxF_tup1, idxF_tup2, cmpF_gt, cmpF_le, cmpF_lt, cmpF_ge, cmpF_eq, cmpF_ne, cmpF_in, cmpF_nin, cmpF_eqb, cmpF_neb, inF_dL, inF_lst, inF_tup, truth_bl, truth_int, bindT_nm, bindT_tt, bindT_tl, bindTs_nil, bindTs_nm, seqF_tup, seqF_lst, Option.map_some, Option.map_none, if_true, if_false, Bool.false_eq_true, Nat.reduceAdd, Nat.reduceSub, Nat.reduceEqDiff, Nat.zero_add, binF_add, binF_sub, isi_bool_non, isi_bool_bl, isi_bool_int, isi_bool_str, isi_bool_tup, isi_bool_lst, isi_int_non, isi_int_bl, isi_int_int, isi_int_str, isi_int_tup, isi_int_lst, isi_str_non, isi_str_bl, isi_str_int, isi_str_str, isi_str_tup, isi_str_lst, isi_tuple_non, isi_tuple_bl, isi_tuple_int, isi_tuple_str, isi_tuple_tup, isi_tuple_lst, isi_list_non, isi_list_bl, isi_list_int, isi_list_str, isi_list_tup, isi_list_lst, isi_dict_non, isi_dict_bl, isi_dict_int, isi_dict_str, isi_dict_tup, isi_dict_lst, bnot_bl, Bool.not_true, Bool.not_false, biF_len, biF_list, biF_tuple, biF_sorted, biF_sortedt, biF_all, biF_any, biF_sum, biF_min, biF_max, biF_min2, biF_max2, biF_int, biF_abs, lenF_tup, lenF_lst, szOk0, szOk1, szOk2, szOk3, szOk4, szOk5, szOk6, number_map, Int.cast_ofNat_Int, Int.reduceBEq, Int.reduceBNe, Int.reduceLT, Int.reduceLE, Int.reduceSub, Int.reduceAdd, Int.reduceNeg, decide_true, decide_false, beq_self_eq_true, Int.natCast_zero, Int.natCast_one, dr_dG, inF_dG]
      cases inL g p.1 <;> cases inL g p.2 <;> rfl
    have k2 : ∀ s z, ev ⟨callF T (n - 1), T.gl, T.wf⟩ (.comp (.var 7) (.nm 7) (.seq (.pk 2)) [(.and (.cmp .nin (.pk 3) (.pk 7)) (.cmp .nin (.pk 4) (.pk 7)))]) [Slot.val (.int m), .val (.lst (ps.map dP)), .val (.lst (gs.map dG)), .val (.int p.1), .val (.int p.2), z, d, e] s = some (.ok (.lst ((gs.filter fun g => !inL g p.1 && !inL g p.2).map dG)), s) := fun s z => by
      refine ev_comp _ _ _ dG _ _ gs (by simp only [start, List.length_cons, List.length_nil, exSs_nil, exSs_cons, exS_asg, exS_asgO, exS_par, exS_exp, exS_frz, exS_retv, exS_reto, exS_ite, exS_pass, goOn_nx, goOn_rt, fin_nx, fin_rt, frzF_own, frzF_val, getOwn_own, ev_var, ev_pk, ev_cst, ev_glb, ev_bin, ev_not, ev_neg, negF_int, ev_cmp, ev_cmp2, ev_cmp3, ev_and, ev_or, ev_ite, ev_tup, ev_lst, ev_idx, ev_slc, ev_call0, ev_callk, ev_lrng, ev_bi, ev_isi, evs_nil, evs_cons, evD_nil, evD_f, evD_t, evT_nil, evT_cons, evI_seq, evI_rng, evI_enm, elimS, condT, condF, condB, okb, Res.none_bind, Res.bind_assoc, liftS, slot, put, getAny, getVal, List.map_cons, List.map_nil, List.replicate, List.cons_append, List.nil_append, List.append_nil, dr_cell, dr_dP, dr_dI, dr_dL, dr_dW, dr_int, dr_bl, dr_tup, dr_lst, dr_non, dr_str, drs, idxF_lst0, idxF_lst1, idxF_lst2, idxF_tup0, idxF_tup1, idxF_tup2, cmpF_gt, cmpF_le, cmpF_lt, cmpF_ge, cmpF_eq, cmpF_ne, cmpF_in, cmpF_nin, cmpF_eqb, cmpF_neb, inF_dL, inF_lst, inF_tup, truth_bl, truth_int, bindT_nm, bindT_tt, bindT_tl, bindTs_nil, bindTs_nm, seqF_tup, seqF_lst, Option.map_some, Option.map_none, if_true, if_false, Bool.false_eq_true, Nat.reduceAdd, Nat.reduceSub, Nat.reduceEqDiff, Nat.zero_add, binF_add, binF_sub, isi_bool_non, isi_bool_bl, isi_bool_int, isi_bool_str, isi_bool_tup, isi_bool_lst, isi_int_non, isi_int_bl, isi_int_int, isi_int_str, isi_int_tup, isi_int_lst, isi_str_non, isi_str_bl, isi_str_int, isi_str_str, isi_str_tup, isi_str_lst, isi_tuple_non, isi_tuple_bl, isi_tuple_int, isi_tuple_str, isi_tuple_tup, isi_tuple_lst, isi_list_non, isi_list_bl, isi_list_int, isi_list_str, isi_list_tup, isi_list_lst, isi_dict_non, isi_dict_bl, isi_dict_int, isi_dict_str, isi_dict_tup, isi_dict_lst, bnot_bl, Bool.not_true, Bool.not_false, biF_len, biF_list, biF_tuple, biF_sorted, biF_sortedt, biF_all, biF_any, biF_sum, biF_min, biF_max, biF_min2, biF_max2, biF_int, biF_abs, lenF_tup, lenF_lst, szOk0, szOk1, szOk2, szOk3, szOk4, szOk5, szOk6, number_map, Int.cast_ofNat_Int, Int.reduceBEq, Int.reduceBNe, Int.reduceLT, Int.reduceLE, Int.reduceSub, Int.reduceAdd, Int.reduceNeg, decide_true, decide_false, beq_self_eq_true, Int.natCast_zero, Int.natCast_one]) (fun g hg => ⟨_, rfl, ?_, fun _ => by simp only [start, List.length_cons, List.length_nil, exSs_nil, exSs_cons, exS_asg, exS_asgO, exS_par, exS_exp, exS_frz, exS_retv, exS_reto, exS_ite, exS_pass, goOn_nx, goOn_rt, fin_nx, fin_rt, frzF_own, frzF_val, getOwn_own, ev_var, ev_pk, ev_cst, ev_glb, ev_bin, ev_not, ev_neg, negF_int, ev_cmp, ev_cmp2, ev_cmp3, ev_and, ev_or, ev_ite, ev_tup, ev_lst, ev_idx, ev_slc, ev_call0, ev_callk, ev_lrng, ev_bi, ev_isi, evs_nil, evs_cons, evD_nil, evD_f, evD_t, evT_nil, evT_cons, evI_seq, evI_rng, evI_enm, elimS, condT, condF, condB, okb, Res.none_bind, Res.bind_assoc, liftS, slot, put, getAny, getVal, List.map_cons, List.map_nil, List.replicate, List.cons_append, List.nil_append, List.append_nil, dr_cell, dr_dP, dr_dI, dr_dL, dr_dW, dr_int, dr_bl, dr_tup, dr_lst, dr_non, dr_str, drs, idxF_lst0, idxF_lst1, idxF_lst2, idxF_tup0, idxF_tup1, idxF_tup2, cmpF_gt, cmpF_le, cmpF_lt, cmpF_ge, cmpF_eq, cmpF_ne, cmpF_in, cmpF_nin, cmpF_eqb, cmpF_neb, inF_dL, inF_lst, inF_tup, truth_bl, truth_int, bindT_nm, bindT_tt, bindT_tl, bindTs_nil, bindTs_nm, seqF_tup, seqF_lst, Option.map_some, Option.map_none, if_true, if_false, Bool.false_eq_true, Nat.reduceAdd, Nat.reduceSub, Nat.reduceEqDiff, Nat.zero_add, binF_add, binF_sub, isi_bool_non, isi_bool_bl, isi_bool_int, isi_bool_str, isi_bool_tup, isi_bool_lst, isi_int_non, isi_int_bl, isi_int_int, isi_int_str, isi_int_tup, isi_int_lst, isi_str_non, isi_str_bl, isi_str_int, isi_str_str, isi_str_tup, isi_str_lst, isi_tuple_non, isi_tuple_bl, isi_tuple_int, isi_tuple_str, isi_tuple_tup, isi_tuple_lst, isi_list_non, isi_list_bl, isi_list_int, isi_list_str, isi_list_tup, isi_list_lst, isi_dict_non, isi_dict_bl, isi_dict_int, isi_dict_str, isi_dict_tup, isi_dict_lst, bnot_bl, Bool.not_true, Bool.not_false, biF_len, biF_list, biF_tuple, biF_sorted, biF_sortedt, biF_all, biF_any, biF_sum, biF_min, biF_max, biF_min2, biF_max2, biF_int, biF_abs, lenF_tup, lenF_lst, szOk0, szOk1, szOk2, szOk3, szOk4, szOk5, szOk6, number_map, Int.cast_ofNat_Int, Int.reduceBEq, Int.reduceBNe, Int.reduceLT, Int.reduceLE, Int.reduceSub, Int.reduceAdd, Int.reduceNeg, decide_true, decide_false, beq_self_eq_true, Int.natCast_zero, Int.natCast_one]⟩) sz
      simp only [start, List.length_cons, List.length_nil, exSs_nil, exSs_cons, exS_asg, exS_asgO, exS_par, exS_exp, exS_frz, exS_retv, exS_reto, exS_ite, exS_pass, goOn_nx, goOn_rt, fin_nx, fin_rt, frzF_own, frzF_val, getOwn_own, ev_var, ev_pk, ev_cst, ev_glb, ev_bin, ev_not, ev_neg, negF_int, ev_cmp, ev_cmp2, ev_cmp3, ev_and, ev_or, ev_ite, ev_tup, ev_lst, ev_idx, ev_slc, ev_call0, ev_callk, ev_lrng, ev_bi, ev_isi, evs_nil, evs_cons, evD_nil, evD_f, evD_t, evT_nil, evT_cons, evI_seq, evI_rng, evI_enm, elimS, condT, condF, condB, okb, Res.none_bind, Res.bind_assoc, liftS, slot, put, getAny, getVal, List.map_cons, List.map_nil, List.replicate, List.cons_append, List.nil_append, List.append_nil, dr_cell, dr_dP, dr_dI, dr_dL, dr_dW, dr_int, dr_bl, dr_tup, dr_lst, dr_non, dr_str, drs, idxF_lst0, idxF_lst1, idxF_lst2, idxF_tup0, idxF_tup1, idxF_tup2, cmpF_gt, cmpF_le, cmpF_lt, cmpF_ge, cmpF_eq, cmpF_ne, cmpF_in, cmpF_nin, cmpF_eqb, cmpF_neb, inF_dL, inF_lst, inF_tup, truth_bl, truth_int, bindT_nm, bindT_tt, bindT_tl, bindTs_nil, bindTs_nm, seqF_tup, seqF_lst, Option.map_some, Option.map_none, if_true, if_false, Bool.false_eq_true, Nat.reduceAdd, Nat.reduceSub, Nat.reduceEqDiff, Nat.zero_add, binF_add, binF_sub, isi_bool_non, isi_bool_bl, isi_bool_int, isi_bool_str, isi_bool_tup, isi_bool_lst, isi_int_non, isi_int_bl, isi_int_int, isi_int_str, isi_int_tup, isi_int_lst, isi_str_non, isi_str_bl, isi_str_int, isi_str_str, isi_str_tup, isi_str_lst, isi_tuple_non, isi_tuple_bl, isi_tuple_int, isi_tuple_str, isi_tuple_tup, isi_tuple_lst, isi_list_non, isi_list_bl, isi_list_int, isi_list_str, isi_list_tup, isi_list_lst, isi_dict_non, isi_dict_bl, isi_dict_int, isi_dict_str, isi_dict_tup, isi_dict_lst, bnot_bl, Bool.not_true, Bool.not_false, biF_len, biF_list, biF_tuple, biF_sorted, biF_sortedt, biF_all, biF_any, biF_sum, biF_min, biF_max, biF_min2, biF_max2, biF_int, biF_abs, lenF_tup, lenF_lst, szOk0, szOk1, szOk2, szOk3, szOk4, szOk5, szOk6, number_map, Int.cast_ofNat_Int, Int.reduceBEq, Int.reduceBNe, Int.reduceLT, Int.reduceLE, Int.reduceSub, Int.reduceAdd, Int.reduceNeg, decide_true, decide_false, beq_self_eq_true, Int.natCast_zero, Int.natCast_one, dr_dG, inF_dG]
      cases inL g p.1 <;> cases inL g p.2 <;> rfl
    have k3 : biF .sum [.lst ((gs.filter fun g => inL g p.1 || inL g p.2).map dG), .lst []] = some (dG (gs.filter fun g => inL g p.1 || inL g p.2).flatten) := by
      obtain ⟨g, hg, hx⟩ := g1 p.1 q1
      have hf : g ∈ gs.filter fun g => inL g p.1 || inL g p.2 := List.mem_filter.mpr ⟨hg, by simp [inL_iff.mpr hx]⟩
      have fl := flat_len gs fun g => inL g p.1 || inL g p.2
      generalize (gs.filter fun g => inL g p.1 || inL g p.2) = hs at *
      show (match listsD (hs.map dG) with | some (x :: l) => if szOk (([] : List D).length + (x :: l).flatten.length) then some (D.lst ([] ++ (x :: l).flatten)) else none | _ => none) = _
      rw [listsD_map]
      cases hs with
      | nil => cases hf
      | cons h hs =>
        have fe : ((h :: hs).map fun g => g.map dI).flatten = (h :: hs).flatten.map dI := by rw [List.map_flatten]
        show (if szOk (0 + ((h :: hs).map fun g => g.map dI).flatten.length) then some (D.lst ([] ++ ((h :: hs).map fun g => g.map dI).flatten)) else none) = _
        rw [fe, if_pos (szOk_le' (by rw [List.length_map]; omega)), List.nil_append]
        rfl
    have k4 : szOk (((gs.filter fun g => !inL g p.1 && !inL g p.2).map dG).length + 1) = true := szOk_le' (by
      rw [List.length_map]
      have := List.length_filter_le (fun g => !inL g p.1 && !inL g p.2) gs
      omega)
    refine ⟨_, _, rfl, ?_, gstep gs p, by rw [List.foldl_append, ← ge]; rfl, gstep_all p g1, by rw [gstep_flat, g2], by have := gstep_len gs p; rw [List.length_append]; show _ ≤ _ + (_ + 1); omega, .val (.int p.1), .val (.int p.2), .val (.lst ((gs.filter fun g => inL g p.1 || inL g p.2).map dG)), d, e, rfl⟩
    simp only [dP, start, List.length_cons, List.length_nil, exSs_nil, exSs_cons, exS_asg, exS_asgO, exS_par, exS_exp, exS_frz, exS_retv, exS_reto, exS_ite, exS_pass, goOn_nx, goOn_rt, fin_nx, fin_rt, frzF_own, frzF_val, getOwn_own, ev_var, ev_pk, ev_cst, ev_glb, ev_bin, ev_not, ev_neg, negF_int, ev_cmp, ev_cmp2, ev_cmp3, ev_and, ev_or, ev_ite, ev_tup, ev_lst, ev_idx, ev_slc, ev_call0, ev_callk, ev_lrng, ev_bi, ev_isi, evs_nil, evs_cons, evD_nil, evD_f, evD_t, evT_nil, evT_cons, evI_seq, evI_rng, evI_enm, elimS, condT, condF, condB, okb, Res.none_bind, Res.bind_assoc, liftS, slot, put, getAny, getVal, List.map_cons, List.map_nil, List.replicate, List.cons_append, List.nil_append, List.append_nil, dr_cell, dr_dP, dr_dI, dr_dL, dr_dW, dr_int, dr_bl, dr_tup, dr_lst, dr_non, dr_str, drs, idxF_lst0, idxF_lst1, idxF_lst2, idxF_tup0, idxF_tup1, idxF_tup2, cmpF_gt, cmpF_le, cmpF_lt, cmpF_ge, cmpF_eq, cmpF_ne, cmpF_in, cmpF_nin, cmpF_eqb, cmpF_neb, inF_dL, inF_lst, inF_tup, truth_bl, truth_int, bindT_nm, bindT_tt, bindT_tl, bindTs_nil, bindTs_nm, seqF_tup, seqF_lst, Option.map_some, Option.map_none, if_true, if_false, Bool.false_eq_true, Nat.reduceAdd, Nat.reduceSub, Nat.reduceEqDiff, Nat.zero_add, binF_add, binF_sub, isi_bool_non, isi_bool_bl, isi_bool_int, isi_bool_str, isi_bool_tup, isi_bool_lst, isi_int_non, isi_int_bl, isi_int_int, isi_int_str, isi_int_tup, isi_int_lst, isi_str_non, isi_str_bl, isi_str_int, isi_str_str, isi_str_tup, isi_str_lst, isi_tuple_non, isi_tuple_bl, isi_tuple_int, isi_tuple_str, isi_tuple_tup, isi_tuple_lst, isi_list_non, isi_list_bl, isi_list_int, isi_list_str, isi_list_tup, isi_list_lst, isi_dict_non, isi_dict_bl, isi_dict_int, isi_dict_str, isi_dict_tup, isi_dict_lst, bnot_bl, Bool.not_true, Bool.not_false, biF_len, biF_list, biF_tuple, biF_sorted, biF_sortedt, biF_all, biF_any, biF_sum, biF_min, biF_max, biF_min2, biF_max2, biF_int, biF_abs, lenF_tup, lenF_lst, szOk0, szOk1, szOk2, szOk3, szOk4, szOk5, szOk6, number_map, Int.cast_ofNat_Int, Int.reduceBEq, Int.reduceBNe, Int.reduceLT, Int.reduceLE, Int.reduceSub, Int.reduceAdd, Int.reduceNeg, decide_true, decide_false, beq_self_eq_true, Int.natCast_zero, Int.natCast_one, k1, k2, k3, binF_addl, k4]
    simp only [gstep, List.map_append, List.map_cons, List.map_nil]
  · refine ⟨_, rfl, fun x hx => ⟨[x], List.mem_map.mpr ⟨x, List.mem_range.mpr hx, rfl⟩, List.mem_singleton.mpr rfl⟩, flat_one m, by simp, ?_⟩
    refine ⟨.un, .un, .un, .un, .un, ?_⟩
    simp only [List.foldl_nil, List.map_map]
    rfl
  · rintro _ ⟨gs, rfl, _, _, _, a, b, c, d, e, rfl⟩
    simp only [start, List.length_cons, List.length_nil, exSs_nil, exSs_cons, exS_asg, exS_asgO, exS_par, exS_exp, exS_frz, exS_retv, exS_reto, exS_ite, exS_pass, goOn_nx, goOn_rt, fin_nx, fin_rt, frzF_own, frzF_val, getOwn_own, ev_var, ev_pk, ev_cst, ev_glb, ev_bin, ev_not, ev_neg, negF_int, ev_cmp, ev_cmp2, ev_cmp3, ev_and, ev_or, ev_ite, ev_tup, ev_lst, ev_idx, ev_slc, ev_call0, ev_callk, ev_lrng, ev_bi, ev_isi, evs_nil, evs_cons, evD_nil, evD_f, evD_t, evT_nil, evT_cons, evI_seq, evI_rng, evI_enm, elimS, condT, condF, condB, okb, Res.none_bind, Res.bind_assoc, liftS, slot, put, getAny, getVal, List.map_cons, List.map_nil, List.replicate, List.cons_append, List.nil_append, List.append_nil, dr_cell, dr_dP, dr_dI, dr_dL, dr_dW, dr_int, dr_bl, dr_tup, dr_lst, dr_non, dr_str, drs, idxF_lst0, idxF_lst1, idxF_lst2, idxF_tup0, idxF_tup1, idxF_tup2, cmpF_gt, cmpF_le, cmpF_lt, cmpF_ge, cmpF_eq, cmpF_ne, cmpF_in, cmpF_nin, cmpF_eqb, cmpF_neb, inF_dL, inF_lst, inF_tup, truth_bl, truth_int, bindT_nm, bindT_tt, bindT_tl, bindTs_nil, bindTs_nm, seqF_tup, seqF_lst, Option.map_some, Option.map_none, if_true, if_false, Bool.false_eq_true, Nat.reduceAdd, Nat.reduceSub, Nat.reduceEqDiff, Nat.zero_add, binF_add, binF_sub, isi_bool_non, isi_bool_bl, isi_bool_int, isi_bool_str, isi_bool_tup, isi_bool_lst, isi_int_non, isi_int_bl, isi_int_int, isi_int_str, isi_int_tup, isi_int_lst, isi_str_non, isi_str_bl, isi_str_int, isi_str_str, isi_str_tup, isi_str_lst, isi_tuple_non, isi_tuple_bl, isi_tuple_int, isi_tuple_str, isi_tuple_tup, isi_tuple_lst, isi_list_non, isi_list_bl, isi_list_int, isi_list_str, isi_list_tup, isi_list_lst, isi_dict_non, isi_dict_bl, isi_dict_int, isi_dict_str, isi_dict_tup, isi_dict_lst, bnot_bl, Bool.not_true, Bool.not_false, biF_len, biF_list, biF_tuple, biF_sorted, biF_sortedt, biF_all, biF_any, biF_sum, biF_min, biF_max, biF_min2, biF_max2, biF_int, biF_abs, lenF_tup, lenF_lst, szOk0, szOk1, szOk2, szOk3, szOk4, szOk5, szOk6, number_map, Int.cast_ofNat_Int, Int.reduceBEq, Int.reduceBNe, Int.reduceLT, Int.reduceLE, Int.reduceSub, Int.reduceAdd, Int.reduceNeg, decide_true, decide_false, beq_self_eq_true, Int.natCast_zero, Int.natCast_one]
    rfl
theorem cmpF_ne_nil {α : Type} (f : α → D) (h : ∀ x, D.okN 19 (f x) = true) (xs : List α) : cmpF .ne (.lst (xs.map f)) (.lst []) = some (!xs.isEmpty) := by
  show (if okD (.lst (xs.map f)) && okD (.lst []) then some (!eqvAll (xs.map f) []) else none) = _
  rw [okD_map f h]
  cases xs <;> rfl
theorem okN_dG (g : List Nat) : D.okN 19 (dG g) = true := okN_ints 17 g
theorem groups_len {m : Nat} : ∀ (ps : List (Nat × Nat)) (gs : List (List Nat)), (ps.foldl gstep gs).length ≤ gs.length + ps.length
  | [], gs => Nat.le_refl _
  | p :: ps, gs => by
    have h1 := gstep_len gs p
    have h2 := groups_len (m := m) ps (gstep gs p)
    show (ps.foldl gstep (gstep gs p)).length ≤ _ + (_ + 1)
    omega
theorem pick_in {n : Nat} {ts : List (Nat × Nat)} (ht : ∀ p, p ∈ ts → p.1 < n ∧ p.2 < n) {l : List Nat} (hl : ∀ x, x ∈ l → x < ts.length) : ∀ p, p ∈ pick ts l → p.1 < n ∧ p.2 < n := by
  intro p hp
  obtain ⟨i, hi, rfl⟩ := List.mem_map.mp hp
  have hi := hl i hi
  have : ts[i]?.getD (0, 0) = ts[i] := by simp [hi]
  rw [this]
  exact ht _ (List.getElem_mem ..)
theorem law_joins_s {n : Nat} (hn : 2 ≤ n) {m : Nat} {ts : List (Nat × Nat)} (w : WebOk m ts) {l : List Nat} (hl : ∀ x, x ∈ l → x < ts.length) (hl2 : l.length ≤ 12) (a b : Nat) (s : Stt) : callF T n "_law_joins" [dW m ts, .lst (l.map dI), .int a, .int b] s = some (.ok (.bl (joinsB m (pick ts l) a b)), s) := by
  have := w.n7
  rw [callF_run T (m := n - 1) (by omega) fn__law_joins _ _ rfl]
  simp only [d__law_joins, dW, start, List.length_cons, List.length_nil, exSs_nil, exSs_cons, exS_asg, exS_asgO, exS_par, exS_exp, exS_frz, exS_retv, exS_reto, exS_ite, exS_pass, goOn_nx, goOn_rt, fin_nx, fin_rt, frzF_own, frzF_val, getOwn_own, ev_var, ev_pk, ev_cst, ev_glb, ev_bin, ev_not, ev_neg, negF_int, ev_cmp, ev_cmp2, ev_cmp3, ev_and, ev_or, ev_ite, ev_tup, ev_lst, ev_idx, ev_slc, ev_call0, ev_callk, ev_lrng, ev_bi, ev_isi, evs_nil, evs_cons, evD_nil, evD_f, evD_t, evT_nil, evT_cons, evI_seq, evI_rng, evI_enm, elimS, condT, condF, condB, okb, Res.none_bind, Res.bind_assoc, liftS, slot, put, getAny, getVal, List.map_cons, List.map_nil, List.replicate, List.cons_append, List.nil_append, List.append_nil, dr_cell, dr_dP, dr_dI, dr_dL, dr_dW, dr_int, dr_bl, dr_tup, dr_lst, dr_non, dr_str, drs, idxF_lst0, idxF_lst1, idxF_lst2, idxF_tup0, idxF_tup1, idxF_tup2, cmpF_gt, cmpF_le, cmpF_lt, cmpF_ge, cmpF_eq, cmpF_ne, cmpF_in, cmpF_nin, cmpF_eqb, cmpF_neb, inF_dL, inF_lst, inF_tup, truth_bl, truth_int, bindT_nm, bindT_tt, bindT_tl, bindTs_nil, bindTs_nm, seqF_tup, seqF_lst, Option.map_some, Option.map_none, if_true, if_false, Bool.false_eq_true, Nat.reduceAdd, Nat.reduceSub, Nat.reduceEqDiff, Nat.zero_add, binF_add, binF_sub, isi_bool_non, isi_bool_bl, isi_bool_int, isi_bool_str, isi_bool_tup, isi_bool_lst, isi_int_non, isi_int_bl, isi_int_int, isi_int_str, isi_int_tup, isi_int_lst, isi_str_non, isi_str_bl, isi_str_int, isi_str_str, isi_str_tup, isi_str_lst, isi_tuple_non, isi_tuple_bl, isi_tuple_int, isi_tuple_str, isi_tuple_tup, isi_tuple_lst, isi_list_non, isi_list_bl, isi_list_int, isi_list_str, isi_list_tup, isi_list_lst, isi_dict_non, isi_dict_bl, isi_dict_int, isi_dict_str, isi_dict_tup, isi_dict_lst, bnot_bl, Bool.not_true, Bool.not_false, biF_len, biF_list, biF_tuple, biF_sorted, biF_sortedt, biF_all, biF_any, biF_sum, biF_min, biF_max, biF_min2, biF_max2, biF_int, biF_abs, lenF_tup, lenF_lst, szOk0, szOk1, szOk2, szOk3, szOk4, szOk5, szOk6, number_map, Int.cast_ofNat_Int, Int.reduceBEq, Int.reduceBNe, Int.reduceLT, Int.reduceLE, Int.reduceSub, Int.reduceAdd, Int.reduceNeg, decide_true, decide_false, beq_self_eq_true, Int.natCast_zero, Int.natCast_one]
  have k1 : ∀ s u, ev ⟨callF T (n - 1), T.gl, T.wf⟩ (.comp (.idx (.idx (.pk 0) (.cst (.int 1))) (.pk 5)) (.nm 5) (.seq (.pk 1)) []) [Slot.val (.tup [.int m, .tup (ts.map dP)]), .val (.lst (l.map dI)), .val (.int a), .val (.int b), u, .un] s = some (.ok (.lst ((pick ts l).map dP)), s) := fun s u => by
    rw [ev_comp0 _ _ _ dI (fun i => dP (ts[i]?.getD (0, 0))) l (by simp only [start, List.length_cons, List.length_nil, exSs_nil, exSs_cons, exS_asg, exS_asgO, exS_par, exS_exp, exS_frz, exS_retv, exS_reto, exS_ite, exS_pass, goOn_nx, goOn_rt, fin_nx, fin_rt, frzF_own, frzF_val, getOwn_own, ev_var, ev_pk, ev_cst, ev_glb, ev_bin, ev_not, ev_neg, negF_int, ev_cmp, ev_cmp2, ev_cmp3, ev_and, ev_or, ev_ite, ev_tup, ev_lst, ev_idx, ev_slc, ev_call0, ev_callk, ev_lrng, ev_bi, ev_isi, evs_nil, evs_cons, evD_nil, evD_f, evD_t, evT_nil, evT_cons, evI_seq, evI_rng, evI_enm, elimS, condT, condF, condB, okb, Res.none_bind, Res.bind_assoc, liftS, slot, put, getAny, getVal, List.map_cons, List.map_nil, List.replicate, List.cons_append, List.nil_append, List.append_nil, dr_cell, dr_dP, dr_dI, dr_dL, dr_dW, dr_int, dr_bl, dr_tup, dr_lst, dr_non, dr_str, drs, idxF_lst0, idxF_lst1, idxF_lst2, idxF_tup0, idxF_tup1, idxF_tup2, cmpF_gt, cmpF_le, cmpF_lt, cmpF_ge, cmpF_eq, cmpF_ne, cmpF_in, cmpF_nin, cmpF_eqb, cmpF_neb, inF_dL, inF_lst, inF_tup, truth_bl, truth_int, bindT_nm, bindT_tt, bindT_tl, bindTs_nil, bindTs_nm, seqF_tup, seqF_lst, Option.map_some, Option.map_none, if_true, if_false, Bool.false_eq_true, Nat.reduceAdd, Nat.reduceSub, Nat.reduceEqDiff, Nat.zero_add, binF_add, binF_sub, isi_bool_non, isi_bool_bl, isi_bool_int, isi_bool_str, isi_bool_tup, isi_bool_lst, isi_int_non, isi_int_bl, isi_int_int, isi_int_str, isi_int_tup, isi_int_lst, isi_str_non, isi_str_bl, isi_str_int, isi_str_str, isi_str_tup, isi_str_lst, isi_tuple_non, isi_tuple_bl, isi_tuple_int, isi_tuple_str, isi_tuple_tup, isi_tuple_lst, isi_list_non, isi_list_bl, isi_list_int, isi_list_str, isi_list_tup, isi_list_lst, isi_dict_non, isi_dict_bl, isi_dict_int, isi_dict_str, isi_dict_tup, isi_dict_lst, bnot_bl, Bool.not_true, Bool.not_false, biF_len, biF_list, biF_tuple, biF_sorted, biF_sortedt, biF_all, biF_any, biF_sum, biF_min, biF_max, biF_min2, biF_max2, biF_int, biF_abs, lenF_tup, lenF_lst, szOk0, szOk1, szOk2, szOk3, szOk4, szOk5, szOk6, number_map, Int.cast_ofNat_Int, Int.reduceBEq, Int.reduceBNe, Int.reduceLT, Int.reduceLE, Int.reduceSub, Int.reduceAdd, Int.reduceNeg, decide_true, decide_false, beq_self_eq_true, Int.natCast_zero, Int.natCast_one]) (fun x hx => ⟨_, rfl, ?_⟩) (szOk_le' (by omega))]
    · unfold pick
      rw [List.map_map]
      rfl
    · have hx := hl x hx
      have k := idxF_tup_map dP ts x hx
      have : ts[x]?.getD (0, 0) = ts[x] := by simp [hx]
      simp only [start, List.length_cons, List.length_nil, exSs_nil, exSs_cons, exS_asg, exS_asgO, exS_par, exS_exp, exS_frz, exS_retv, exS_reto, exS_ite, exS_pass, goOn_nx, goOn_rt, fin_nx, fin_rt, frzF_own, frzF_val, getOwn_own, ev_var, ev_pk, ev_cst, ev_glb, ev_bin, ev_not, ev_neg, negF_int, ev_cmp, ev_cmp2, ev_cmp3, ev_and, ev_or, ev_ite, ev_tup, ev_lst, ev_idx, ev_slc, ev_call0, ev_callk, ev_lrng, ev_bi, ev_isi, evs_nil, evs_cons, evD_nil, evD_f, evD_t, evT_nil, evT_cons, evI_seq, evI_rng, evI_enm, elimS, condT, condF, condB, okb, Res.none_bind, Res.bind_assoc, liftS, slot, put, getAny, getVal, List.map_cons, List.map_nil, List.replicate, List.cons_append, List.nil_append, List.append_nil, dr_cell, dr_dP, dr_dI, dr_dL, dr_dW, dr_int, dr_bl, dr_tup, dr_lst, dr_non, dr_str, drs, idxF_lst0, idxF_lst1, idxF_lst2, idxF_tup0, idxF_tup1, idxF_tup2, cmpF_gt, cmpF_le, cmpF_lt, cmpF_ge, cmpF_eq, cmpF_ne, cmpF_in, cmpF_nin, cmpF_eqb, cmpF_neb, inF_dL, inF_lst, inF_tup, truth_bl, truth_int, bindT_nm, bindT_tt, bindT_tl, bindTs_nil, bindTs_nm, seqF_tup, seqF_lst, Option.map_some, Option.map_none, if_true, if_false, Bool.false_eq_true, Nat.reduceAdd, Nat.reduceSub, Nat.reduceEqDiff, Nat.zero_add, binF_add, binF_sub, isi_bool_non, isi_bool_bl, isi_bool_int, isi_bool_str, isi_bool_tup, isi_bool_lst, isi_int_non, isi_int_bl, isi_int_int, isi_int_str, isi_int_tup, isi_int_lst, isi_str_non, isi_str_bl, isi_str_int, isi_str_str, isi_str_tup, isi_str_lst, isi_tuple_non, isi_tuple_bl, isi_tuple_int, isi_tuple_str, isi_tuple_tup, isi_tuple_lst, isi_list_non, isi_list_bl, isi_list_int, isi_list_str, isi_list_tup, isi_list_lst, isi_dict_non, isi_dict_bl, isi_dict_int, isi_dict_str, isi_dict_tup, isi_dict_lst, bnot_bl, Bool.not_true, Bool.not_false, biF_len, biF_list, biF_tuple, biF_sorted, biF_sortedt, biF_all, biF_any, biF_sum, biF_min, biF_max, biF_min2, biF_max2, biF_int, biF_abs, lenF_tup, lenF_lst, szOk0, szOk1, szOk2, szOk3, szOk4, szOk5, szOk6, number_map, Int.cast_ofNat_Int, Int.reduceBEq, Int.reduceBNe, Int.reduceLT, Int.reduceLE, Int.reduceSub, Int.reduceAdd, Int.reduceNeg, decide_true, decide_false, beq_self_eq_true, Int.natCast_zero, Int.natCast_one, dI, k, this]
  have k2 := law_groups_s (n := n - 1) (m := m) (by omega) (by omega) (pick_in w.two hl) (by unfold pick; rw [List.length_map]; omega)
  have k3 : (groups m (pick ts l)).length ≤ 100 := by
    have h1 := groups_len (m := m) (pick ts l) ((List.range m).map fun x => [x])
    have h2 : (pick ts l).length = l.length := by unfold pick; rw [List.length_map]
    rw [List.length_map, List.length_range] at h1
    show ((pick ts l).foldl gstep ((List.range m).map fun x => [x])).length ≤ 100
    omega
  rw [ev_comp _ _ _ dG (fun g => inL g a && inL g b) dG (groups m (pick ts l)) (by simp only [start, List.length_cons, List.length_nil, exSs_nil, exSs_cons, exS_asg, exS_asgO, exS_par, exS_exp, exS_frz, exS_retv, exS_reto, exS_ite, exS_pass, goOn_nx, goOn_rt, fin_nx, fin_rt, frzF_own, frzF_val, getOwn_own, ev_var, ev_pk, ev_cst, ev_glb, ev_bin, ev_not, ev_neg, negF_int, ev_cmp, ev_cmp2, ev_cmp3, ev_and, ev_or, ev_ite, ev_tup, ev_lst, ev_idx, ev_slc, ev_call0, ev_callk, ev_lrng, ev_bi, ev_isi, evs_nil, evs_cons, evD_nil, evD_f, evD_t, evT_nil, evT_cons, evI_seq, evI_rng, evI_enm, elimS, condT, condF, condB, okb, Res.none_bind, Res.bind_assoc, liftS, slot, put, getAny, getVal, List.map_cons, List.map_nil, List.replicate, List.cons_append, List.nil_append, List.append_nil, dr_cell, dr_dP, dr_dI, dr_dL, dr_dW, dr_int, dr_bl, dr_tup, dr_lst, dr_non, dr_str, drs, idxF_lst0, idxF_lst1, idxF_lst2, idxF_tup0, idxF_tup1, idxF_tup2, cmpF_gt, cmpF_le, cmpF_lt, cmpF_ge, cmpF_eq, cmpF_ne, cmpF_in, cmpF_nin, cmpF_eqb, cmpF_neb, inF_dL, inF_lst, inF_tup, truth_bl, truth_int, bindT_nm, bindT_tt, bindT_tl, bindTs_nil, bindTs_nm, seqF_tup, seqF_lst, Option.map_some, Option.map_none, if_true, if_false, Bool.false_eq_true, Nat.reduceAdd, Nat.reduceSub, Nat.reduceEqDiff, Nat.zero_add, binF_add, binF_sub, isi_bool_non, isi_bool_bl, isi_bool_int, isi_bool_str, isi_bool_tup, isi_bool_lst, isi_int_non, isi_int_bl, isi_int_int, isi_int_str, isi_int_tup, isi_int_lst, isi_str_non, isi_str_bl, isi_str_int, isi_str_str, isi_str_tup, isi_str_lst, isi_tuple_non, isi_tuple_bl, isi_tuple_int, isi_tuple_str, isi_tuple_tup, isi_tuple_lst, isi_list_non, isi_list_bl, isi_list_int, isi_list_str, isi_list_tup, isi_list_lst, isi_dict_non, isi_dict_bl, isi_dict_int, isi_dict_str, isi_dict_tup, isi_dict_lst, bnot_bl, Bool.not_true, Bool.not_false, biF_len, biF_list, biF_tuple, biF_sorted, biF_sortedt, biF_all, biF_any, biF_sum, biF_min, biF_max, biF_min2, biF_max2, biF_int, biF_abs, lenF_tup, lenF_lst, szOk0, szOk1, szOk2, szOk3, szOk4, szOk5, szOk6, number_map, Int.cast_ofNat_Int, Int.reduceBEq, Int.reduceBNe, Int.reduceLT, Int.reduceLE, Int.reduceSub, Int.reduceAdd, Int.reduceNeg, decide_true, decide_false, beq_self_eq_true, Int.natCast_zero, Int.natCast_one, k1, k2]) ?_ (szOk_le' (by omega))]
  · simp only [start, List.length_cons, List.length_nil, exSs_nil, exSs_cons, exS_asg, exS_asgO, exS_par, exS_exp, exS_frz, exS_retv, exS_reto, exS_ite, exS_pass, goOn_nx, goOn_rt, fin_nx, fin_rt, frzF_own, frzF_val, getOwn_own, ev_var, ev_pk, ev_cst, ev_glb, ev_bin, ev_not, ev_neg, negF_int, ev_cmp, ev_cmp2, ev_cmp3, ev_and, ev_or, ev_ite, ev_tup, ev_lst, ev_idx, ev_slc, ev_call0, ev_callk, ev_lrng, ev_bi, ev_isi, evs_nil, evs_cons, evD_nil, evD_f, evD_t, evT_nil, evT_cons, evI_seq, evI_rng, evI_enm, elimS, condT, condF, condB, okb, Res.none_bind, Res.bind_assoc, liftS, slot, put, getAny, getVal, List.map_cons, List.map_nil, List.replicate, List.cons_append, List.nil_append, List.append_nil, dr_cell, dr_dP, dr_dI, dr_dL, dr_dW, dr_int, dr_bl, dr_tup, dr_lst, dr_non, dr_str, drs, idxF_lst0, idxF_lst1, idxF_lst2, idxF_tup0, idxF_tup1, idxF_tup2, cmpF_gt, cmpF_le, cmpF_lt, cmpF_ge, cmpF_eq, cmpF_ne, cmpF_in, cmpF_nin, cmpF_eqb, cmpF_neb, inF_dL, inF_lst, inF_tup, truth_bl, truth_int, bindT_nm, bindT_tt, bindT_tl, bindTs_nil, bindTs_nm, seqF_tup, seqF_lst, Option.map_some, Option.map_none, if_true, if_false, Bool.false_eq_true, Nat.reduceAdd, Nat.reduceSub, Nat.reduceEqDiff, Nat.zero_add, binF_add, binF_sub, isi_bool_non, isi_bool_bl, isi_bool_int, isi_bool_str, isi_bool_tup, isi_bool_lst, isi_int_non, isi_int_bl, isi_int_int, isi_int_str, isi_int_tup, isi_int_lst, isi_str_non, isi_str_bl, isi_str_int, isi_str_str, isi_str_tup, isi_str_lst, isi_tuple_non, isi_tuple_bl, isi_tuple_int, isi_tuple_str, isi_tuple_tup, isi_tuple_lst, isi_list_non, isi_list_bl, isi_list_int, isi_list_str, isi_list_tup, isi_list_lst, isi_dict_non, isi_dict_bl, isi_dict_int, isi_dict_str, isi_dict_tup, isi_dict_lst, bnot_bl, Bool.not_true, Bool.not_false, biF_len, biF_list, biF_tuple, biF_sorted, biF_sortedt, biF_all, biF_any, biF_sum, biF_min, biF_max, biF_min2, biF_max2, biF_int, biF_abs, lenF_tup, lenF_lst, szOk0, szOk1, szOk2, szOk3, szOk4, szOk5, szOk6, number_map, Int.cast_ofNat_Int, Int.reduceBEq, Int.reduceBNe, Int.reduceLT, Int.reduceLE, Int.reduceSub, Int.reduceAdd, Int.reduceNeg, decide_true, decide_false, beq_self_eq_true, Int.natCast_zero, Int.natCast_one, cmpF_ne_nil dG okN_dG]
    have e : ∀ gs : List (List Nat), (!(gs.filter fun g => inL g a && inL g b).isEmpty) = gs.any fun g => inL g a && inL g b := by
      intro gs
      induction gs with
      | nil => rfl
      | cons g gs ih =>
        rw [List.filter_cons, List.any_cons, ← ih]
        cases inL g a && inL g b <;> rfl
    rw [e]
    rfl
  · intro g _
    refine ⟨_, rfl, ?_, fun _ => by simp only [start, List.length_cons, List.length_nil, exSs_nil, exSs_cons, exS_asg, exS_asgO, exS_par, exS_exp, exS_frz, exS_retv, exS_reto, exS_ite, exS_pass, goOn_nx, goOn_rt, fin_nx, fin_rt, frzF_own, frzF_val, getOwn_own, ev_var, ev_pk, ev_cst, ev_glb, ev_bin, ev_not, ev_neg, negF_int, ev_cmp, ev_cmp2, ev_cmp3, ev_and, ev_or, ev_ite, ev_tup, ev_lst, ev_idx, ev_slc, ev_call0, ev_callk, ev_lrng, ev_bi, ev_isi, evs_nil, evs_cons, evD_nil, evD_f, evD_t, evT_nil, evT_cons, evI_seq, evI_rng, evI_enm, elimS, condT, condF, condB, okb, Res.none_bind, Res.bind_assoc, liftS, slot, put, getAny, getVal, List.map_cons, List.map_nil, List.replicate, List.cons_append, List.nil_append, List.append_nil, dr_cell, dr_dP, dr_dI, dr_dL, dr_dW, dr_int, dr_bl, dr_tup, dr_lst, dr_non, dr_str, drs, idxF_lst0, idxF_lst1, idxF_lst2, idxF_tup0, idxF_tup1, idxF_tup2, cmpF_gt, cmpF_le, cmpF_lt, cmpF_ge, cmpF_eq, cmpF_ne, cmpF_in, cmpF_nin, cmpF_eqb, cmpF_neb, inF_dL, inF_lst, inF_tup, truth_bl, truth_int, bindT_nm, bindT_tt, bindT_tl, bindTs_nil, bindTs_nm, seqF_tup, seqF_lst, Option.map_some, Option.map_none, if_true, if_false, Bool.false_eq_true, Nat.reduceAdd, Nat.reduceSub, Nat.reduceEqDiff, Nat.zero_add, binF_add, binF_sub, isi_bool_non, isi_bool_bl, isi_bool_int, isi_bool_str, isi_bool_tup, isi_bool_lst, isi_int_non, isi_int_bl, isi_int_int, isi_int_str, isi_int_tup, isi_int_lst, isi_str_non, isi_str_bl, isi_str_int, isi_str_str, isi_str_tup, isi_str_lst, isi_tuple_non, isi_tuple_bl, isi_tuple_int, isi_tuple_str, isi_tuple_tup, isi_tuple_lst, isi_list_non, isi_list_bl, isi_list_int, isi_list_str, isi_list_tup, isi_list_lst, isi_dict_non, isi_dict_bl, isi_dict_int, isi_dict_str, isi_dict_tup, isi_dict_lst, bnot_bl, Bool.not_true, Bool.not_false, biF_len, biF_list, biF_tuple, biF_sorted, biF_sortedt, biF_all, biF_any, biF_sum, biF_min, biF_max, biF_min2, biF_max2, biF_int, biF_abs, lenF_tup, lenF_lst, szOk0, szOk1, szOk2, szOk3, szOk4, szOk5, szOk6, number_map, Int.cast_ofNat_Int, Int.reduceBEq, Int.reduceBNe, Int.reduceLT, Int.reduceLE, Int.reduceSub, Int.reduceAdd, Int.reduceNeg, decide_true, decide_false, beq_self_eq_true, Int.natCast_zero, Int.natCast_one]⟩
    simp only [start, List.length_cons, List.length_nil, exSs_nil, exSs_cons, exS_asg, exS_asgO, exS_par, exS_exp, exS_frz, exS_retv, exS_reto, exS_ite, exS_pass, goOn_nx, goOn_rt, fin_nx, fin_rt, frzF_own, frzF_val, getOwn_own, ev_var, ev_pk, ev_cst, ev_glb, ev_bin, ev_not, ev_neg, negF_int, ev_cmp, ev_cmp2, ev_cmp3, ev_and, ev_or, ev_ite, ev_tup, ev_lst, ev_idx, ev_slc, ev_call0, ev_callk, ev_lrng, ev_bi, ev_isi, evs_nil, evs_cons, evD_nil, evD_f, evD_t, evT_nil, evT_cons, evI_seq, evI_rng, evI_enm, elimS, condT, condF, condB, okb, Res.none_bind, Res.bind_assoc, liftS, slot, put, getAny, getVal, List.map_cons, List.map_nil, List.replicate, List.cons_append, List.nil_append, List.append_nil, dr_cell, dr_dP, dr_dI, dr_dL, dr_dW, dr_int, dr_bl, dr_tup, dr_lst, dr_non, dr_str, drs, idxF_lst0, idxF_lst1, idxF_lst2, idxF_tup0, idxF_tup1, idxF_tup2, cmpF_gt, cmpF_le, cmpF_lt, cmpF_ge, cmpF_eq, cmpF_ne, cmpF_in, cmpF_nin, cmpF_eqb, cmpF_neb, inF_dL, inF_lst, inF_tup, truth_bl, truth_int, bindT_nm, bindT_tt, bindT_tl, bindTs_nil, bindTs_nm, seqF_tup, seqF_lst, Option.map_some, Option.map_none, if_true, if_false, Bool.false_eq_true, Nat.reduceAdd, Nat.reduceSub, Nat.reduceEqDiff, Nat.zero_add, binF_add, binF_sub, isi_bool_non, isi_bool_bl, isi_bool_int, isi_bool_str, isi_bool_tup, isi_bool_lst, isi_int_non, isi_int_bl, isi_int_int, isi_int_str, isi_int_tup, isi_int_lst, isi_str_non, isi_str_bl, isi_str_int, isi_str_str, isi_str_tup, isi_str_lst, isi_tuple_non, isi_tuple_bl, isi_tuple_int, isi_tuple_str, isi_tuple_tup, isi_tuple_lst, isi_list_non, isi_list_bl, isi_list_int, isi_list_str, isi_list_tup, isi_list_lst, isi_dict_non, isi_dict_bl, isi_dict_int, isi_dict_str, isi_dict_tup, isi_dict_lst, bnot_bl, Bool.not_true, Bool.not_false, biF_len, biF_list, biF_tuple, biF_sorted, biF_sortedt, biF_all, biF_any, biF_sum, biF_min, biF_max, biF_min2, biF_max2, biF_int, biF_abs, lenF_tup, lenF_lst, szOk0, szOk1, szOk2, szOk3, szOk4, szOk5, szOk6, number_map, Int.cast_ofNat_Int, Int.reduceBEq, Int.reduceBNe, Int.reduceLT, Int.reduceLE, Int.reduceSub, Int.reduceAdd, Int.reduceNeg, decide_true, decide_false, beq_self_eq_true, Int.natCast_zero, Int.natCast_one, dr_dG, inF_dG]
    cases inL g a <;> cases inL g b <;> rfl
theorem law_lots_s {n : Nat} (hn : 1 ≤ n) {m : Nat} (hm : m ≤ 16) (s : Stt) : callF T n "_law_lots" [.int m] s = some (.ok (.lst ((lots m).map dL)), s) := by
  rw [callF_run T (m := n - 1) (by omega) fn__law_lots _ _ rfl]
  simp only [d__law_lots, start, List.length_cons, List.length_nil, exSs_nil, exSs_cons, exS_asg, exS_asgO, exS_par, exS_exp, exS_frz, exS_retv, exS_reto, exS_ite, exS_pass, goOn_nx, goOn_rt, fin_nx, fin_rt, frzF_own, frzF_val, getOwn_own, ev_var, ev_pk, ev_cst, ev_glb, ev_bin, ev_not, ev_neg, negF_int, ev_cmp, ev_cmp2, ev_cmp3, ev_and, ev_or, ev_ite, ev_tup, ev_lst, ev_idx, ev_slc, ev_call0, ev_callk, ev_lrng, ev_bi, ev_isi, evs_nil, evs_cons, evD_nil, evD_f, evD_t, evT_nil, evT_cons, evI_seq, evI_rng, evI_enm, elimS, condT, condF, condB, okb, Res.none_bind, Res.bind_assoc, liftS, slot, put, getAny, getVal, List.map_cons, List.map_nil, List.replicate, List.cons_append, List.nil_append, List.append_nil, dr_cell, dr_dP, dr_dI, dr_dL, dr_dW, dr_int, dr_bl, dr_tup, dr_lst, dr_non, dr_str, drs, idxF_lst0, idxF_lst1, idxF_lst2, idxF_tup0, idxF_tup1, idxF_tup2, cmpF_gt, cmpF_le, cmpF_lt, cmpF_ge, cmpF_eq, cmpF_ne, cmpF_in, cmpF_nin, cmpF_eqb, cmpF_neb, inF_dL, inF_lst, inF_tup, truth_bl, truth_int, bindT_nm, bindT_tt, bindT_tl, bindTs_nil, bindTs_nm, seqF_tup, seqF_lst, Option.map_some, Option.map_none, if_true, if_false, Bool.false_eq_true, Nat.reduceAdd, Nat.reduceSub, Nat.reduceEqDiff, Nat.zero_add, binF_add, binF_sub, isi_bool_non, isi_bool_bl, isi_bool_int, isi_bool_str, isi_bool_tup, isi_bool_lst, isi_int_non, isi_int_bl, isi_int_int, isi_int_str, isi_int_tup, isi_int_lst, isi_str_non, isi_str_bl, isi_str_int, isi_str_str, isi_str_tup, isi_str_lst, isi_tuple_non, isi_tuple_bl, isi_tuple_int, isi_tuple_str, isi_tuple_tup, isi_tuple_lst, isi_list_non, isi_list_bl, isi_list_int, isi_list_str, isi_list_tup, isi_list_lst, isi_dict_non, isi_dict_bl, isi_dict_int, isi_dict_str, isi_dict_tup, isi_dict_lst, bnot_bl, Bool.not_true, Bool.not_false, biF_len, biF_list, biF_tuple, biF_sorted, biF_sortedt, biF_all, biF_any, biF_sum, biF_min, biF_max, biF_min2, biF_max2, biF_int, biF_abs, lenF_tup, lenF_lst, szOk0, szOk1, szOk2, szOk3, szOk4, szOk5, szOk6, number_map, Int.cast_ofNat_Int, Int.reduceBEq, Int.reduceBNe, Int.reduceLT, Int.reduceLE, Int.reduceSub, Int.reduceAdd, Int.reduceNeg, decide_true, decide_false, beq_self_eq_true, Int.natCast_zero, Int.natCast_one]
  refine exS_pre _ _ _ dI (fun pre env => ∃ a b, env = [Slot.val (.int m), .val (.lst ((dbl [[]] pre).map dL)), a, b]) (List.range m) (by simp only [start, List.length_cons, List.length_nil, exSs_nil, exSs_cons, exS_asg, exS_asgO, exS_par, exS_exp, exS_frz, exS_retv, exS_reto, exS_ite, exS_pass, goOn_nx, goOn_rt, fin_nx, fin_rt, frzF_own, frzF_val, getOwn_own, ev_var, ev_pk, ev_cst, ev_glb, ev_bin, ev_not, ev_neg, negF_int, ev_cmp, ev_cmp2, ev_cmp3, ev_and, ev_or, ev_ite, ev_tup, ev_lst, ev_idx, ev_slc, ev_call0, ev_callk, ev_lrng, ev_bi, ev_isi, evs_nil, evs_cons, evD_nil, evD_f, evD_t, evT_nil, evT_cons, evI_seq, evI_rng, evI_enm, elimS, condT, condF, condB, okb, Res.none_bind, Res.bind_assoc, liftS, slot, put, getAny, getVal, List.map_cons, List.map_nil, List.replicate, List.cons_append, List.nil_append, List.append_nil, dr_cell, dr_dP, dr_dI, dr_dL, dr_dW, dr_int, dr_bl, dr_tup, dr_lst, dr_non, dr_str, drs, idxF_lst0, idxF_lst1, idxF_lst2, idxF_tup0, idxF_tup1, idxF_tup2, cmpF_gt, cmpF_le, cmpF_lt, cmpF_ge, cmpF_eq, cmpF_ne, cmpF_in, cmpF_nin, cmpF_eqb, cmpF_neb, inF_dL, inF_lst, inF_tup, truth_bl, truth_int, bindT_nm, bindT_tt, bindT_tl, bindTs_nil, bindTs_nm, seqF_tup, seqF_lst, Option.map_some, Option.map_none, if_true, if_false, Bool.false_eq_true, Nat.reduceAdd, Nat.reduceSub, Nat.reduceEqDiff, Nat.zero_add, binF_add, binF_sub, isi_bool_non, isi_bool_bl, isi_bool_int, isi_bool_str, isi_bool_tup, isi_bool_lst, isi_int_non, isi_int_bl, isi_int_int, isi_int_str, isi_int_tup, isi_int_lst, isi_str_non, isi_str_bl, isi_str_int, isi_str_str, isi_str_tup, isi_str_lst, isi_tuple_non, isi_tuple_bl, isi_tuple_int, isi_tuple_str, isi_tuple_tup, isi_tuple_lst, isi_list_non, isi_list_bl, isi_list_int, isi_list_str, isi_list_tup, isi_list_lst, isi_dict_non, isi_dict_bl, isi_dict_int, isi_dict_str, isi_dict_tup, isi_dict_lst, bnot_bl, Bool.not_true, Bool.not_false, biF_len, biF_list, biF_tuple, biF_sorted, biF_sortedt, biF_all, biF_any, biF_sum, biF_min, biF_max, biF_min2, biF_max2, biF_int, biF_abs, lenF_tup, lenF_lst, szOk0, szOk1, szOk2, szOk3, szOk4, szOk5, szOk6, number_map, Int.cast_ofNat_Int, Int.reduceBEq, Int.reduceBNe, Int.reduceLT, Int.reduceLE, Int.reduceSub, Int.reduceAdd, Int.reduceNeg, decide_true, decide_false, beq_self_eq_true, Int.natCast_zero, Int.natCast_one, rngF1' (m := m) (by omega)]; rfl) ?_ ⟨_, _, rfl⟩ ?_
  · rintro pre a post _ e ⟨x, y, rfl⟩
    have hl := pre_le e
    rw [List.length_range] at hl
    have hd : (dbl [[]] pre).length = 2 ^ pre.length := by rw [dbl_length]; simp
    have hp : 2 ^ pre.length ≤ 16777216 := by have := szPow (k := pre.length) (n := m) (c := 1) (by omega) hm (by decide); omega
    have hp2 : 2 ^ pre.length + 2 ^ pre.length ≤ 16777216 := by have := szPow (k := pre.length) (n := m) (c := 2) (by omega) hm (by decide); omega
    have k1 : ∀ s, ev ⟨callF T (n - 1), T.gl, T.wf⟩ (.comp (.bin .add (.pk 3) (.tup [(false, (.var 2))])) (.nm 3) (.seq (.pk 1)) []) [Slot.val (.int m), .val (.lst ((dbl [[]] pre).map dL)), .val (dI a), y] s = some (.ok (.lst ((dbl [[]] pre).map fun r => dL (r ++ [a]))), s) := fun s => by
      refine ev_comp0 _ _ _ dL _ _ (by simp only [start, List.length_cons, List.length_nil, exSs_nil, exSs_cons, exS_asg, exS_asgO, exS_par, exS_exp, exS_frz, exS_retv, exS_reto, exS_ite, exS_pass, goOn_nx, goOn_rt, fin_nx, fin_rt, frzF_own, frzF_val, getOwn_own, ev_var, ev_pk, ev_cst, ev_glb, ev_bin, ev_not, ev_neg, negF_int, ev_cmp, ev_cmp2, ev_cmp3, ev_and, ev_or, ev_ite, ev_tup, ev_lst, ev_idx, ev_slc, ev_call0, ev_callk, ev_lrng, ev_bi, ev_isi, evs_nil, evs_cons, evD_nil, evD_f, evD_t, evT_nil, evT_cons, evI_seq, evI_rng, evI_enm, elimS, condT, condF, condB, okb, Res.none_bind, Res.bind_assoc, liftS, slot, put, getAny, getVal, List.map_cons, List.map_nil, List.replicate, List.cons_append, List.nil_append, List.append_nil, dr_cell, dr_dP, dr_dI, dr_dL, dr_dW, dr_int, dr_bl, dr_tup, dr_lst, dr_non, dr_str, drs, idxF_lst0, idxF_lst1, idxF_lst2, idxF_tup0, idxF_tup1, idxF_tup2, cmpF_gt, cmpF_le, cmpF_lt, cmpF_ge, cmpF_eq, cmpF_ne, cmpF_in, cmpF_nin, cmpF_eqb, cmpF_neb, inF_dL, inF_lst, inF_tup, truth_bl, truth_int, bindT_nm, bindT_tt, bindT_tl, bindTs_nil, bindTs_nm, seqF_tup, seqF_lst, Option.map_some, Option.map_none, if_true, if_false, Bool.false_eq_true, Nat.reduceAdd, Nat.reduceSub, Nat.reduceEqDiff, Nat.zero_add, binF_add, binF_sub, isi_bool_non, isi_bool_bl, isi_bool_int, isi_bool_str, isi_bool_tup, isi_bool_lst, isi_int_non, isi_int_bl, isi_int_int, isi_int_str, isi_int_tup, isi_int_lst, isi_str_non, isi_str_bl, isi_str_int, isi_str_str, isi_str_tup, isi_str_lst, isi_tuple_non, isi_tuple_bl, isi_tuple_int, isi_tuple_str, isi_tuple_tup, isi_tuple_lst, isi_list_non, isi_list_bl, isi_list_int, isi_list_str, isi_list_tup, isi_list_lst, isi_dict_non, isi_dict_bl, isi_dict_int, isi_dict_str, isi_dict_tup, isi_dict_lst, bnot_bl, Bool.not_true, Bool.not_false, biF_len, biF_list, biF_tuple, biF_sorted, biF_sortedt, biF_all, biF_any, biF_sum, biF_min, biF_max, biF_min2, biF_max2, biF_int, biF_abs, lenF_tup, lenF_lst, szOk0, szOk1, szOk2, szOk3, szOk4, szOk5, szOk6, number_map, Int.cast_ofNat_Int, Int.reduceBEq, Int.reduceBNe, Int.reduceLT, Int.reduceLE, Int.reduceSub, Int.reduceAdd, Int.reduceNeg, decide_true, decide_false, beq_self_eq_true, Int.natCast_zero, Int.natCast_one]) (fun r hr => ⟨_, rfl, ?_⟩) (szOk_le' (by omega))
      have hr : r.length ≤ 16 := by
        obtain ⟨q, k, hq, rfl, hk⟩ := dbl_in _ _ _ hr
        rw [List.mem_singleton.mp hq, List.nil_append]
        have := hk.length_le
        omega
      have z1 : szOk ((r.map dI).length + 1) = true := szOk_le' (by simp; omega)
      simp only [dL_snoc, start, List.length_cons, List.length_nil, exSs_nil, exSs_cons, exS_asg, exS_asgO, exS_par, exS_exp, exS_frz, exS_retv, exS_reto, exS_ite, exS_pass, goOn_nx, goOn_rt, fin_nx, fin_rt, frzF_own, frzF_val, getOwn_own, ev_var, ev_pk, ev_cst, ev_glb, ev_bin, ev_not, ev_neg, negF_int, ev_cmp, ev_cmp2, ev_cmp3, ev_and, ev_or, ev_ite, ev_tup, ev_lst, ev_idx, ev_slc, ev_call0, ev_callk, ev_lrng, ev_bi, ev_isi, evs_nil, evs_cons, evD_nil, evD_f, evD_t, evT_nil, evT_cons, evI_seq, evI_rng, evI_enm, elimS, condT, condF, condB, okb, Res.none_bind, Res.bind_assoc, liftS, slot, put, getAny, getVal, List.map_cons, List.map_nil, List.replicate, List.cons_append, List.nil_append, List.append_nil, dr_cell, dr_dP, dr_dI, dr_dL, dr_dW, dr_int, dr_bl, dr_tup, dr_lst, dr_non, dr_str, drs, idxF_lst0, idxF_lst1, idxF_lst2, idxF_tup0, idxF_tup1, idxF_tup2, cmpF_gt, cmpF_le, cmpF_lt, cmpF_ge, cmpF_eq, cmpF_ne, cmpF_in, cmpF_nin, cmpF_eqb, cmpF_neb, inF_dL, inF_lst, inF_tup, truth_bl, truth_int, bindT_nm, bindT_tt, bindT_tl, bindTs_nil, bindTs_nm, seqF_tup, seqF_lst, Option.map_some, Option.map_none, if_true, if_false, Bool.false_eq_true, Nat.reduceAdd, Nat.reduceSub, Nat.reduceEqDiff, Nat.zero_add, binF_add, binF_sub, isi_bool_non, isi_bool_bl, isi_bool_int, isi_bool_str, isi_bool_tup, isi_bool_lst, isi_int_non, isi_int_bl, isi_int_int, isi_int_str, isi_int_tup, isi_int_lst, isi_str_non, isi_str_bl, isi_str_int, isi_str_str, isi_str_tup, isi_str_lst, isi_tuple_non, isi_tuple_bl, isi_tuple_int, isi_tuple_str, isi_tuple_tup, isi_tuple_lst, isi_list_non, isi_list_bl, isi_list_int, isi_list_str, isi_list_tup, isi_list_lst, isi_dict_non, isi_dict_bl, isi_dict_int, isi_dict_str, isi_dict_tup, isi_dict_lst, bnot_bl, Bool.not_true, Bool.not_false, biF_len, biF_list, biF_tuple, biF_sorted, biF_sortedt, biF_all, biF_any, biF_sum, biF_min, biF_max, biF_min2, biF_max2, biF_int, biF_abs, lenF_tup, lenF_lst, szOk0, szOk1, szOk2, szOk3, szOk4, szOk5, szOk6, number_map, Int.cast_ofNat_Int, Int.reduceBEq, Int.reduceBNe, Int.reduceLT, Int.reduceLE, Int.reduceSub, Int.reduceAdd, Int.reduceNeg, decide_true, decide_false, beq_self_eq_true, Int.natCast_zero, Int.natCast_one]
      simp only [dL, start, List.length_cons, List.length_nil, exSs_nil, exSs_cons, exS_asg, exS_asgO, exS_par, exS_exp, exS_frz, exS_retv, exS_reto, exS_ite, exS_pass, goOn_nx, goOn_rt, fin_nx, fin_rt, frzF_own, frzF_val, getOwn_own, ev_var, ev_pk, ev_cst, ev_glb, ev_bin, ev_not, ev_neg, negF_int, ev_cmp, ev_cmp2, ev_cmp3, ev_and, ev_or, ev_ite, ev_tup, ev_lst, ev_idx, ev_slc, ev_call0, ev_callk, ev_lrng, ev_bi, ev_isi, evs_nil, evs_cons, evD_nil, evD_f, evD_t, evT_nil, evT_cons, evI_seq, evI_rng, evI_enm, elimS, condT, condF, condB, okb, Res.none_bind, Res.bind_assoc, liftS, slot, put, getAny, getVal, List.map_cons, List.map_nil, List.replicate, List.cons_append, List.nil_append, List.append_nil, dr_cell, dr_dP, dr_dI, dr_dL, dr_dW, dr_int, dr_bl, dr_tup, dr_lst, dr_non, dr_str, drs, idxF_lst0, idxF_lst1, idxF_lst2, idxF_tup0, idxF_tup1, idxF_tup2, cmpF_gt, cmpF_le, cmpF_lt, cmpF_ge, cmpF_eq, cmpF_ne, cmpF_in, cmpF_nin, cmpF_eqb, cmpF_neb, inF_dL, inF_lst, inF_tup, truth_bl, truth_int, bindT_nm, bindT_tt, bindT_tl, bindTs_nil, bindTs_nm, seqF_tup, seqF_lst, Option.map_some, Option.map_none, if_true, if_false, Bool.false_eq_true, Nat.reduceAdd, Nat.reduceSub, Nat.reduceEqDiff, Nat.zero_add, binF_add, binF_sub, isi_bool_non, isi_bool_bl, isi_bool_int, isi_bool_str, isi_bool_tup, isi_bool_lst, isi_int_non, isi_int_bl, isi_int_int, isi_int_str, isi_int_tup, isi_int_lst, isi_str_non, isi_str_bl, isi_str_int, isi_str_str, isi_str_tup, isi_str_lst, isi_tuple_non, isi_tuple_bl, isi_tuple_int, isi_tuple_str, isi_tuple_tup, isi_tuple_lst, isi_list_non, isi_list_bl, isi_list_int, isi_list_str, isi_list_tup, isi_list_lst, isi_dict_non, isi_dict_bl, isi_dict_int, isi_dict_str, isi_dict_tup, isi_dict_lst, bnot_bl, Bool.not_true, Bool.not_false, biF_len, biF_list, biF_tuple, biF_sorted, biF_sortedt, biF_all, biF_any, biF_sum, biF_min, biF_max, biF_min2, biF_max2, biF_int, biF_abs, lenF_tup, lenF_lst, szOk0, szOk1, szOk2, szOk3, szOk4, szOk5, szOk6, number_map, Int.cast_ofNat_Int, Int.reduceBEq, Int.reduceBNe, Int.reduceLT, Int.reduceLE, Int.reduceSub, Int.reduceAdd, Int.reduceNeg, decide_true, decide_false, beq_self_eq_true, Int.natCast_zero, Int.natCast_one, binF_addt, z1]
      rfl
    refine ⟨_, _, rfl, ?_, .val (dI a), y, rfl⟩
    have z2 : szOk (((dbl [[]] pre).map dL).length + ((dbl [[]] pre).map fun r => dL (r ++ [a])).length) = true := szOk_le' (by simp only [List.length_map]; omega)
    simp only [start, List.length_cons, List.length_nil, exSs_nil, exSs_cons, exS_asg, exS_asgO, exS_par, exS_exp, exS_frz, exS_retv, exS_reto, exS_ite, exS_pass, goOn_nx, goOn_rt, fin_nx, fin_rt, frzF_own, frzF_val, getOwn_own, ev_var, ev_pk, ev_cst, ev_glb, ev_bin, ev_not, ev_neg, negF_int, ev_cmp, ev_cmp2, ev_cmp3, ev_and, ev_or, ev_ite, ev_tup, ev_lst, ev_idx, ev_slc, ev_call0, ev_callk, ev_lrng, ev_bi, ev_isi, evs_nil, evs_cons, evD_nil, evD_f, evD_t, evT_nil, evT_cons, evI_seq, evI_rng, evI_enm, elimS, condT, condF, condB, okb, Res.none_bind, Res.bind_assoc, liftS, slot, put, getAny, getVal, List.map_cons, List.map_nil, List.replicate, List.cons_append, List.nil_append, List.append_nil, dr_cell, dr_dP, dr_dI, dr_dL, dr_dW, dr_int, dr_bl, dr_tup, dr_lst, dr_non, dr_str, drs, idxF_lst0, idxF_lst1, idxF_lst2, idxF_tup0, idxF_tup1, idxF_tup2, cmpF_gt, cmpF_le, cmpF_lt, cmpF_ge, cmpF_eq, cmpF_ne, cmpF_in, cmpF_nin, cmpF_eqb, cmpF_neb, inF_dL, inF_lst, inF_tup, truth_bl, truth_int, bindT_nm, bindT_tt, bindT_tl, bindTs_nil, bindTs_nm, seqF_tup, seqF_lst, Option.map_some, Option.map_none, if_true, if_false, Bool.false_eq_true, Nat.reduceAdd, Nat.reduceSub, Nat.reduceEqDiff, Nat.zero_add, binF_add, binF_sub, isi_bool_non, isi_bool_bl, isi_bool_int, isi_bool_str, isi_bool_tup, isi_bool_lst, isi_int_non, isi_int_bl, isi_int_int, isi_int_str, isi_int_tup, isi_int_lst, isi_str_non, isi_str_bl, isi_str_int, isi_str_str, isi_str_tup, isi_str_lst, isi_tuple_non, isi_tuple_bl, isi_tuple_int, isi_tuple_str, isi_tuple_tup, isi_tuple_lst, isi_list_non, isi_list_bl, isi_list_int, isi_list_str, isi_list_tup, isi_list_lst, isi_dict_non, isi_dict_bl, isi_dict_int, isi_dict_str, isi_dict_tup, isi_dict_lst, bnot_bl, Bool.not_true, Bool.not_false, biF_len, biF_list, biF_tuple, biF_sorted, biF_sortedt, biF_all, biF_any, biF_sum, biF_min, biF_max, biF_min2, biF_max2, biF_int, biF_abs, lenF_tup, lenF_lst, szOk0, szOk1, szOk2, szOk3, szOk4, szOk5, szOk6, number_map, Int.cast_ofNat_Int, Int.reduceBEq, Int.reduceBNe, Int.reduceLT, Int.reduceLE, Int.reduceSub, Int.reduceAdd, Int.reduceNeg, decide_true, decide_false, beq_self_eq_true, Int.natCast_zero, Int.natCast_one, k1, binF_addl, z2, dbl_snoc, List.map_append, List.map_map]
    rfl
  · rintro _ ⟨x, y, rfl⟩
    simp only [start, List.length_cons, List.length_nil, exSs_nil, exSs_cons, exS_asg, exS_asgO, exS_par, exS_exp, exS_frz, exS_retv, exS_reto, exS_ite, exS_pass, goOn_nx, goOn_rt, fin_nx, fin_rt, frzF_own, frzF_val, getOwn_own, ev_var, ev_pk, ev_cst, ev_glb, ev_bin, ev_not, ev_neg, negF_int, ev_cmp, ev_cmp2, ev_cmp3, ev_and, ev_or, ev_ite, ev_tup, ev_lst, ev_idx, ev_slc, ev_call0, ev_callk, ev_lrng, ev_bi, ev_isi, evs_nil, evs_cons, evD_nil, evD_f, evD_t, evT_nil, evT_cons, evI_seq, evI_rng, evI_enm, elimS, condT, condF, condB, okb, Res.none_bind, Res.bind_assoc, liftS, slot, put, getAny, getVal, List.map_cons, List.map_nil, List.replicate, List.cons_append, List.nil_append, List.append_nil, dr_cell, dr_dP, dr_dI, dr_dL, dr_dW, dr_int, dr_bl, dr_tup, dr_lst, dr_non, dr_str, drs, idxF_lst0, idxF_lst1, idxF_lst2, idxF_tup0, idxF_tup1, idxF_tup2, cmpF_gt, cmpF_le, cmpF_lt, cmpF_ge, cmpF_eq, cmpF_ne, cmpF_in, cmpF_nin, cmpF_eqb, cmpF_neb, inF_dL, inF_lst, inF_tup, truth_bl, truth_int, bindT_nm, bindT_tt, bindT_tl, bindTs_nil, bindTs_nm, seqF_tup, seqF_lst, Option.map_some, Option.map_none, if_true, if_false, Bool.false_eq_true, Nat.reduceAdd, Nat.reduceSub, Nat.reduceEqDiff, Nat.zero_add, binF_add, binF_sub, isi_bool_non, isi_bool_bl, isi_bool_int, isi_bool_str, isi_bool_tup, isi_bool_lst, isi_int_non, isi_int_bl, isi_int_int, isi_int_str, isi_int_tup, isi_int_lst, isi_str_non, isi_str_bl, isi_str_int, isi_str_str, isi_str_tup, isi_str_lst, isi_tuple_non, isi_tuple_bl, isi_tuple_int, isi_tuple_str, isi_tuple_tup, isi_tuple_lst, isi_list_non, isi_list_bl, isi_list_int, isi_list_str, isi_list_tup, isi_list_lst, isi_dict_non, isi_dict_bl, isi_dict_int, isi_dict_str, isi_dict_tup, isi_dict_lst, bnot_bl, Bool.not_true, Bool.not_false, biF_len, biF_list, biF_tuple, biF_sorted, biF_sortedt, biF_all, biF_any, biF_sum, biF_min, biF_max, biF_min2, biF_max2, biF_int, biF_abs, lenF_tup, lenF_lst, szOk0, szOk1, szOk2, szOk3, szOk4, szOk5, szOk6, number_map, Int.cast_ofNat_Int, Int.reduceBEq, Int.reduceBNe, Int.reduceLT, Int.reduceLE, Int.reduceSub, Int.reduceAdd, Int.reduceNeg, decide_true, decide_false, beq_self_eq_true, Int.natCast_zero, Int.natCast_one, lots_dbl]
theorem dG_snoc (l : List Nat) (a : Nat) : dG (l ++ [a]) = .lst (l.map dI ++ [.int a]) := by
  show D.lst ((l ++ [a]).map dI) = _
  rw [List.map_append]
  rfl
theorem law_width_s {n : Nat} (hn : 1 ≤ n) {m : Nat} {ts : List (Nat × Nat)} (w : WebOk m ts) {a b : Nat} (ha : a < m) (hb : b < m) (ne : a ≠ b) : ∃ k : Nat, IsW ts a b k ∧ ∀ s, callF T n "_law_width" [dW m ts, .int a, .int b] s = some (.ok (.int k), s) := by
  have := w.n7
  have := w.t12
  let os := (List.range m).filter fun x => !inL [a, b] x
  have osl : os.length ≤ 7 := Nat.le_trans (List.length_filter_le ..) (by rw [List.length_range]; omega)
  have dl : ∀ pre : List Nat, (dbl [[a]] pre).length = 2 ^ pre.length := fun pre => by rw [dbl_length]; simp
  have ne0 : dbl [[a]] os ≠ [] := by
    intro e
    have := dl os
    rw [e] at this
    have := Nat.two_pow_pos os.length
    simp at *
    omega
  have rl : ∀ (pre : List Nat) r, pre.length ≤ 7 → r ∈ dbl [[a]] pre → r.length ≤ 8 := by
    intro pre r hp hr
    obtain ⟨q, k, hq, rfl, hk⟩ := dbl_in _ _ _ hr
    have := hk.length_le
    rw [List.mem_singleton.mp hq, List.length_append]
    show 1 + _ ≤ _
    omega
  obtain ⟨k, e, k1, k2⟩ := minF_map (fun r => cross ts (inL r)) (dbl [[a]] os) ne0
  refine ⟨k, IsW.rooms w.two (dbl [[a]] os) ?_ ?_ k1 k2, fun s => ?_⟩
  · intro r hr
    obtain ⟨q, k, hq, rfl, hk⟩ := dbl_in _ _ _ hr
    rw [List.mem_singleton.mp hq]
    refine ⟨by simp [inL], ?_⟩
    have : b ∉ k := fun hb => by
      have := (List.mem_filter.mp (hk.subset hb)).2
      simp [inL] at this
    simp [inL, this]
    exact fun e => ne e.symm
  · intro f fa fb
    refine ⟨[a] ++ os.filter f, dbl_has f os [[a]] [a] (List.mem_singleton.mpr rfl), fun x hx => ?_⟩
    by_cases xa : x = a
    · subst xa; simp [inL, fa]
    · by_cases xb : x = b
      · subst xb; simp [inL, os, fb, xa]
      · simp [inL, os, hx, xa, xb]
  · rw [callF_run T (m := n - 1) (by omega) fn__law_width _ _ rfl]
    simp only [d__law_width, dW, start, List.length_cons, List.length_nil, exSs_nil, exSs_cons, exS_asg, exS_asgO, exS_par, exS_exp, exS_frz, exS_retv, exS_reto, exS_ite, exS_pass, goOn_nx, goOn_rt, fin_nx, fin_rt, frzF_own, frzF_val, getOwn_own, ev_var, ev_pk, ev_cst, ev_glb, ev_bin, ev_not, ev_neg, negF_int, ev_cmp, ev_cmp2, ev_cmp3, ev_and, ev_or, ev_ite, ev_tup, ev_lst, ev_idx, ev_slc, ev_call0, ev_callk, ev_lrng, ev_bi, ev_isi, evs_nil, evs_cons, evD_nil, evD_f, evD_t, evT_nil, evT_cons, evI_seq, evI_rng, evI_enm, elimS, condT, condF, condB, okb, Res.none_bind, Res.bind_assoc, liftS, slot, put, getAny, getVal, List.map_cons, List.map_nil, List.replicate, List.cons_append, List.nil_append, List.append_nil, dr_cell, dr_dP, dr_dI, dr_dL, dr_dW, dr_int, dr_bl, dr_tup, dr_lst, dr_non, dr_str, drs, idxF_lst0, idxF_lst1, idxF_lst2, idxF_tup0, idxF_tup1, idxF_tup2, cmpF_gt, cmpF_le, cmpF_lt, cmpF_ge, cmpF_eq, cmpF_ne, cmpF_in, cmpF_nin, cmpF_eqb, cmpF_neb, inF_dL, inF_lst, inF_tup, truth_bl, truth_int, bindT_nm, bindT_tt, bindT_tl, bindTs_nil, bindTs_nm, seqF_tup, seqF_lst, Option.map_some, Option.map_none, if_true, if_false, Bool.false_eq_true, Nat.reduceAdd, Nat.reduceSub, Nat.reduceEqDiff, Nat.zero_add, binF_add, binF_sub, isi_bool_non, isi_bool_bl, isi_bool_int, isi_bool_str, isi_bool_tup, isi_bool_lst, isi_int_non, isi_int_bl, isi_int_int, isi_int_str, isi_int_tup, isi_int_lst, isi_str_non, isi_str_bl, isi_str_int, isi_str_str, isi_str_tup, isi_str_lst, isi_tuple_non, isi_tuple_bl, isi_tuple_int, isi_tuple_str, isi_tuple_tup, isi_tuple_lst, isi_list_non, isi_list_bl, isi_list_int, isi_list_str, isi_list_tup, isi_list_lst, isi_dict_non, isi_dict_bl, isi_dict_int, isi_dict_str, isi_dict_tup, isi_dict_lst, bnot_bl, Bool.not_true, Bool.not_false, biF_len, biF_list, biF_tuple, biF_sorted, biF_sortedt, biF_all, biF_any, biF_sum, biF_min, biF_max, biF_min2, biF_max2, biF_int, biF_abs, lenF_tup, lenF_lst, szOk0, szOk1, szOk2, szOk3, szOk4, szOk5, szOk6, number_map, Int.cast_ofNat_Int, Int.reduceBEq, Int.reduceBNe, Int.reduceLT, Int.reduceLE, Int.reduceSub, Int.reduceAdd, Int.reduceNeg, decide_true, decide_false, beq_self_eq_true, Int.natCast_zero, Int.natCast_one]
    rw [ev_comp _ _ _ dI (fun x => !inL [a, b] x) dI (List.range m) (by simp only [start, List.length_cons, List.length_nil, exSs_nil, exSs_cons, exS_asg, exS_asgO, exS_par, exS_exp, exS_frz, exS_retv, exS_reto, exS_ite, exS_pass, goOn_nx, goOn_rt, fin_nx, fin_rt, frzF_own, frzF_val, getOwn_own, ev_var, ev_pk, ev_cst, ev_glb, ev_bin, ev_not, ev_neg, negF_int, ev_cmp, ev_cmp2, ev_cmp3, ev_and, ev_or, ev_ite, ev_tup, ev_lst, ev_idx, ev_slc, ev_call0, ev_callk, ev_lrng, ev_bi, ev_isi, evs_nil, evs_cons, evD_nil, evD_f, evD_t, evT_nil, evT_cons, evI_seq, evI_rng, evI_enm, elimS, condT, condF, condB, okb, Res.none_bind, Res.bind_assoc, liftS, slot, put, getAny, getVal, List.map_cons, List.map_nil, List.replicate, List.cons_append, List.nil_append, List.append_nil, dr_cell, dr_dP, dr_dI, dr_dL, dr_dW, dr_int, dr_bl, dr_tup, dr_lst, dr_non, dr_str, drs, idxF_lst0, idxF_lst1, idxF_lst2, idxF_tup0, idxF_tup1, idxF_tup2, cmpF_gt, cmpF_le, cmpF_lt, cmpF_ge, cmpF_eq, cmpF_ne, cmpF_in, cmpF_nin, cmpF_eqb, cmpF_neb, inF_dL, inF_lst, inF_tup, truth_bl, truth_int, bindT_nm, bindT_tt, bindT_tl, bindTs_nil, bindTs_nm, seqF_tup, seqF_lst, Option.map_some, Option.map_none, if_true, if_false, Bool.false_eq_true, Nat.reduceAdd, Nat.reduceSub, Nat.reduceEqDiff, Nat.zero_add, binF_add, binF_sub, isi_bool_non, isi_bool_bl, isi_bool_int, isi_bool_str, isi_bool_tup, isi_bool_lst, isi_int_non, isi_int_bl, isi_int_int, isi_int_str, isi_int_tup, isi_int_lst, isi_str_non, isi_str_bl, isi_str_int, isi_str_str, isi_str_tup, isi_str_lst, isi_tuple_non, isi_tuple_bl, isi_tuple_int, isi_tuple_str, isi_tuple_tup, isi_tuple_lst, isi_list_non, isi_list_bl, isi_list_int, isi_list_str, isi_list_tup, isi_list_lst, isi_dict_non, isi_dict_bl, isi_dict_int, isi_dict_str, isi_dict_tup, isi_dict_lst, bnot_bl, Bool.not_true, Bool.not_false, biF_len, biF_list, biF_tuple, biF_sorted, biF_sortedt, biF_all, biF_any, biF_sum, biF_min, biF_max, biF_min2, biF_max2, biF_int, biF_abs, lenF_tup, lenF_lst, szOk0, szOk1, szOk2, szOk3, szOk4, szOk5, szOk6, number_map, Int.cast_ofNat_Int, Int.reduceBEq, Int.reduceBNe, Int.reduceLT, Int.reduceLE, Int.reduceSub, Int.reduceAdd, Int.reduceNeg, decide_true, decide_false, beq_self_eq_true, Int.natCast_zero, Int.natCast_one, rngF1' (m := m) (by omega)]; rfl) (fun x hx => ⟨_, rfl, by
      have : inF (.int x) (.tup [.int a, .int b]) = some (inL [a, b] x) := inF_tup x [a, b]
      simp only [start, List.length_cons, List.length_nil, exSs_nil, exSs_cons, exS_asg, exS_asgO, exS_par, exS_exp, exS_frz, exS_retv, exS_reto, exS_ite, exS_pass, goOn_nx, goOn_rt, fin_nx, fin_rt, frzF_own, frzF_val, getOwn_own, ev_var, ev_pk, ev_cst, ev_glb, ev_bin, ev_not, ev_neg, negF_int, ev_cmp, ev_cmp2, ev_cmp3, ev_and, ev_or, ev_ite, ev_tup, ev_lst, ev_idx, ev_slc, ev_call0, ev_callk, ev_lrng, ev_bi, ev_isi, evs_nil, evs_cons, evD_nil, evD_f, evD_t, evT_nil, evT_cons, evI_seq, evI_rng, evI_enm, elimS, condT, condF, condB, okb, Res.none_bind, Res.bind_assoc, liftS, slot, put, getAny, getVal, List.map_cons, List.map_nil, List.replicate, List.cons_append, List.nil_append, List.append_nil, dr_cell, dr_dP, dr_dI, dr_dL, dr_dW, dr_int, dr_bl, dr_tup, dr_lst, dr_non, dr_str, drs, idxF_lst0, idxF_lst1, idxF_lst2, idxF_tup0, idxF_tup1, idxF_tup2, cmpF_gt, cmpF_le, cmpF_lt, cmpF_ge, cmpF_eq, cmpF_ne, cmpF_in, cmpF_nin, cmpF_eqb, cmpF_neb, inF_dL, inF_lst, inF_tup, truth_bl, truth_int, bindT_nm, bindT_tt, bindT_tl, bindTs_nil, bindTs_nm, seqF_tup, seqF_lst, Option.map_some, Option.map_none, if_true, if_false, Bool.false_eq_true, Nat.reduceAdd, Nat.reduceSub, Nat.reduceEqDiff, Nat.zero_add, binF_add, binF_sub, isi_bool_non, isi_bool_bl, isi_bool_int, isi_bool_str, isi_bool_tup, isi_bool_lst, isi_int_non, isi_int_bl, isi_int_int, isi_int_str, isi_int_tup, isi_int_lst, isi_str_non, isi_str_bl, isi_str_int, isi_str_str, isi_str_tup, isi_str_lst, isi_tuple_non, isi_tuple_bl, isi_tuple_int, isi_tuple_str, isi_tuple_tup, isi_tuple_lst, isi_list_non, isi_list_bl, isi_list_int, isi_list_str, isi_list_tup, isi_list_lst, isi_dict_non, isi_dict_bl, isi_dict_int, isi_dict_str, isi_dict_tup, isi_dict_lst, bnot_bl, Bool.not_true, Bool.not_false, biF_len, biF_list, biF_tuple, biF_sorted, biF_sortedt, biF_all, biF_any, biF_sum, biF_min, biF_max, biF_min2, biF_max2, biF_int, biF_abs, lenF_tup, lenF_lst, szOk0, szOk1, szOk2, szOk3, szOk4, szOk5, szOk6, number_map, Int.cast_ofNat_Int, Int.reduceBEq, Int.reduceBNe, Int.reduceLT, Int.reduceLE, Int.reduceSub, Int.reduceAdd, Int.reduceNeg, decide_true, decide_false, beq_self_eq_true, Int.natCast_zero, Int.natCast_one, dI, this], fun _ => by simp only [start, List.length_cons, List.length_nil, exSs_nil, exSs_cons, exS_asg, exS_asgO, exS_par, exS_exp, exS_frz, exS_retv, exS_reto, exS_ite, exS_pass, goOn_nx, goOn_rt, fin_nx, fin_rt, frzF_own, frzF_val, getOwn_own, ev_var, ev_pk, ev_cst, ev_glb, ev_bin, ev_not, ev_neg, negF_int, ev_cmp, ev_cmp2, ev_cmp3, ev_and, ev_or, ev_ite, ev_tup, ev_lst, ev_idx, ev_slc, ev_call0, ev_callk, ev_lrng, ev_bi, ev_isi, evs_nil, evs_cons, evD_nil, evD_f, evD_t, evT_nil, evT_cons, evI_seq, evI_rng, evI_enm, elimS, condT, condF, condB, okb, Res.none_bind, Res.bind_assoc, liftS, slot, put, getAny, getVal, List.map_cons, List.map_nil, List.replicate, List.cons_append, List.nil_append, List.append_nil, dr_cell, dr_dP, dr_dI, dr_dL, dr_dW, dr_int, dr_bl, dr_tup, dr_lst, dr_non, dr_str, drs, idxF_lst0, idxF_lst1, idxF_lst2, idxF_tup0, idxF_tup1, idxF_tup2, cmpF_gt, cmpF_le, cmpF_lt, cmpF_ge, cmpF_eq, cmpF_ne, cmpF_in, cmpF_nin, cmpF_eqb, cmpF_neb, inF_dL, inF_lst, inF_tup, truth_bl, truth_int, bindT_nm, bindT_tt, bindT_tl, bindTs_nil, bindTs_nm, seqF_tup, seqF_lst, Option.map_some, Option.map_none, if_true, if_false, Bool.false_eq_true, Nat.reduceAdd, Nat.reduceSub, Nat.reduceEqDiff, Nat.zero_add, binF_add, binF_sub, isi_bool_non, isi_bool_bl, isi_bool_int, isi_bool_str, isi_bool_tup, isi_bool_lst, isi_int_non, isi_int_bl, isi_int_int, isi_int_str, isi_int_tup, isi_int_lst, isi_str_non, isi_str_bl, isi_str_int, isi_str_str, isi_str_tup, isi_str_lst, isi_tuple_non, isi_tuple_bl, isi_tuple_int, isi_tuple_str, isi_tuple_tup, isi_tuple_lst, isi_list_non, isi_list_bl, isi_list_int, isi_list_str, isi_list_tup, isi_list_lst, isi_dict_non, isi_dict_bl, isi_dict_int, isi_dict_str, isi_dict_tup, isi_dict_lst, bnot_bl, Bool.not_true, Bool.not_false, biF_len, biF_list, biF_tuple, biF_sorted, biF_sortedt, biF_all, biF_any, biF_sum, biF_min, biF_max, biF_min2, biF_max2, biF_int, biF_abs, lenF_tup, lenF_lst, szOk0, szOk1, szOk2, szOk3, szOk4, szOk5, szOk6, number_map, Int.cast_ofNat_Int, Int.reduceBEq, Int.reduceBNe, Int.reduceLT, Int.reduceLE, Int.reduceSub, Int.reduceAdd, Int.reduceNeg, decide_true, decide_false, beq_self_eq_true, Int.natCast_zero, Int.natCast_one]⟩) (szRange (by omega))]
    simp only [start, List.length_cons, List.length_nil, exSs_nil, exSs_cons, exS_asg, exS_asgO, exS_par, exS_exp, exS_frz, exS_retv, exS_reto, exS_ite, exS_pass, goOn_nx, goOn_rt, fin_nx, fin_rt, frzF_own, frzF_val, getOwn_own, ev_var, ev_pk, ev_cst, ev_glb, ev_bin, ev_not, ev_neg, negF_int, ev_cmp, ev_cmp2, ev_cmp3, ev_and, ev_or, ev_ite, ev_tup, ev_lst, ev_idx, ev_slc, ev_call0, ev_callk, ev_lrng, ev_bi, ev_isi, evs_nil, evs_cons, evD_nil, evD_f, evD_t, evT_nil, evT_cons, evI_seq, evI_rng, evI_enm, elimS, condT, condF, condB, okb, Res.none_bind, Res.bind_assoc, liftS, slot, put, getAny, getVal, List.map_cons, List.map_nil, List.replicate, List.cons_append, List.nil_append, List.append_nil, dr_cell, dr_dP, dr_dI, dr_dL, dr_dW, dr_int, dr_bl, dr_tup, dr_lst, dr_non, dr_str, drs, idxF_lst0, idxF_lst1, idxF_lst2, idxF_tup0, idxF_tup1, idxF_tup2, cmpF_gt, cmpF_le, cmpF_lt, cmpF_ge, cmpF_eq, cmpF_ne, cmpF_in, cmpF_nin, cmpF_eqb, cmpF_neb, inF_dL, inF_lst, inF_tup, truth_bl, truth_int, bindT_nm, bindT_tt, bindT_tl, bindTs_nil, bindTs_nm, seqF_tup, seqF_lst, Option.map_some, Option.map_none, if_true, if_false, Bool.false_eq_true, Nat.reduceAdd, Nat.reduceSub, Nat.reduceEqDiff, Nat.zero_add, binF_add, binF_sub, isi_bool_non, isi_bool_bl, isi_bool_int, isi_bool_str, isi_bool_tup, isi_bool_lst, isi_int_non, isi_int_bl, isi_int_int, isi_int_str, isi_int_tup, isi_int_lst, isi_str_non, isi_str_bl, isi_str_int, isi_str_str, isi_str_tup, isi_str_lst, isi_tuple_non, isi_tuple_bl, isi_tuple_int, isi_tuple_str, isi_tuple_tup, isi_tuple_lst, isi_list_non, isi_list_bl, isi_list_int, isi_list_str, isi_list_tup, isi_list_lst, isi_dict_non, isi_dict_bl, isi_dict_int, isi_dict_str, isi_dict_tup, isi_dict_lst, bnot_bl, Bool.not_true, Bool.not_false, biF_len, biF_list, biF_tuple, biF_sorted, biF_sortedt, biF_all, biF_any, biF_sum, biF_min, biF_max, biF_min2, biF_max2, biF_int, biF_abs, lenF_tup, lenF_lst, szOk0, szOk1, szOk2, szOk3, szOk4, szOk5, szOk6, number_map, Int.cast_ofNat_Int, Int.reduceBEq, Int.reduceBNe, Int.reduceLT, Int.reduceLE, Int.reduceSub, Int.reduceAdd, Int.reduceNeg, decide_true, decide_false, beq_self_eq_true, Int.natCast_zero, Int.natCast_one]
    refine exS_pre _ _ _ dI (fun pre env => ∃ z1 z2 z3 z4, env = [Slot.val (dW m ts), .val (.int a), .val (.int b), .val (.lst (os.map dI)), .val (.lst ((dbl [[a]] pre).map dG)), z1, z2, z3, z4]) os (by simp only [start, List.length_cons, List.length_nil, exSs_nil, exSs_cons, exS_asg, exS_asgO, exS_par, exS_exp, exS_frz, exS_retv, exS_reto, exS_ite, exS_pass, goOn_nx, goOn_rt, fin_nx, fin_rt, frzF_own, frzF_val, getOwn_own, ev_var, ev_pk, ev_cst, ev_glb, ev_bin, ev_not, ev_neg, negF_int, ev_cmp, ev_cmp2, ev_cmp3, ev_and, ev_or, ev_ite, ev_tup, ev_lst, ev_idx, ev_slc, ev_call0, ev_callk, ev_lrng, ev_bi, ev_isi, evs_nil, evs_cons, evD_nil, evD_f, evD_t, evT_nil, evT_cons, evI_seq, evI_rng, evI_enm, elimS, condT, condF, condB, okb, Res.none_bind, Res.bind_assoc, liftS, slot, put, getAny, getVal, List.map_cons, List.map_nil, List.replicate, List.cons_append, List.nil_append, List.append_nil, dr_cell, dr_dP, dr_dI, dr_dL, dr_dW, dr_int, dr_bl, dr_tup, dr_lst, dr_non, dr_str, drs, idxF_lst0, idxF_lst1, idxF_lst2, idxF_tup0, idxF_tup1, idxF_tup2, cmpF_gt, cmpF_le, cmpF_lt, cmpF_ge, cmpF_eq, cmpF_ne, cmpF_in, cmpF_nin, cmpF_eqb, cmpF_neb, inF_dL, inF_lst, inF_tup, truth_bl, truth_int, bindT_nm, bindT_tt, bindT_tl, bindTs_nil, bindTs_nm, seqF_tup, seqF_lst, Option.map_some, Option.map_none, if_true, if_false, Bool.false_eq_true, Nat.reduceAdd, Nat.reduceSub, Nat.reduceEqDiff, Nat.zero_add, binF_add, binF_sub, isi_bool_non, isi_bool_bl, isi_bool_int, isi_bool_str, isi_bool_tup, isi_bool_lst, isi_int_non, isi_int_bl, isi_int_int, isi_int_str, isi_int_tup, isi_int_lst, isi_str_non, isi_str_bl, isi_str_int, isi_str_str, isi_str_tup, isi_str_lst, isi_tuple_non, isi_tuple_bl, isi_tuple_int, isi_tuple_str, isi_tuple_tup, isi_tuple_lst, isi_list_non, isi_list_bl, isi_list_int, isi_list_str, isi_list_tup, isi_list_lst, isi_dict_non, isi_dict_bl, isi_dict_int, isi_dict_str, isi_dict_tup, isi_dict_lst, bnot_bl, Bool.not_true, Bool.not_false, biF_len, biF_list, biF_tuple, biF_sorted, biF_sortedt, biF_all, biF_any, biF_sum, biF_min, biF_max, biF_min2, biF_max2, biF_int, biF_abs, lenF_tup, lenF_lst, szOk0, szOk1, szOk2, szOk3, szOk4, szOk5, szOk6, number_map, Int.cast_ofNat_Int, Int.reduceBEq, Int.reduceBNe, Int.reduceLT, Int.reduceLE, Int.reduceSub, Int.reduceAdd, Int.reduceNeg, decide_true, decide_false, beq_self_eq_true, Int.natCast_zero, Int.natCast_one]; rfl) ?_ ⟨_, _, _, _, rfl⟩ ?_
    · rintro pre x post _ e ⟨z1, z2, z3, z4, rfl⟩
      have hl := pre_le e
      have hd := dl pre
      have hp2 : 2 * 2 ^ pre.length ≤ 16777216 := szPow (k := pre.length) (n := 16) (c := 2) (by omega) (Nat.le_refl _) (by decide)
      have k1 : ∀ s, ev ⟨callF T (n - 1), T.gl, T.wf⟩ (.comp (.bin .add (.pk 6) (.lst [(false, (.var 5))])) (.nm 6) (.seq (.pk 4)) []) [Slot.val (dW m ts), .val (.int a), .val (.int b), .val (.lst (os.map dI)), .val (.lst ((dbl [[a]] pre).map dG)), .val (dI x), z2, z3, z4] s = some (.ok (.lst ((dbl [[a]] pre).map fun r => dG (r ++ [x]))), s) := fun s => by
        refine ev_comp0 _ _ _ dG _ _ (by simp only [start, List.length_cons, List.length_nil, exSs_nil, exSs_cons, exS_asg, exS_asgO, exS_par, exS_exp, exS_frz, exS_retv, exS_reto, exS_ite, exS_pass, goOn_nx, goOn_rt, fin_nx, fin_rt, frzF_own, frzF_val, getOwn_own, ev_var, ev_pk, ev_cst, ev_glb, ev_bin, ev_not, ev_neg, negF_int, ev_cmp, ev_cmp2, ev_cmp3, ev_and, ev_or, ev_ite, ev_tup, ev_lst, ev_idx, ev_slc, ev_call0, ev_callk, ev_lrng, ev_bi, ev_isi, evs_nil, evs_cons, evD_nil, evD_f, evD_t, evT_nil, evT_cons, evI_seq, evI_rng, evI_enm, elimS, condT, condF, condB, okb, Res.none_bind, Res.bind_assoc, liftS, slot, put, getAny, getVal, List.map_cons, List.map_nil, List.replicate, List.cons_append, List.nil_append, List.append_nil, dr_cell, dr_dP, dr_dI, dr_dL, dr_dW, dr_int, dr_bl, dr_tup, dr_lst, dr_non, dr_str, drs, idxF_lst0, idxF_lst1, idxF_lst2, idxF_tup0, idxF_tup1, idxF_tup2, cmpF_gt, cmpF_le, cmpF_lt, cmpF_ge, cmpF_eq, cmpF_ne, cmpF_in, cmpF_nin, cmpF_eqb, cmpF_neb, inF_dL, inF_lst, inF_tup, truth_bl, truth_int, bindT_nm, bindT_tt, bindT_tl, bindTs_nil, bindTs_nm, seqF_tup, seqF_lst, Option.map_some, Option.map_none, if_true, if_false, Bool.false_eq_true, Nat.reduceAdd, Nat.reduceSub, Nat.reduceEqDiff, Nat.zero_add, binF_add, binF_sub, isi_bool_non, isi_bool_bl, isi_bool_int, isi_bool_str, isi_bool_tup, isi_bool_lst, isi_int_non, isi_int_bl, isi_int_int, isi_int_str, isi_int_tup, isi_int_lst, isi_str_non, isi_str_bl, isi_str_int, isi_str_str, isi_str_tup, isi_str_lst, isi_tuple_non, isi_tuple_bl, isi_tuple_int, isi_tuple_str, isi_tuple_tup, isi_tuple_lst, isi_list_non, isi_list_bl, isi_list_int, isi_list_str, isi_list_tup, isi_list_lst, isi_dict_non, isi_dict_bl, isi_dict_int, isi_dict_str, isi_dict_tup, isi_dict_lst, bnot_bl, Bool.not_true, Bool.not_false, biF_len, biF_list, biF_tuple, biF_sorted, biF_sortedt, biF_all, biF_any, biF_sum, biF_min, biF_max, biF_min2, biF_max2, biF_int, biF_abs, lenF_tup, lenF_lst, szOk0, szOk1, szOk2, szOk3, szOk4, szOk5, szOk6, number_map, Int.cast_ofNat_Int, Int.reduceBEq, Int.reduceBNe, Int.reduceLT, Int.reduceLE, Int.reduceSub, Int.reduceAdd, Int.reduceNeg, decide_true, decide_false, beq_self_eq_true, Int.natCast_zero, Int.natCast_one]) (fun r hr => ⟨_, rfl, ?_⟩) (szOk_le' (by omega))
        have hr := rl pre r (by omega) hr
        have z1 : szOk ((r.map dI).length + 1) = true := szOk_le' (by simp; omega)
        simp only [dG_snoc, start, List.length_cons, List.length_nil, exSs_nil, exSs_cons, exS_asg, exS_asgO, exS_par, exS_exp, exS_frz, exS_retv, exS_reto, exS_ite, exS_pass, goOn_nx, goOn_rt, fin_nx, fin_rt, frzF_own, frzF_val, getOwn_own, ev_var, ev_pk, ev_cst, ev_glb, ev_bin, ev_not, ev_neg, negF_int, ev_cmp, ev_cmp2, ev_cmp3, ev_and, ev_or, ev_ite, ev_tup, ev_lst, ev_idx, ev_slc, ev_call0, ev_callk, ev_lrng, ev_bi, ev_isi, evs_nil, evs_cons, evD_nil, evD_f, evD_t, evT_nil, evT_cons, evI_seq, evI_rng, evI_enm, elimS, condT, condF, condB, okb, Res.none_bind, Res.bind_assoc, liftS, slot, put, getAny, getVal, List.map_cons, List.map_nil, List.replicate, List.cons_append, List.nil_append, List.append_nil, dr_cell, dr_dP, dr_dI, dr_dL, dr_dW, dr_int, dr_bl, dr_tup, dr_lst, dr_non, dr_str, drs, idxF_lst0, idxF_lst1, idxF_lst2, idxF_tup0, idxF_tup1, idxF_tup2, cmpF_gt, cmpF_le, cmpF_lt, cmpF_ge, cmpF_eq, cmpF_ne, cmpF_in, cmpF_nin, cmpF_eqb, cmpF_neb, inF_dL, inF_lst, inF_tup, truth_bl, truth_int, bindT_nm, bindT_tt, bindT_tl, bindTs_nil, bindTs_nm, seqF_tup, seqF_lst, Option.map_some, Option.map_none, if_true, if_false, Bool.false_eq_true, Nat.reduceAdd, Nat.reduceSub, Nat.reduceEqDiff, Nat.zero_add, binF_add, binF_sub, isi_bool_non, isi_bool_bl, isi_bool_int, isi_bool_str, isi_bool_tup, isi_bool_lst, isi_int_non, isi_int_bl, isi_int_int, isi_int_str, isi_int_tup, isi_int_lst, isi_str_non, isi_str_bl, isi_str_int, isi_str_str, isi_str_tup, isi_str_lst, isi_tuple_non, isi_tuple_bl, isi_tuple_int, isi_tuple_str, isi_tuple_tup, isi_tuple_lst, isi_list_non, isi_list_bl, isi_list_int, isi_list_str, isi_list_tup, isi_list_lst, isi_dict_non, isi_dict_bl, isi_dict_int, isi_dict_str, isi_dict_tup, isi_dict_lst, bnot_bl, Bool.not_true, Bool.not_false, biF_len, biF_list, biF_tuple, biF_sorted, biF_sortedt, biF_all, biF_any, biF_sum, biF_min, biF_max, biF_min2, biF_max2, biF_int, biF_abs, lenF_tup, lenF_lst, szOk0, szOk1, szOk2, szOk3, szOk4, szOk5, szOk6, number_map, Int.cast_ofNat_Int, Int.reduceBEq, Int.reduceBNe, Int.reduceLT, Int.reduceLE, Int.reduceSub, Int.reduceAdd, Int.reduceNeg, decide_true, decide_false, beq_self_eq_true, Int.natCast_zero, Int.natCast_one]
        simp only [dG, start, List.length_cons, List.length_nil, exSs_nil, exSs_cons, exS_asg, exS_asgO, exS_par, exS_exp, exS_frz, exS_retv, exS_reto, exS_ite, exS_pass, goOn_nx, goOn_rt, fin_nx, fin_rt, frzF_own, frzF_val, getOwn_own, ev_var, ev_pk, ev_cst, ev_glb, ev_bin, ev_not, ev_neg, negF_int, ev_cmp, ev_cmp2, ev_cmp3, ev_and, ev_or, ev_ite, ev_tup, ev_lst, ev_idx, ev_slc, ev_call0, ev_callk, ev_lrng, ev_bi, ev_isi, evs_nil, evs_cons, evD_nil, evD_f, evD_t, evT_nil, evT_cons, evI_seq, evI_rng, evI_enm, elimS, condT, condF, condB, okb, Res.none_bind, Res.bind_assoc, liftS, slot, put, getAny, getVal, List.map_cons, List.map_nil, List.replicate, List.cons_append, List.nil_append, List.append_nil, dr_cell, dr_dP, dr_dI, dr_dL, dr_dW, dr_int, dr_bl, dr_tup, dr_lst, dr_non, dr_str, drs, idxF_lst0, idxF_lst1, idxF_lst2, idxF_tup0, idxF_tup1, idxF_tup2, cmpF_gt, cmpF_le, cmpF_lt, cmpF_ge, cmpF_eq, cmpF_ne, cmpF_in, cmpF_nin, cmpF_eqb, cmpF_neb, inF_dL, inF_lst, inF_tup, truth_bl, truth_int, bindT_nm, bindT_tt, bindT_tl, bindTs_nil, bindTs_nm, seqF_tup, seqF_lst, Option.map_some, Option.map_none, if_true, if_false, Bool.false_eq_true, Nat.reduceAdd, Nat.reduceSub, Nat.reduceEqDiff, Nat.zero_add, binF_add, binF_sub, isi_bool_non, isi_bool_bl, isi_bool_int, isi_bool_str, isi_bool_tup, isi_bool_lst, isi_int_non, isi_int_bl, isi_int_int, isi_int_str, isi_int_tup, isi_int_lst, isi_str_non, isi_str_bl, isi_str_int, isi_str_str, isi_str_tup, isi_str_lst, isi_tuple_non, isi_tuple_bl, isi_tuple_int, isi_tuple_str, isi_tuple_tup, isi_tuple_lst, isi_list_non, isi_list_bl, isi_list_int, isi_list_str, isi_list_tup, isi_list_lst, isi_dict_non, isi_dict_bl, isi_dict_int, isi_dict_str, isi_dict_tup, isi_dict_lst, bnot_bl, Bool.not_true, Bool.not_false, biF_len, biF_list, biF_tuple, biF_sorted, biF_sortedt, biF_all, biF_any, biF_sum, biF_min, biF_max, biF_min2, biF_max2, biF_int, biF_abs, lenF_tup, lenF_lst, szOk0, szOk1, szOk2, szOk3, szOk4, szOk5, szOk6, number_map, Int.cast_ofNat_Int, Int.reduceBEq, Int.reduceBNe, Int.reduceLT, Int.reduceLE, Int.reduceSub, Int.reduceAdd, Int.reduceNeg, decide_true, decide_false, beq_self_eq_true, Int.natCast_zero, Int.natCast_one, binF_addl, z1]
        rfl
      refine ⟨_, _, rfl, ?_, .val (dI x), z2, z3, z4, rfl⟩
      have z2 : szOk (((dbl [[a]] pre).map dG).length + ((dbl [[a]] pre).map fun r => dG (r ++ [x])).length) = true := szOk_le' (by simp only [List.length_map]; omega)
      simp only [start, List.length_cons, List.length_nil, exSs_nil, exSs_cons, exS_asg, exS_asgO, exS_par, exS_exp, exS_frz, exS_retv, exS_reto, exS_ite, exS_pass, goOn_nx, goOn_rt, fin_nx, fin_rt, frzF_own, frzF_val, getOwn_own, ev_var, ev_pk, ev_cst, ev_glb, ev_bin, ev_not, ev_neg, negF_int, ev_cmp, ev_cmp2, ev_cmp3, ev_and, ev_or, ev_ite, ev_tup, ev_lst, ev_idx, ev_slc, ev_call0, ev_callk, ev_lrng, ev_bi, ev_isi, evs_nil, evs_cons, evD_nil, evD_f, evD_t, evT_nil, evT_cons, evI_seq, evI_rng, evI_enm, elimS, condT, condF, condB, okb, Res.none_bind, Res.bind_assoc, liftS, slot, put, getAny, getVal, List.map_cons, List.map_nil, List.replicate, List.cons_append, List.nil_append, List.append_nil, dr_cell, dr_dP, dr_dI, dr_dL, dr_dW, dr_int, dr_bl, dr_tup, dr_lst, dr_non, dr_str, drs, idxF_lst0, idxF_lst1, idxF_lst2, idxF_tup0, idxF_tup1, idxF_tup2, cmpF_gt, cmpF_le, cmpF_lt, cmpF_ge, cmpF_eq, cmpF_ne, cmpF_in, cmpF_nin, cmpF_eqb, cmpF_neb, inF_dL, inF_lst, inF_tup, truth_bl, truth_int, bindT_nm, bindT_tt, bindT_tl, bindTs_nil, bindTs_nm, seqF_tup, seqF_lst, Option.map_some, Option.map_none, if_true, if_false, Bool.false_eq_true, Nat.reduceAdd, Nat.reduceSub, Nat.reduceEqDiff, Nat.zero_add, binF_add, binF_sub, isi_bool_non, isi_bool_bl, isi_bool_int, isi_bool_str, isi_bool_tup, isi_bool_lst, isi_int_non, isi_int_bl, isi_int_int, isi_int_str, isi_int_tup, isi_int_lst, isi_str_non, isi_str_bl, isi_str_int, isi_str_str, isi_str_tup, isi_str_lst, isi_tuple_non, isi_tuple_bl, isi_tuple_int, isi_tuple_str, isi_tuple_tup, isi_tuple_lst, isi_list_non, isi_list_bl, isi_list_int, isi_list_str, isi_list_tup, isi_list_lst, isi_dict_non, isi_dict_bl, isi_dict_int, isi_dict_str, isi_dict_tup, isi_dict_lst, bnot_bl, Bool.not_true, Bool.not_false, biF_len, biF_list, biF_tuple, biF_sorted, biF_sortedt, biF_all, biF_any, biF_sum, biF_min, biF_max, biF_min2, biF_max2, biF_int, biF_abs, lenF_tup, lenF_lst, szOk0, szOk1, szOk2, szOk3, szOk4, szOk5, szOk6, number_map, Int.cast_ofNat_Int, Int.reduceBEq, Int.reduceBNe, Int.reduceLT, Int.reduceLE, Int.reduceSub, Int.reduceAdd, Int.reduceNeg, decide_true, decide_false, beq_self_eq_true, Int.natCast_zero, Int.natCast_one, k1, binF_addl, z2, dbl_snoc, List.map_append, List.map_map]
      rfl
    · rintro _ ⟨z1, z2, z3, z4, rfl⟩
      simp only [start, List.length_cons, List.length_nil, exSs_nil, exSs_cons, exS_asg, exS_asgO, exS_par, exS_exp, exS_frz, exS_retv, exS_reto, exS_ite, exS_pass, goOn_nx, goOn_rt, fin_nx, fin_rt, frzF_own, frzF_val, getOwn_own, ev_var, ev_pk, ev_cst, ev_glb, ev_bin, ev_not, ev_neg, negF_int, ev_cmp, ev_cmp2, ev_cmp3, ev_and, ev_or, ev_ite, ev_tup, ev_lst, ev_idx, ev_slc, ev_call0, ev_callk, ev_lrng, ev_bi, ev_isi, evs_nil, evs_cons, evD_nil, evD_f, evD_t, evT_nil, evT_cons, evI_seq, evI_rng, evI_enm, elimS, condT, condF, condB, okb, Res.none_bind, Res.bind_assoc, liftS, slot, put, getAny, getVal, List.map_cons, List.map_nil, List.replicate, List.cons_append, List.nil_append, List.append_nil, dr_cell, dr_dP, dr_dI, dr_dL, dr_dW, dr_int, dr_bl, dr_tup, dr_lst, dr_non, dr_str, drs, idxF_lst0, idxF_lst1, idxF_lst2, idxF_tup0, idxF_tup1, idxF_tup2, cmpF_gt, cmpF_le, cmpF_lt, cmpF_ge, cmpF_eq, cmpF_ne, cmpF_in, cmpF_nin, cmpF_eqb, cmpF_neb, inF_dL, inF_lst, inF_tup, truth_bl, truth_int, bindT_nm, bindT_tt, bindT_tl, bindTs_nil, bindTs_nm, seqF_tup, seqF_lst, Option.map_some, Option.map_none, if_true, if_false, Bool.false_eq_true, Nat.reduceAdd, Nat.reduceSub, Nat.reduceEqDiff, Nat.zero_add, binF_add, binF_sub, isi_bool_non, isi_bool_bl, isi_bool_int, isi_bool_str, isi_bool_tup, isi_bool_lst, isi_int_non, isi_int_bl, isi_int_int, isi_int_str, isi_int_tup, isi_int_lst, isi_str_non, isi_str_bl, isi_str_int, isi_str_str, isi_str_tup, isi_str_lst, isi_tuple_non, isi_tuple_bl, isi_tuple_int, isi_tuple_str, isi_tuple_tup, isi_tuple_lst, isi_list_non, isi_list_bl, isi_list_int, isi_list_str, isi_list_tup, isi_list_lst, isi_dict_non, isi_dict_bl, isi_dict_int, isi_dict_str, isi_dict_tup, isi_dict_lst, bnot_bl, Bool.not_true, Bool.not_false, biF_len, biF_list, biF_tuple, biF_sorted, biF_sortedt, biF_all, biF_any, biF_sum, biF_min, biF_max, biF_min2, biF_max2, biF_int, biF_abs, lenF_tup, lenF_lst, szOk0, szOk1, szOk2, szOk3, szOk4, szOk5, szOk6, number_map, Int.cast_ofNat_Int, Int.reduceBEq, Int.reduceBNe, Int.reduceLT, Int.reduceLE, Int.reduceSub, Int.reduceAdd, Int.reduceNeg, decide_true, decide_false, beq_self_eq_true, Int.natCast_zero, Int.natCast_one]
      rw [ev_comp0 _ _ _ dG (fun r => .int (cross ts (inL r) : Nat)) (dbl [[a]] os) (by simp only [start, List.length_cons, List.length_nil, exSs_nil, exSs_cons, exS_asg, exS_asgO, exS_par, exS_exp, exS_frz, exS_retv, exS_reto, exS_ite, exS_pass, goOn_nx, goOn_rt, fin_nx, fin_rt, frzF_own, frzF_val, getOwn_own, ev_var, ev_pk, ev_cst, ev_glb, ev_bin, ev_not, ev_neg, negF_int, ev_cmp, ev_cmp2, ev_cmp3, ev_and, ev_or, ev_ite, ev_tup, ev_lst, ev_idx, ev_slc, ev_call0, ev_callk, ev_lrng, ev_bi, ev_isi, evs_nil, evs_cons, evD_nil, evD_f, evD_t, evT_nil, evT_cons, evI_seq, evI_rng, evI_enm, elimS, condT, condF, condB, okb, Res.none_bind, Res.bind_assoc, liftS, slot, put, getAny, getVal, List.map_cons, List.map_nil, List.replicate, List.cons_append, List.nil_append, List.append_nil, dr_cell, dr_dP, dr_dI, dr_dL, dr_dW, dr_int, dr_bl, dr_tup, dr_lst, dr_non, dr_str, drs, idxF_lst0, idxF_lst1, idxF_lst2, idxF_tup0, idxF_tup1, idxF_tup2, cmpF_gt, cmpF_le, cmpF_lt, cmpF_ge, cmpF_eq, cmpF_ne, cmpF_in, cmpF_nin, cmpF_eqb, cmpF_neb, inF_dL, inF_lst, inF_tup, truth_bl, truth_int, bindT_nm, bindT_tt, bindT_tl, bindTs_nil, bindTs_nm, seqF_tup, seqF_lst, Option.map_some, Option.map_none, if_true, if_false, Bool.false_eq_true, Nat.reduceAdd, Nat.reduceSub, Nat.reduceEqDiff, Nat.zero_add, binF_add, binF_sub, isi_bool_non, isi_bool_bl, isi_bool_int, isi_bool_str, isi_bool_tup, isi_bool_lst, isi_int_non, isi_int_bl, isi_int_int, isi_int_str, isi_int_tup, isi_int_lst, isi_str_non, isi_str_bl, isi_str_int, isi_str_str, isi_str_tup, isi_str_lst, isi_tuple_non, isi_tuple_bl, isi_tuple_int, isi_tuple_str, isi_tuple_tup, isi_tuple_lst, isi_list_non, isi_list_bl, isi_list_int, isi_list_str, isi_list_tup, isi_list_lst, isi_dict_non, isi_dict_bl, isi_dict_int, isi_dict_str, isi_dict_tup, isi_dict_lst, bnot_bl, Bool.not_true, Bool.not_false, biF_len, biF_list, biF_tuple, biF_sorted, biF_sortedt, biF_all, biF_any, biF_sum, biF_min, biF_max, biF_min2, biF_max2, biF_int, biF_abs, lenF_tup, lenF_lst, szOk0, szOk1, szOk2, szOk3, szOk4, szOk5, szOk6, number_map, Int.cast_ofNat_Int, Int.reduceBEq, Int.reduceBNe, Int.reduceLT, Int.reduceLE, Int.reduceSub, Int.reduceAdd, Int.reduceNeg, decide_true, decide_false, beq_self_eq_true, Int.natCast_zero, Int.natCast_one]) ?_ (szOk_le' (by have := dl os; have := szPow (k := os.length) (n := 16) (c := 1) (by omega) (Nat.le_refl _) (by decide); omega))]
      · simp only [start, List.length_cons, List.length_nil, exSs_nil, exSs_cons, exS_asg, exS_asgO, exS_par, exS_exp, exS_frz, exS_retv, exS_reto, exS_ite, exS_pass, goOn_nx, goOn_rt, fin_nx, fin_rt, frzF_own, frzF_val, getOwn_own, ev_var, ev_pk, ev_cst, ev_glb, ev_bin, ev_not, ev_neg, negF_int, ev_cmp, ev_cmp2, ev_cmp3, ev_and, ev_or, ev_ite, ev_tup, ev_lst, ev_idx, ev_slc, ev_call0, ev_callk, ev_lrng, ev_bi, ev_isi, evs_nil, evs_cons, evD_nil, evD_f, evD_t, evT_nil, evT_cons, evI_seq, evI_rng, evI_enm, elimS, condT, condF, condB, okb, Res.none_bind, Res.bind_assoc, liftS, slot, put, getAny, getVal, List.map_cons, List.map_nil, List.replicate, List.cons_append, List.nil_append, List.append_nil, dr_cell, dr_dP, dr_dI, dr_dL, dr_dW, dr_int, dr_bl, dr_tup, dr_lst, dr_non, dr_str, drs, idxF_lst0, idxF_lst1, idxF_lst2, idxF_tup0, idxF_tup1, idxF_tup2, cmpF_gt, cmpF_le, cmpF_lt, cmpF_ge, cmpF_eq, cmpF_ne, cmpF_in, cmpF_nin, cmpF_eqb, cmpF_neb, inF_dL, inF_lst, inF_tup, truth_bl, truth_int, bindT_nm, bindT_tt, bindT_tl, bindTs_nil, bindTs_nm, seqF_tup, seqF_lst, Option.map_some, Option.map_none, if_true, if_false, Bool.false_eq_true, Nat.reduceAdd, Nat.reduceSub, Nat.reduceEqDiff, Nat.zero_add, binF_add, binF_sub, isi_bool_non, isi_bool_bl, isi_bool_int, isi_bool_str, isi_bool_tup, isi_bool_lst, isi_int_non, isi_int_bl, isi_int_int, isi_int_str, isi_int_tup, isi_int_lst, isi_str_non, isi_str_bl, isi_str_int, isi_str_str, isi_str_tup, isi_str_lst, isi_tuple_non, isi_tuple_bl, isi_tuple_int, isi_tuple_str, isi_tuple_tup, isi_tuple_lst, isi_list_non, isi_list_bl, isi_list_int, isi_list_str, isi_list_tup, isi_list_lst, isi_dict_non, isi_dict_bl, isi_dict_int, isi_dict_str, isi_dict_tup, isi_dict_lst, bnot_bl, Bool.not_true, Bool.not_false, biF_len, biF_list, biF_tuple, biF_sorted, biF_sortedt, biF_all, biF_any, biF_sum, biF_min, biF_max, biF_min2, biF_max2, biF_int, biF_abs, lenF_tup, lenF_lst, szOk0, szOk1, szOk2, szOk3, szOk4, szOk5, szOk6, number_map, Int.cast_ofNat_Int, Int.reduceBEq, Int.reduceBNe, Int.reduceLT, Int.reduceLE, Int.reduceSub, Int.reduceAdd, Int.reduceNeg, decide_true, decide_false, beq_self_eq_true, Int.natCast_zero, Int.natCast_one, e]
      · intro r hr
        refine ⟨_, rfl, ?_⟩
        simp only [start, List.length_cons, List.length_nil, exSs_nil, exSs_cons, exS_asg, exS_asgO, exS_par, exS_exp, exS_frz, exS_retv, exS_reto, exS_ite, exS_pass, goOn_nx, goOn_rt, fin_nx, fin_rt, frzF_own, frzF_val, getOwn_own, ev_var, ev_pk, ev_cst, ev_glb, ev_bin, ev_not, ev_neg, negF_int, ev_cmp, ev_cmp2, ev_cmp3, ev_and, ev_or, ev_ite, ev_tup, ev_lst, ev_idx, ev_slc, ev_call0, ev_callk, ev_lrng, ev_bi, ev_isi, evs_nil, evs_cons, evD_nil, evD_f, evD_t, evT_nil, evT_cons, evI_seq, evI_rng, evI_enm, elimS, condT, condF, condB, okb, Res.none_bind, Res.bind_assoc, liftS, slot, put, getAny, getVal, List.map_cons, List.map_nil, List.replicate, List.cons_append, List.nil_append, List.append_nil, dr_cell, dr_dP, dr_dI, dr_dL, dr_dW, dr_int, dr_bl, dr_tup, dr_lst, dr_non, dr_str, drs, idxF_lst0, idxF_lst1, idxF_lst2, idxF_tup0, idxF_tup1, idxF_tup2, cmpF_gt, cmpF_le, cmpF_lt, cmpF_ge, cmpF_eq, cmpF_ne, cmpF_in, cmpF_nin, cmpF_eqb, cmpF_neb, inF_dL, inF_lst, inF_tup, truth_bl, truth_int, bindT_nm, bindT_tt, bindT_tl, bindTs_nil, bindTs_nm, seqF_tup, seqF_lst, Option.map_some, Option.map_none, if_true, if_false, Bool.false_eq_true, Nat.reduceAdd, Nat.reduceSub, Nat.reduceEqDiff, Nat.zero_add, binF_add, binF_sub, isi_bool_non, isi_bool_bl, isi_bool_int, isi_bool_str, isi_bool_tup, isi_bool_lst, isi_int_non, isi_int_bl, isi_int_int, isi_int_str, isi_int_tup, isi_int_lst, isi_str_non, isi_str_bl, isi_str_int, isi_str_str, isi_str_tup, isi_str_lst, isi_tuple_non, isi_tuple_bl, isi_tuple_int, isi_tuple_str, isi_tuple_tup, isi_tuple_lst, isi_list_non, isi_list_bl, isi_list_int, isi_list_str, isi_list_tup, isi_list_lst, isi_dict_non, isi_dict_bl, isi_dict_int, isi_dict_str, isi_dict_tup, isi_dict_lst, bnot_bl, Bool.not_true, Bool.not_false, biF_len, biF_list, biF_tuple, biF_sorted, biF_sortedt, biF_all, biF_any, biF_sum, biF_min, biF_max, biF_min2, biF_max2, biF_int, biF_abs, lenF_tup, lenF_lst, szOk0, szOk1, szOk2, szOk3, szOk4, szOk5, szOk6, number_map, Int.cast_ofNat_Int, Int.reduceBEq, Int.reduceBNe, Int.reduceLT, Int.reduceLE, Int.reduceSub, Int.reduceAdd, Int.reduceNeg, decide_true, decide_false, beq_self_eq_true, Int.natCast_zero, Int.natCast_one]
        rw [ev_comp _ _ _ dP (crossP (inL r)) (fun _ => .int 1) ts (by simp only [dW, start, List.length_cons, List.length_nil, exSs_nil, exSs_cons, exS_asg, exS_asgO, exS_par, exS_exp, exS_frz, exS_retv, exS_reto, exS_ite, exS_pass, goOn_nx, goOn_rt, fin_nx, fin_rt, frzF_own, frzF_val, getOwn_own, ev_var, ev_pk, ev_cst, ev_glb, ev_bin, ev_not, ev_neg, negF_int, ev_cmp, ev_cmp2, ev_cmp3, ev_and, ev_or, ev_ite, ev_tup, ev_lst, ev_idx, ev_slc, ev_call0, ev_callk, ev_lrng, ev_bi, ev_isi, evs_nil, evs_cons, evD_nil, evD_f, evD_t, evT_nil, evT_cons, evI_seq, evI_rng, evI_enm, elimS, condT, condF, condB, okb, Res.none_bind, Res.bind_assoc, liftS, slot, put, getAny, getVal, List.map_cons, List.map_nil, List.replicate, List.cons_append, List.nil_append, List.append_nil, dr_cell, dr_dP, dr_dI, dr_dL, dr_dW, dr_int, dr_bl, dr_tup, dr_lst, dr_non, dr_str, drs, idxF_lst0, idxF_lst1, idxF_lst2, idxF_tup0, idxF_tup1, idxF_tup2, cmpF_gt, cmpF_le, cmpF_lt, cmpF_ge, cmpF_eq, cmpF_ne, cmpF_in, cmpF_nin, cmpF_eqb, cmpF_neb, inF_dL, inF_lst, inF_tup, truth_bl, truth_int, bindT_nm, bindT_tt, bindT_tl, bindTs_nil, bindTs_nm, seqF_tup, seqF_lst, Option.map_some, Option.map_none, if_true, if_false, Bool.false_eq_true, Nat.reduceAdd, Nat.reduceSub, Nat.reduceEqDiff, Nat.zero_add, binF_add, binF_sub, isi_bool_non, isi_bool_bl, isi_bool_int, isi_bool_str, isi_bool_tup, isi_bool_lst, isi_int_non, isi_int_bl, isi_int_int, isi_int_str, isi_int_tup, isi_int_lst, isi_str_non, isi_str_bl, isi_str_int, isi_str_str, isi_str_tup, isi_str_lst, isi_tuple_non, isi_tuple_bl, isi_tuple_int, isi_tuple_str, isi_tuple_tup, isi_tuple_lst, isi_list_non, isi_list_bl, isi_list_int, isi_list_str, isi_list_tup, isi_list_lst, isi_dict_non, isi_dict_bl, isi_dict_int, isi_dict_str, isi_dict_tup, isi_dict_lst, bnot_bl, Bool.not_true, Bool.not_false, biF_len, biF_list, biF_tuple, biF_sorted, biF_sortedt, biF_all, biF_any, biF_sum, biF_min, biF_max, biF_min2, biF_max2, biF_int, biF_abs, lenF_tup, lenF_lst, szOk0, szOk1, szOk2, szOk3, szOk4, szOk5, szOk6, number_map, Int.cast_ofNat_Int, Int.reduceBEq, Int.reduceBNe, Int.reduceLT, Int.reduceLE, Int.reduceSub, Int.reduceAdd, Int.reduceNeg, decide_true, decide_false, beq_self_eq_true, Int.natCast_zero, Int.natCast_one]) ?_ (szOk_le' (by omega))]
        · simp only [start, List.length_cons, List.length_nil, exSs_nil, exSs_cons, exS_asg, exS_asgO, exS_par, exS_exp, exS_frz, exS_retv, exS_reto, exS_ite, exS_pass, goOn_nx, goOn_rt, fin_nx, fin_rt, frzF_own, frzF_val, getOwn_own, ev_var, ev_pk, ev_cst, ev_glb, ev_bin, ev_not, ev_neg, negF_int, ev_cmp, ev_cmp2, ev_cmp3, ev_and, ev_or, ev_ite, ev_tup, ev_lst, ev_idx, ev_slc, ev_call0, ev_callk, ev_lrng, ev_bi, ev_isi, evs_nil, evs_cons, evD_nil, evD_f, evD_t, evT_nil, evT_cons, evI_seq, evI_rng, evI_enm, elimS, condT, condF, condB, okb, Res.none_bind, Res.bind_assoc, liftS, slot, put, getAny, getVal, List.map_cons, List.map_nil, List.replicate, List.cons_append, List.nil_append, List.append_nil, dr_cell, dr_dP, dr_dI, dr_dL, dr_dW, dr_int, dr_bl, dr_tup, dr_lst, dr_non, dr_str, drs, idxF_lst0, idxF_lst1, idxF_lst2, idxF_tup0, idxF_tup1, idxF_tup2, cmpF_gt, cmpF_le, cmpF_lt, cmpF_ge, cmpF_eq, cmpF_ne, cmpF_in, cmpF_nin, cmpF_eqb, cmpF_neb, inF_dL, inF_lst, inF_tup, truth_bl, truth_int, bindT_nm, bindT_tt, bindT_tl, bindTs_nil, bindTs_nm, seqF_tup, seqF_lst, Option.map_some, Option.map_none, if_true, if_false, Bool.false_eq_true, Nat.reduceAdd, Nat.reduceSub, Nat.reduceEqDiff, Nat.zero_add, binF_add, binF_sub, isi_bool_non, isi_bool_bl, isi_bool_int, isi_bool_str, isi_bool_tup, isi_bool_lst, isi_int_non, isi_int_bl, isi_int_int, isi_int_str, isi_int_tup, isi_int_lst, isi_str_non, isi_str_bl, isi_str_int, isi_str_str, isi_str_tup, isi_str_lst, isi_tuple_non, isi_tuple_bl, isi_tuple_int, isi_tuple_str, isi_tuple_tup, isi_tuple_lst, isi_list_non, isi_list_bl, isi_list_int, isi_list_str, isi_list_tup, isi_list_lst, isi_dict_non, isi_dict_bl, isi_dict_int, isi_dict_str, isi_dict_tup, isi_dict_lst, bnot_bl, Bool.not_true, Bool.not_false, biF_len, biF_list, biF_tuple, biF_sorted, biF_sortedt, biF_all, biF_any, biF_sum, biF_min, biF_max, biF_min2, biF_max2, biF_int, biF_abs, lenF_tup, lenF_lst, szOk0, szOk1, szOk2, szOk3, szOk4, szOk5, szOk6, number_map, Int.cast_ofNat_Int, Int.reduceBEq, Int.reduceBNe, Int.reduceLT, Int.reduceLE, Int.reduceSub, Int.reduceAdd, Int.reduceNeg, decide_true, decide_false, beq_self_eq_true, Int.natCast_zero, Int.natCast_one, List.length_map]
          rfl
        · intro p _
          refine ⟨_, rfl, ?_, fun _ => by simp only [start, List.length_cons, List.length_nil, exSs_nil, exSs_cons, exS_asg, exS_asgO, exS_par, exS_exp, exS_frz, exS_retv, exS_reto, exS_ite, exS_pass, goOn_nx, goOn_rt, fin_nx, fin_rt, frzF_own, frzF_val, getOwn_own, ev_var, ev_pk, ev_cst, ev_glb, ev_bin, ev_not, ev_neg, negF_int, ev_cmp, ev_cmp2, ev_cmp3, ev_and, ev_or, ev_ite, ev_tup, ev_lst, ev_idx, ev_slc, ev_call0, ev_callk, ev_lrng, ev_bi, ev_isi, evs_nil, evs_cons, evD_nil, evD_f, evD_t, evT_nil, evT_cons, evI_seq, evI_rng, evI_enm, elimS, condT, condF, condB, okb, Res.none_bind, Res.bind_assoc, liftS, slot, put, getAny, getVal, List.map_cons, List.map_nil, List.replicate, List.cons_append, List.nil_append, List.append_nil, dr_cell, dr_dP, dr_dI, dr_dL, dr_dW, dr_int, dr_bl, dr_tup, dr_lst, dr_non, dr_str, drs, idxF_lst0, idxF_lst1, idxF_lst2, idxF_tup0, idxF_tup1, idxF_tup2, cmpF_gt, cmpF_le, cmpF_lt, cmpF_ge, cmpF_eq, cmpF_ne, cmpF_in, cmpF_nin, cmpF_eqb, cmpF_neb, inF_dL, inF_lst, inF_tup, truth_bl, truth_int, bindT_nm, bindT_tt, bindT_tl, bindTs_nil, bindTs_nm, seqF_tup, seqF_lst, Option.map_some, Option.map_none, if_true, if_false, Bool.false_eq_true, Nat.reduceAdd, Nat.reduceSub, Nat.reduceEqDiff, Nat.zero_add, binF_add, binF_sub, isi_bool_non, isi_bool_bl, isi_bool_int, isi_bool_str, isi_bool_tup, isi_bool_lst, isi_int_non, isi_int_bl, isi_int_int, isi_int_str, isi_int_tup, isi_int_lst, isi_str_non, isi_str_bl, isi_str_int, isi_str_str, isi_str_tup, isi_str_lst, isi_tuple_non, isi_tuple_bl, isi_tuple_int, isi_tuple_str, isi_tuple_tup, isi_tuple_lst, isi_list_non, isi_list_bl, isi_list_int, isi_list_str, isi_list_tup, isi_list_lst, isi_dict_non, isi_dict_bl, isi_dict_int, isi_dict_str, isi_dict_tup, isi_dict_lst, bnot_bl, Bool.not_true, Bool.not_false, biF_len, biF_list, biF_tuple, biF_sorted, biF_sortedt, biF_all, biF_any, biF_sum, biF_min, biF_max, biF_min2, biF_max2, biF_int, biF_abs, lenF_tup, lenF_lst, szOk0, szOk1, szOk2, szOk3, szOk4, szOk5, szOk6, number_map, Int.cast_ofNat_Int, Int.reduceBEq, Int.reduceBNe, Int.reduceLT, Int.reduceLE, Int.reduceSub, Int.reduceAdd, Int.reduceNeg, decide_true, decide_false, beq_self_eq_true, Int.natCast_zero, Int.natCast_one]⟩
          simp only [start, List.length_cons, List.length_nil, exSs_nil, exSs_cons, exS_asg, exS_asgO, exS_par, exS_exp, exS_frz, exS_retv, exS_reto, exS_ite, exS_pass, goOn_nx, goOn_rt, fin_nx, fin_rt, frzF_own, frzF_val, getOwn_own, ev_var, ev_pk, ev_cst, ev_glb, ev_bin, ev_not, ev_neg, negF_int, ev_cmp, ev_cmp2, ev_cmp3, ev_and, ev_or, ev_ite, ev_tup, ev_lst, ev_idx, ev_slc, ev_call0, ev_callk, ev_lrng, ev_bi, ev_isi, evs_nil, evs_cons, evD_nil, evD_f, evD_t, evT_nil, evT_cons, evI_seq, evI_rng, evI_enm, elimS, condT, condF, condB, okb, Res.none_bind, Res.bind_assoc, liftS, slot, put, getAny, getVal, List.map_cons, List.map_nil, List.replicate, List.cons_append, List.nil_append, List.append_nil, dr_cell, dr_dP, dr_dI, dr_dL, dr_dW, dr_int, dr_bl, dr_tup, dr_lst, dr_non, dr_str, drs, idxF_lst0, idxF_lst1, idxF_lst2, idxF_tup0, idxF_tup1, idxF_tup2, cmpF_gt, cmpF_le, cmpF_lt, cmpF_ge, cmpF_eq, cmpF_ne, cmpF_in, cmpF_nin, cmpF_eqb, cmpF_neb, inF_dL, inF_lst, inF_tup, truth_bl, truth_int, bindT_nm, bindT_tt, bindT_tl, bindTs_nil, bindTs_nm, seqF_tup, seqF_lst, Option.map_some, Option.map_none, if_true, if_false, Bool.false_eq_true, Nat.reduceAdd, Nat.reduceSub, Nat.reduceEqDiff, Nat.zero_add, binF_add, binF_sub, isi_bool_non, isi_bool_bl, isi_bool_int, isi_bool_str, isi_bool_tup, isi_bool_lst, isi_int_non, isi_int_bl, isi_int_int, isi_int_str, isi_int_tup, isi_int_lst, isi_str_non, isi_str_bl, isi_str_int, isi_str_str, isi_str_tup, isi_str_lst, isi_tuple_non, isi_tuple_bl, isi_tuple_int, isi_tuple_str, isi_tuple_tup, isi_tuple_lst, isi_list_non, isi_list_bl, isi_list_int, isi_list_str, isi_list_tup, isi_list_lst, isi_dict_non, isi_dict_bl, isi_dict_int, isi_dict_str, isi_dict_tup, isi_dict_lst, bnot_bl, Bool.not_true, Bool.not_false, biF_len, biF_list, biF_tuple, biF_sorted, biF_sortedt, biF_all, biF_any, biF_sum, biF_min, biF_max, biF_min2, biF_max2, biF_int, biF_abs, lenF_tup, lenF_lst, szOk0, szOk1, szOk2, szOk3, szOk4, szOk5, szOk6, number_map, Int.cast_ofNat_Int, Int.reduceBEq, Int.reduceBNe, Int.reduceLT, Int.reduceLE, Int.reduceSub, Int.reduceAdd, Int.reduceNeg, decide_true, decide_false, beq_self_eq_true, Int.natCast_zero, Int.natCast_one, dr_dG, inF_dG]
          rfl
theorem law_same_s {n : Nat} (hn : 1 ≤ n) (xs : List Int) (s : Stt) : callF T n "_law_same" [.lst (xs.map D.int), .lst (xs.map D.int)] s = some (.ok (.bl true), s) := by
  rw [callF_run T (m := n - 1) (by omega) fn__law_same _ _ rfl]
  have k := cmpF_eq_map D.int (fun _ => rfl) (fun x => by show (x == x) = true; exact beq_self_eq_true x) xs
  simp only [d__law_same, start, List.length_cons, List.length_nil, exSs_nil, exSs_cons, exS_asg, exS_asgO, exS_par, exS_exp, exS_frz, exS_retv, exS_reto, exS_ite, exS_pass, goOn_nx, goOn_rt, fin_nx, fin_rt, frzF_own, frzF_val, getOwn_own, ev_var, ev_pk, ev_cst, ev_glb, ev_bin, ev_not, ev_neg, negF_int, ev_cmp, ev_cmp2, ev_cmp3, ev_and, ev_or, ev_ite, ev_tup, ev_lst, ev_idx, ev_slc, ev_call0, ev_callk, ev_lrng, ev_bi, ev_isi, evs_nil, evs_cons, evD_nil, evD_f, evD_t, evT_nil, evT_cons, evI_seq, evI_rng, evI_enm, elimS, condT, condF, condB, okb, Res.none_bind, Res.bind_assoc, liftS, slot, put, getAny, getVal, List.map_cons, List.map_nil, List.replicate, List.cons_append, List.nil_append, List.append_nil, dr_cell, dr_dP, dr_dI, dr_dL, dr_dW, dr_int, dr_bl, dr_tup, dr_lst, dr_non, dr_str, drs, idxF_lst0, idxF_lst1, idxF_lst2, idxF_tup0, idxF_tup1, idxF_tup2, cmpF_gt, cmpF_le, cmpF_lt, cmpF_ge, cmpF_eq, cmpF_ne, cmpF_in, cmpF_nin, cmpF_eqb, cmpF_neb, inF_dL, inF_lst, inF_tup, truth_bl, truth_int, bindT_nm, bindT_tt, bindT_tl, bindTs_nil, bindTs_nm, seqF_tup, seqF_lst, Option.map_some, Option.map_none, if_true, if_false, Bool.false_eq_true, Nat.reduceAdd, Nat.reduceSub, Nat.reduceEqDiff, Nat.zero_add, binF_add, binF_sub, isi_bool_non, isi_bool_bl, isi_bool_int, isi_bool_str, isi_bool_tup, isi_bool_lst, isi_int_non, isi_int_bl, isi_int_int, isi_int_str, isi_int_tup, isi_int_lst, isi_str_non, isi_str_bl, isi_str_int, isi_str_str, isi_str_tup, isi_str_lst, isi_tuple_non, isi_tuple_bl, isi_tuple_int, isi_tuple_str, isi_tuple_tup, isi_tuple_lst, isi_list_non, isi_list_bl, isi_list_int, isi_list_str, isi_list_tup, isi_list_lst, isi_dict_non, isi_dict_bl, isi_dict_int, isi_dict_str, isi_dict_tup, isi_dict_lst, bnot_bl, Bool.not_true, Bool.not_false, biF_len, biF_list, biF_tuple, biF_sorted, biF_sortedt, biF_all, biF_any, biF_sum, biF_min, biF_max, biF_min2, biF_max2, biF_int, biF_abs, lenF_tup, lenF_lst, szOk0, szOk1, szOk2, szOk3, szOk4, szOk5, szOk6, number_map, Int.cast_ofNat_Int, Int.reduceBEq, Int.reduceBNe, Int.reduceLT, Int.reduceLE, Int.reduceSub, Int.reduceAdd, Int.reduceNeg, decide_true, decide_false, beq_self_eq_true, Int.natCast_zero, Int.natCast_one, k]
end PyD.K42

namespace PyD.K42
open PySem PyD
def bodyI : List S := [.asg (.tup [(.nm 9), (.nm 10)]) (.call "_law_poles" [(.var 0), (.var 3)] []), .asg (.nm 6) (.call "_law_width" [(.var 3), (.var 9), (.var 10)] []), .asg (.nm 7) (.ite (.cmp .eq (.call "_law_draw" [(.var 0), (.cst (.int 3))] []) (.cst (.int 0))) (.call "width" [(.var 10), (.var 9), (.var 3)] [2, 1, 0]) (.call "width" [(.var 3), (.var 9), (.var 10)] [])), .ite (.or (.not (.call "_law_same" [(.lst [(false, (.var 7)), (false, (.call "width" [(.var 3), (.var 10), (.var 9)] []))]), (.lst [(false, (.var 6)), (false, (.var 6))])] [])) (.cmp .gt (.pk 6) (.bi .min [(.comp (.bi .len [(.comp (.cst (.int 1)) (.nm 16) (.seq (.idx (.pk 3) (.cst (.int 1)))) [(.cmp .in_ (.pk 14) (.pk 16))])]) (.nm 14) (.seq (.tup [(false, (.var 9)), (false, (.var 10))])) [])]))) [.ret none (.cst (.bl false))] [], .ite (.cmp .gt (.pk 4) (.cst (.int 1))) [.asg (.nm 11) (.call "_law_draw" [(.var 0), (.var 4)] []), .asg (.nm 12) (.call "width" [(.tup [(false, (.idx (.pk 3) (.cst (.int 0)))), (false, (.bin .add (.slc (.idx (.pk 3) (.cst (.int 1))) (.cst (.non)) (.pk 11)) (.slc (.idx (.pk 3) (.cst (.int 1))) (.bin .add (.pk 11) (.cst (.int 1))) (.cst (.non)))))]), (.var 9), (.var 10)] []), .ite (.not (.cmp2 .le .le (.bin .sub (.pk 6) (.cst (.int 1))) (.pk 12) (.pk 6))) [.ret none (.cst (.bl false))] []] []]
def bodyL : List S := [.asg (.tup [(.nm 9), (.nm 10)]) (.call "_law_poles" [(.var 0), (.var 3)] []), .asg (.nm 8) (.comp (.var 13) (.nm 13) (.seq (.call "_law_lots" [(.var 4)] [])) [(.not (.call "_law_joins" [(.var 3), (.comp (.var 15) (.nm 15) (.rng [(.var 4)]) [(.cmp .nin (.pk 15) (.pk 13))]), (.var 9), (.var 10)] []))]), .ite (.cmp .ne (.call "width" [(.var 3), (.var 9), (.var 10)] []) (.bi .min [(.comp (.bi .len [(.pk 13)]) (.nm 13) (.seq (.pk 8)) [])])) [.ret none (.cst (.bl false))] []]
theorem place3 (x y z : D) : place 3 [2, 1, 0] [x, y, z] = [z, y, x] := rfl
theorem inF_dP (x : Nat) (p : Nat × Nat) : inF (.int x) (dP p) = some (inL [p.1, p.2] x) := inF_tup x [p.1, p.2]
def degT (ts : List (Nat × Nat)) (x : Nat) : Nat := (ts.filter fun p => inL [p.1, p.2] x).length
theorem IsW.deg {ts : List (Nat × Nat)} {a b w : Nat} (ne : a ≠ b) (h : IsW ts a b w) : w ≤ degT ts a ∧ w ≤ degT ts b := by
  have k : ∀ x, (ts.filter fun p => p.1 == x || p.2 == x).length ≤ degT ts x := fun x => filter_le _ _ _ fun p _ hp => by
    simp [inL] at hp ⊢
    rcases hp with h | h
    · exact .inl h.symm
    · exact .inr h.symm
  exact ⟨Nat.le_trans (h.deg1 ne) (k a), Nat.le_trans (h.deg2 ne) (k b)⟩
theorem WebOk.less {m : Nat} {ts : List (Nat × Nat)} (w : WebOk m ts) (h : 2 ≤ ts.length) {i : Nat} (hi : i < ts.length) : WebOk m (ts.take i ++ ts.drop (i + 1)) := by
  have sb : (ts.take i ++ ts.drop (i + 1)).Sublist ts := by
    conv => rhs; rw [← List.take_append_drop i ts]
    refine List.Sublist.append_left ?_ _
    rw [← List.drop_drop]
    exact List.drop_sublist _ _
  have l : (ts.take i ++ ts.drop (i + 1)).length = ts.length - 1 := by
    rw [List.length_append, List.length_take, List.length_drop]
    omega
  have := w.t12
  exact ⟨w.n2, w.n7, by omega, by omega, fun p hp => w.pairs p (sb.subset hp), w.sorted.sublist sb⟩
theorem slc_lo (ts : List (Nat × Nat)) (i : Nat) (hi : i < ts.length) : slcF (.tup (ts.map dP)) .non (.int i) = some (.tup ((ts.take i).map dP)) := by
  show some (D.tup (((ts.map dP).drop 0).take (cutAt (ts.map dP).length i - 0))) = _
  have : cutAt (ts.map dP).length i = i := by
    unfold cutAt
    rw [if_neg (by omega), List.length_map]
    omega
  rw [this, List.map_take]
  rfl
theorem slc_hi (ts : List (Nat × Nat)) (i : Nat) (hi : i < ts.length) : slcF (.tup (ts.map dP)) (.int ((i : Int) + 1)) .non = some (.tup ((ts.drop (i + 1)).map dP)) := by
  show some (D.tup (((ts.map dP).drop (cutAt (ts.map dP).length ((i : Int) + 1))).take ((ts.map dP).length - cutAt (ts.map dP).length ((i : Int) + 1)))) = _
  have : cutAt (ts.map dP).length ((i : Int) + 1) = i + 1 := by
    unfold cutAt
    rw [if_neg (by omega), List.length_map]
    omega
  rw [this, List.map_drop, List.take_of_length_le (by rw [List.length_drop]; omega)]
theorem inner_s {n : Nat} (hn : 12 ≤ n) {s : Stt} {c : Nat} (hs : PoolAt s c) {m : Nat} {ts : List (Nat × Nat)} (w : WebOk m ts) (lap st : D) (a2 a6 a7 a8 a9 a10 a11 a12 a13 a14 a15 a16 : Slot) :
    (exSs ⟨callF T n, T.gl, T.wf⟩ bodyI [.val (.cell c), .val lap, a2, .val (dW m ts), .val (.int ts.length), .val st, a6, a7, a8, a9, a10, a11, a12, a13, a14, a15, a16] s).Ok fun f s' => PoolAt s' c ∧ ∃ b6 b7 b9 b10 b11 b12, f = .nx [.val (.cell c), .val lap, a2, .val (dW m ts), .val (.int ts.length), .val st, b6, b7, a8, b9, b10, b11, b12, a13, a14, a15, a16] := by
  have := w.n2
  have := w.n7
  have := w.t1
  have := w.t12
  simp only [bodyI, start, List.length_cons, List.length_nil, exSs_nil, exSs_cons, exS_asg, exS_asgO, exS_par, exS_exp, exS_frz, exS_retv, exS_reto, exS_ite, exS_pass, goOn_nx, goOn_rt, fin_nx, fin_rt, frzF_own, frzF_val, getOwn_own, ev_var, ev_pk, ev_cst, ev_glb, ev_bin, ev_not, ev_neg, negF_int, ev_cmp, ev_cmp2, ev_cmp3, ev_and, ev_or, ev_ite, ev_tup, ev_lst, ev_idx, ev_slc, ev_call0, ev_callk, ev_lrng, ev_bi, ev_isi, evs_nil, evs_cons, evD_nil, evD_f, evD_t, evT_nil, evT_cons, evI_seq, evI_rng, evI_enm, elimS, condT, condF, condB, okb, Res.none_bind, Res.bind_assoc, liftS, slot, put, getAny, getVal, List.map_cons, List.map_nil, List.replicate, List.cons_append, List.nil_append, List.append_nil, dr_cell, dr_dP, dr_dI, dr_dL, dr_dW, dr_int, dr_bl, dr_tup, dr_lst, dr_non, dr_str, drs, idxF_lst0, idxF_lst1, idxF_lst2, idxF_tup0, idxF_tup1, idxF_tup2, cmpF_gt, cmpF_le, cmpF_lt, cmpF_ge, cmpF_eq, cmpF_ne, cmpF_in, cmpF_nin, cmpF_eqb, cmpF_neb, inF_dL, inF_lst, inF_tup, truth_bl, truth_int, bindT_nm, bindT_tt, bindT_tl, bindTs_nil, bindTs_nm, seqF_tup, seqF_lst, Option.map_some, Option.map_none, if_true, if_false, Bool.false_eq_true, Nat.reduceAdd, Nat.reduceSub, Nat.reduceEqDiff, Nat.zero_add, binF_add, binF_sub, isi_bool_non, isi_bool_bl, isi_bool_int, isi_bool_str, isi_bool_tup, isi_bool_lst, isi_int_non, isi_int_bl, isi_int_int, isi_int_str, isi_int_tup, isi_int_lst, isi_str_non, isi_str_bl, isi_str_int, isi_str_str, isi_str_tup, isi_str_lst, isi_tuple_non, isi_tuple_bl, isi_tuple_int, isi_tuple_str, isi_tuple_tup, isi_tuple_lst, isi_list_non, isi_list_bl, isi_list_int, isi_list_str, isi_list_tup, isi_list_lst, isi_dict_non, isi_dict_bl, isi_dict_int, isi_dict_str, isi_dict_tup, isi_dict_lst, bnot_bl, Bool.not_true, Bool.not_false, biF_len, biF_list, biF_tuple, biF_sorted, biF_sortedt, biF_all, biF_any, biF_sum, biF_min, biF_max, biF_min2, biF_max2, biF_int, biF_abs, lenF_tup, lenF_lst, szOk0, szOk1, szOk2, szOk3, szOk4, szOk5, szOk6, number_map, Int.cast_ofNat_Int, Int.reduceBEq, Int.reduceBNe, Int.reduceLT, Int.reduceLE, Int.reduceSub, Int.reduceAdd, Int.reduceNeg, decide_true, decide_false, beq_self_eq_true, Int.natCast_zero, Int.natCast_one]
  refine Res.Ok.bind (law_poles_s (n := n) (by omega) hs (by omega) (by omega)) ?_
  rintro _ s1 ⟨⟨p, q1, q2, rfl⟩, p1, f1⟩
  obtain ⟨k, k1, k2⟩ := law_width_s (n := n) (by omega) w (a := p.1) (b := p.2) (by omega) (by omega) (by omega)
  obtain ⟨k', k3, k4⟩ := width_s (n := n) (by omega) w (a := p.1) (b := p.2) (by omega) (by omega) (by omega)
  obtain ⟨k'', k5, k6⟩ := width_s (n := n) (by omega) w (a := p.2) (b := p.1) (by omega) (by omega) (by omega)
  cases k1.uniq k3
  cases k1.uniq k5.symm
  simp only [start, List.length_cons, List.length_nil, exSs_nil, exSs_cons, exS_asg, exS_asgO, exS_par, exS_exp, exS_frz, exS_retv, exS_reto, exS_ite, exS_pass, goOn_nx, goOn_rt, fin_nx, fin_rt, frzF_own, frzF_val, getOwn_own, ev_var, ev_pk, ev_cst, ev_glb, ev_bin, ev_not, ev_neg, negF_int, ev_cmp, ev_cmp2, ev_cmp3, ev_and, ev_or, ev_ite, ev_tup, ev_lst, ev_idx, ev_slc, ev_call0, ev_callk, ev_lrng, ev_bi, ev_isi, evs_nil, evs_cons, evD_nil, evD_f, evD_t, evT_nil, evT_cons, evI_seq, evI_rng, evI_enm, elimS, condT, condF, condB, okb, Res.none_bind, Res.bind_assoc, liftS, slot, put, getAny, getVal, List.map_cons, List.map_nil, List.replicate, List.cons_append, List.nil_append, List.append_nil, dr_cell, dr_dP, dr_dI, dr_dL, dr_dW, dr_int, dr_bl, dr_tup, dr_lst, dr_non, dr_str, drs, idxF_lst0, idxF_lst1, idxF_lst2, idxF_tup0, idxF_tup1, idxF_tup2, cmpF_gt, cmpF_le, cmpF_lt, cmpF_ge, cmpF_eq, cmpF_ne, cmpF_in, cmpF_nin, cmpF_eqb, cmpF_neb, inF_dL, inF_lst, inF_tup, truth_bl, truth_int, bindT_nm, bindT_tt, bindT_tl, bindTs_nil, bindTs_nm, seqF_tup, seqF_lst, Option.map_some, Option.map_none, if_true, if_false, Bool.false_eq_true, Nat.reduceAdd, Nat.reduceSub, Nat.reduceEqDiff, Nat.zero_add, binF_add, binF_sub, isi_bool_non, isi_bool_bl, isi_bool_int, isi_bool_str, isi_bool_tup, isi_bool_lst, isi_int_non, isi_int_bl, isi_int_int, isi_int_str, isi_int_tup, isi_int_lst, isi_str_non, isi_str_bl, isi_str_int, isi_str_str, isi_str_tup, isi_str_lst, isi_tuple_non, isi_tuple_bl, isi_tuple_int, isi_tuple_str, isi_tuple_tup, isi_tuple_lst, isi_list_non, isi_list_bl, isi_list_int, isi_list_str, isi_list_tup, isi_list_lst, isi_dict_non, isi_dict_bl, isi_dict_int, isi_dict_str, isi_dict_tup, isi_dict_lst, bnot_bl, Bool.not_true, Bool.not_false, biF_len, biF_list, biF_tuple, biF_sorted, biF_sortedt, biF_all, biF_any, biF_sum, biF_min, biF_max, biF_min2, biF_max2, biF_int, biF_abs, lenF_tup, lenF_lst, szOk0, szOk1, szOk2, szOk3, szOk4, szOk5, szOk6, number_map, Int.cast_ofNat_Int, Int.reduceBEq, Int.reduceBNe, Int.reduceLT, Int.reduceLE, Int.reduceSub, Int.reduceAdd, Int.reduceNeg, decide_true, decide_false, beq_self_eq_true, Int.natCast_zero, Int.natCast_one, k2, dP]
  refine Res.Ok.bind (draw_s (n := n) (by omega) p1 (by omega) (by omega)) ?_
  rintro _ s2 ⟨⟨d, rfl, hd⟩, p2, f2⟩
  have told : ∀ t, cond t (callF T n "width" [dW m ts, .int p.1, .int p.2] s2) (callF T n "width" [dW m ts, .int p.1, .int p.2] s2) = some (.ok (.int k), s2) := fun t => by cases t <;> simp only [start, List.length_cons, List.length_nil, exSs_nil, exSs_cons, exS_asg, exS_asgO, exS_par, exS_exp, exS_frz, exS_retv, exS_reto, exS_ite, exS_pass, goOn_nx, goOn_rt, fin_nx, fin_rt, frzF_own, frzF_val, getOwn_own, ev_var, ev_pk, ev_cst, ev_glb, ev_bin, ev_not, ev_neg, negF_int, ev_cmp, ev_cmp2, ev_cmp3, ev_and, ev_or, ev_ite, ev_tup, ev_lst, ev_idx, ev_slc, ev_call0, ev_callk, ev_lrng, ev_bi, ev_isi, evs_nil, evs_cons, evD_nil, evD_f, evD_t, evT_nil, evT_cons, evI_seq, evI_rng, evI_enm, elimS, condT, condF, condB, okb, Res.none_bind, Res.bind_assoc, liftS, slot, put, getAny, getVal, List.map_cons, List.map_nil, List.replicate, List.cons_append, List.nil_append, List.append_nil, dr_cell, dr_dP, dr_dI, dr_dL, dr_dW, dr_int, dr_bl, dr_tup, dr_lst, dr_non, dr_str, drs, idxF_lst0, idxF_lst1, idxF_lst2, idxF_tup0, idxF_tup1, idxF_tup2, cmpF_gt, cmpF_le, cmpF_lt, cmpF_ge, cmpF_eq, cmpF_ne, cmpF_in, cmpF_nin, cmpF_eqb, cmpF_neb, inF_dL, inF_lst, inF_tup, truth_bl, truth_int, bindT_nm, bindT_tt, bindT_tl, bindTs_nil, bindTs_nm, seqF_tup, seqF_lst, Option.map_some, Option.map_none, if_true, if_false, Bool.false_eq_true, Nat.reduceAdd, Nat.reduceSub, Nat.reduceEqDiff, Nat.zero_add, binF_add, binF_sub, isi_bool_non, isi_bool_bl, isi_bool_int, isi_bool_str, isi_bool_tup, isi_bool_lst, isi_int_non, isi_int_bl, isi_int_int, isi_int_str, isi_int_tup, isi_int_lst, isi_str_non, isi_str_bl, isi_str_int, isi_str_str, isi_str_tup, isi_str_lst, isi_tuple_non, isi_tuple_bl, isi_tuple_int, isi_tuple_str, isi_tuple_tup, isi_tuple_lst, isi_list_non, isi_list_bl, isi_list_int, isi_list_str, isi_list_tup, isi_list_lst, isi_dict_non, isi_dict_bl, isi_dict_int, isi_dict_str, isi_dict_tup, isi_dict_lst, bnot_bl, Bool.not_true, Bool.not_false, biF_len, biF_list, biF_tuple, biF_sorted, biF_sortedt, biF_all, biF_any, biF_sum, biF_min, biF_max, biF_min2, biF_max2, biF_int, biF_abs, lenF_tup, lenF_lst, szOk0, szOk1, szOk2, szOk3, szOk4, szOk5, szOk6, number_map, Int.cast_ofNat_Int, Int.reduceBEq, Int.reduceBNe, Int.reduceLT, Int.reduceLE, Int.reduceSub, Int.reduceAdd, Int.reduceNeg, decide_true, decide_false, beq_self_eq_true, Int.natCast_zero, Int.natCast_one, k4]
  have ls : ∀ s, callF T n "_law_same" [.lst [.int k, .int k], .lst [.int k, .int k]] s = some (.ok (.bl true), s) := fun s => law_same_s (by omega) [(k : Int), (k : Int)] s
  simp only [start, List.length_cons, List.length_nil, exSs_nil, exSs_cons, exS_asg, exS_asgO, exS_par, exS_exp, exS_frz, exS_retv, exS_reto, exS_ite, exS_pass, goOn_nx, goOn_rt, fin_nx, fin_rt, frzF_own, frzF_val, getOwn_own, ev_var, ev_pk, ev_cst, ev_glb, ev_bin, ev_not, ev_neg, negF_int, ev_cmp, ev_cmp2, ev_cmp3, ev_and, ev_or, ev_ite, ev_tup, ev_lst, ev_idx, ev_slc, ev_call0, ev_callk, ev_lrng, ev_bi, ev_isi, evs_nil, evs_cons, evD_nil, evD_f, evD_t, evT_nil, evT_cons, evI_seq, evI_rng, evI_enm, elimS, condT, condF, condB, okb, Res.none_bind, Res.bind_assoc, liftS, slot, put, getAny, getVal, List.map_cons, List.map_nil, List.replicate, List.cons_append, List.nil_append, List.append_nil, dr_cell, dr_dP, dr_dI, dr_dL, dr_dW, dr_int, dr_bl, dr_tup, dr_lst, dr_non, dr_str, drs, idxF_lst0, idxF_lst1, idxF_lst2, idxF_tup0, idxF_tup1, idxF_tup2, cmpF_gt, cmpF_le, cmpF_lt, cmpF_ge, cmpF_eq, cmpF_ne, cmpF_in, cmpF_nin, cmpF_eqb, cmpF_neb, inF_dL, inF_lst, inF_tup, truth_bl, truth_int, bindT_nm, bindT_tt, bindT_tl, bindTs_nil, bindTs_nm, seqF_tup, seqF_lst, Option.map_some, Option.map_none, if_true, if_false, Bool.false_eq_true, Nat.reduceAdd, Nat.reduceSub, Nat.reduceEqDiff, Nat.zero_add, binF_add, binF_sub, isi_bool_non, isi_bool_bl, isi_bool_int, isi_bool_str, isi_bool_tup, isi_bool_lst, isi_int_non, isi_int_bl, isi_int_int, isi_int_str, isi_int_tup, isi_int_lst, isi_str_non, isi_str_bl, isi_str_int, isi_str_str, isi_str_tup, isi_str_lst, isi_tuple_non, isi_tuple_bl, isi_tuple_int, isi_tuple_str, isi_tuple_tup, isi_tuple_lst, isi_list_non, isi_list_bl, isi_list_int, isi_list_str, isi_list_tup, isi_list_lst, isi_dict_non, isi_dict_bl, isi_dict_int, isi_dict_str, isi_dict_tup, isi_dict_lst, bnot_bl, Bool.not_true, Bool.not_false, biF_len, biF_list, biF_tuple, biF_sorted, biF_sortedt, biF_all, biF_any, biF_sum, biF_min, biF_max, biF_min2, biF_max2, biF_int, biF_abs, lenF_tup, lenF_lst, szOk0, szOk1, szOk2, szOk3, szOk4, szOk5, szOk6, number_map, Int.cast_ofNat_Int, Int.reduceBEq, Int.reduceBNe, Int.reduceLT, Int.reduceLE, Int.reduceSub, Int.reduceAdd, Int.reduceNeg, decide_true, decide_false, beq_self_eq_true, Int.natCast_zero, Int.natCast_one, place3, told, k6, ls]
  obtain ⟨mm, e, ⟨y, hy, e1⟩, e2⟩ := minF_map (degT ts) [p.1, p.2] (by simp)
  replace e : minF (.lst [.int (degT ts p.1 : Nat), .int (degT ts p.2 : Nat)]) = some (.int mm) := e
  have dg := IsW.deg (by omega) k1
  have le : ¬ (mm : Int) < (k : Int) := by
    rcases List.mem_cons.mp hy with rfl | hy
    · omega
    · rw [List.mem_singleton.mp hy] at e1
      omega
  rw [ev_comp0 _ _ _ dI (fun x => .int (degT ts x : Nat)) [p.1, p.2] (by simp only [start, List.length_cons, List.length_nil, exSs_nil, exSs_cons, exS_asg, exS_asgO, exS_par, exS_exp, exS_frz, exS_retv, exS_reto, exS_ite, exS_pass, goOn_nx, goOn_rt, fin_nx, fin_rt, frzF_own, frzF_val, getOwn_own, ev_var, ev_pk, ev_cst, ev_glb, ev_bin, ev_not, ev_neg, negF_int, ev_cmp, ev_cmp2, ev_cmp3, ev_and, ev_or, ev_ite, ev_tup, ev_lst, ev_idx, ev_slc, ev_call0, ev_callk, ev_lrng, ev_bi, ev_isi, evs_nil, evs_cons, evD_nil, evD_f, evD_t, evT_nil, evT_cons, evI_seq, evI_rng, evI_enm, elimS, condT, condF, condB, okb, Res.none_bind, Res.bind_assoc, liftS, slot, put, getAny, getVal, List.map_cons, List.map_nil, List.replicate, List.cons_append, List.nil_append, List.append_nil, dr_cell, dr_dP, dr_dI, dr_dL, dr_dW, dr_int, dr_bl, dr_tup, dr_lst, dr_non, dr_str, drs, idxF_lst0, idxF_lst1, idxF_lst2, idxF_tup0, idxF_tup1, idxF_tup2, cmpF_gt, cmpF_le, cmpF_lt, cmpF_ge, cmpF_eq, cmpF_ne, cmpF_in, cmpF_nin, cmpF_eqb, cmpF_neb, inF_dL, inF_lst, inF_tup, truth_bl, truth_int, bindT_nm, bindT_tt, bindT_tl, bindTs_nil, bindTs_nm, seqF_tup, seqF_lst, Option.map_some, Option.map_none, if_true, if_false, Bool.false_eq_true, Nat.reduceAdd, Nat.reduceSub, Nat.reduceEqDiff, Nat.zero_add, binF_add, binF_sub, isi_bool_non, isi_bool_bl, isi_bool_int, isi_bool_str, isi_bool_tup, isi_bool_lst, isi_int_non, isi_int_bl, isi_int_int, isi_int_str, isi_int_tup, isi_int_lst, isi_str_non, isi_str_bl, isi_str_int, isi_str_str, isi_str_tup, isi_str_lst, isi_tuple_non, isi_tuple_bl, isi_tuple_int, isi_tuple_str, isi_tuple_tup, isi_tuple_lst, isi_list_non, isi_list_bl, isi_list_int, isi_list_str, isi_list_tup, isi_list_lst, isi_dict_non, isi_dict_bl, isi_dict_int, isi_dict_str, isi_dict_tup, isi_dict_lst, bnot_bl, Bool.not_true, Bool.not_false, biF_len, biF_list, biF_tuple, biF_sorted, biF_sortedt, biF_all, biF_any, biF_sum, biF_min, biF_max, biF_min2, biF_max2, biF_int, biF_abs, lenF_tup, lenF_lst, szOk0, szOk1, szOk2, szOk3, szOk4, szOk5, szOk6, number_map, Int.cast_ofNat_Int, Int.reduceBEq, Int.reduceBNe, Int.reduceLT, Int.reduceLE, Int.reduceSub, Int.reduceAdd, Int.reduceNeg, decide_true, decide_false, beq_self_eq_true, Int.natCast_zero, Int.natCast_one, dI]) ?_ rfl]
  · simp only [start, List.length_cons, List.length_nil, exSs_nil, exSs_cons, exS_asg, exS_asgO, exS_par, exS_exp, exS_frz, exS_retv, exS_reto, exS_ite, exS_pass, goOn_nx, goOn_rt, fin_nx, fin_rt, frzF_own, frzF_val, getOwn_own, ev_var, ev_pk, ev_cst, ev_glb, ev_bin, ev_not, ev_neg, negF_int, ev_cmp, ev_cmp2, ev_cmp3, ev_and, ev_or, ev_ite, ev_tup, ev_lst, ev_idx, ev_slc, ev_call0, ev_callk, ev_lrng, ev_bi, ev_isi, evs_nil, evs_cons, evD_nil, evD_f, evD_t, evT_nil, evT_cons, evI_seq, evI_rng, evI_enm, elimS, condT, condF, condB, okb, Res.none_bind, Res.bind_assoc, liftS, slot, put, getAny, getVal, List.map_cons, List.map_nil, List.replicate, List.cons_append, List.nil_append, List.append_nil, dr_cell, dr_dP, dr_dI, dr_dL, dr_dW, dr_int, dr_bl, dr_tup, dr_lst, dr_non, dr_str, drs, idxF_lst0, idxF_lst1, idxF_lst2, idxF_tup0, idxF_tup1, idxF_tup2, cmpF_gt, cmpF_le, cmpF_lt, cmpF_ge, cmpF_eq, cmpF_ne, cmpF_in, cmpF_nin, cmpF_eqb, cmpF_neb, inF_dL, inF_lst, inF_tup, truth_bl, truth_int, bindT_nm, bindT_tt, bindT_tl, bindTs_nil, bindTs_nm, seqF_tup, seqF_lst, Option.map_some, Option.map_none, if_true, if_false, Bool.false_eq_true, Nat.reduceAdd, Nat.reduceSub, Nat.reduceEqDiff, Nat.zero_add, binF_add, binF_sub, isi_bool_non, isi_bool_bl, isi_bool_int, isi_bool_str, isi_bool_tup, isi_bool_lst, isi_int_non, isi_int_bl, isi_int_int, isi_int_str, isi_int_tup, isi_int_lst, isi_str_non, isi_str_bl, isi_str_int, isi_str_str, isi_str_tup, isi_str_lst, isi_tuple_non, isi_tuple_bl, isi_tuple_int, isi_tuple_str, isi_tuple_tup, isi_tuple_lst, isi_list_non, isi_list_bl, isi_list_int, isi_list_str, isi_list_tup, isi_list_lst, isi_dict_non, isi_dict_bl, isi_dict_int, isi_dict_str, isi_dict_tup, isi_dict_lst, bnot_bl, Bool.not_true, Bool.not_false, biF_len, biF_list, biF_tuple, biF_sorted, biF_sortedt, biF_all, biF_any, biF_sum, biF_min, biF_max, biF_min2, biF_max2, biF_int, biF_abs, lenF_tup, lenF_lst, szOk0, szOk1, szOk2, szOk3, szOk4, szOk5, szOk6, number_map, Int.cast_ofNat_Int, Int.reduceBEq, Int.reduceBNe, Int.reduceLT, Int.reduceLE, Int.reduceSub, Int.reduceAdd, Int.reduceNeg, decide_true, decide_false, beq_self_eq_true, Int.natCast_zero, Int.natCast_one, e, le]
    by_cases h1 : 2 ≤ ts.length
    · have h1' : (1 : Int) < (ts.length : Int) := by omega
      simp only [start, List.length_cons, List.length_nil, exSs_nil, exSs_cons, exS_asg, exS_asgO, exS_par, exS_exp, exS_frz, exS_retv, exS_reto, exS_ite, exS_pass, goOn_nx, goOn_rt, fin_nx, fin_rt, frzF_own, frzF_val, getOwn_own, ev_var, ev_pk, ev_cst, ev_glb, ev_bin, ev_not, ev_neg, negF_int, ev_cmp, ev_cmp2, ev_cmp3, ev_and, ev_or, ev_ite, ev_tup, ev_lst, ev_idx, ev_slc, ev_call0, ev_callk, ev_lrng, ev_bi, ev_isi, evs_nil, evs_cons, evD_nil, evD_f, evD_t, evT_nil, evT_cons, evI_seq, evI_rng, evI_enm, elimS, condT, condF, condB, okb, Res.none_bind, Res.bind_assoc, liftS, slot, put, getAny, getVal, List.map_cons, List.map_nil, List.replicate, List.cons_append, List.nil_append, List.append_nil, dr_cell, dr_dP, dr_dI, dr_dL, dr_dW, dr_int, dr_bl, dr_tup, dr_lst, dr_non, dr_str, drs, idxF_lst0, idxF_lst1, idxF_lst2, idxF_tup0, idxF_tup1, idxF_tup2, cmpF_gt, cmpF_le, cmpF_lt, cmpF_ge, cmpF_eq, cmpF_ne, cmpF_in, cmpF_nin, cmpF_eqb, cmpF_neb, inF_dL, inF_lst, inF_tup, truth_bl, truth_int, bindT_nm, bindT_tt, bindT_tl, bindTs_nil, bindTs_nm, seqF_tup, seqF_lst, Option.map_some, Option.map_none, if_true, if_false, Bool.false_eq_true, Nat.reduceAdd, Nat.reduceSub, Nat.reduceEqDiff, Nat.zero_add, binF_add, binF_sub, isi_bool_non, isi_bool_bl, isi_bool_int, isi_bool_str, isi_bool_tup, isi_bool_lst, isi_int_non, isi_int_bl, isi_int_int, isi_int_str, isi_int_tup, isi_int_lst, isi_str_non, isi_str_bl, isi_str_int, isi_str_str, isi_str_tup, isi_str_lst, isi_tuple_non, isi_tuple_bl, isi_tuple_int, isi_tuple_str, isi_tuple_tup, isi_tuple_lst, isi_list_non, isi_list_bl, isi_list_int, isi_list_str, isi_list_tup, isi_list_lst, isi_dict_non, isi_dict_bl, isi_dict_int, isi_dict_str, isi_dict_tup, isi_dict_lst, bnot_bl, Bool.not_true, Bool.not_false, biF_len, biF_list, biF_tuple, biF_sorted, biF_sortedt, biF_all, biF_any, biF_sum, biF_min, biF_max, biF_min2, biF_max2, biF_int, biF_abs, lenF_tup, lenF_lst, szOk0, szOk1, szOk2, szOk3, szOk4, szOk5, szOk6, number_map, Int.cast_ofNat_Int, Int.reduceBEq, Int.reduceBNe, Int.reduceLT, Int.reduceLE, Int.reduceSub, Int.reduceAdd, Int.reduceNeg, decide_true, decide_false, beq_self_eq_true, Int.natCast_zero, Int.natCast_one, h1']
      refine Res.Ok.bind (draw_s (n := n) (by omega) p2 (by omega) (by omega)) ?_
      rintro _ s3 ⟨⟨i, rfl, hi⟩, p3, f3⟩
      have hi : i < ts.length := by omega
      obtain ⟨j, j1, j2⟩ := width_s (n := n) (by omega) (w.less h1 hi) (a := p.1) (b := p.2) (by omega) (by omega) (by omega)
      have jl := k1.less hi j1
      have z : szOk (((ts.take i).map dP).length + ((ts.drop (i + 1)).map dP).length) = true := szOk_le' (by simp only [List.length_map, List.length_take, List.length_drop]; omega)
      have d1 : ((k : Int) - 1 ≤ (j : Int)) := by omega
      have d2 : ((j : Int) ≤ (k : Int)) := by omega
      have d31 : idxF (dW m ts) (.int 0) = some (.int m) := rfl
      have d32 : idxF (dW m ts) (.int 1) = some (.tup (ts.map dP)) := rfl
      have d33 : ∀ u, endF (.pk 11) (.int u) = some (.int u) := fun _ => rfl
      have d34 : endF (.cst .non) .non = some .non := rfl
      have d35 : ∀ u, endF (.bin .add (.pk 11) (.cst (.int 1))) (.int u) = some (.int u) := fun _ => rfl
      have d4 : D.tup [.int m, .tup ((ts.take i).map dP ++ (ts.drop (i + 1)).map dP)] = dW m (ts.take i ++ ts.drop (i + 1)) := by
        unfold dW
        rw [List.map_append]
      refine .of_eq (by simp only [start, List.length_cons, List.length_nil, exSs_nil, exSs_cons, exS_asg, exS_asgO, exS_par, exS_exp, exS_frz, exS_retv, exS_reto, exS_ite, exS_pass, goOn_nx, goOn_rt, fin_nx, fin_rt, frzF_own, frzF_val, getOwn_own, ev_var, ev_pk, ev_cst, ev_glb, ev_bin, ev_not, ev_neg, negF_int, ev_cmp, ev_cmp2, ev_cmp3, ev_and, ev_or, ev_ite, ev_tup, ev_lst, ev_idx, ev_slc, ev_call0, ev_callk, ev_lrng, ev_bi, ev_isi, evs_nil, evs_cons, evD_nil, evD_f, evD_t, evT_nil, evT_cons, evI_seq, evI_rng, evI_enm, elimS, condT, condF, condB, okb, Res.none_bind, Res.bind_assoc, liftS, slot, put, getAny, getVal, List.map_cons, List.map_nil, List.replicate, List.cons_append, List.nil_append, List.append_nil, dr_cell, dr_dP, dr_dI, dr_dL, dr_dW, dr_int, dr_bl, dr_tup, dr_lst, dr_non, dr_str, drs, idxF_lst0, idxF_lst1, idxF_lst2, idxF_tup0, idxF_tup1, idxF_tup2, cmpF_gt, cmpF_le, cmpF_lt, cmpF_ge, cmpF_eq, cmpF_ne, cmpF_in, cmpF_nin, cmpF_eqb, cmpF_neb, inF_dL, inF_lst, inF_tup, truth_bl, truth_int, bindT_nm, bindT_tt, bindT_tl, bindTs_nil, bindTs_nm, seqF_tup, seqF_lst, Option.map_some, Option.map_none, if_true, if_false, Bool.false_eq_true, Nat.reduceAdd, Nat.reduceSub, Nat.reduceEqDiff, Nat.zero_add, binF_add, binF_sub, isi_bool_non, isi_bool_bl, isi_bool_int, isi_bool_str, isi_bool_tup, isi_bool_lst, isi_int_non, isi_int_bl, isi_int_int, isi_int_str, isi_int_tup, isi_int_lst, isi_str_non, isi_str_bl, isi_str_int, isi_str_str, isi_str_tup, isi_str_lst, isi_tuple_non, isi_tuple_bl, isi_tuple_int, isi_tuple_str, isi_tuple_tup, isi_tuple_lst, isi_list_non, isi_list_bl, isi_list_int, isi_list_str, isi_list_tup, isi_list_lst, isi_dict_non, isi_dict_bl, isi_dict_int, isi_dict_str, isi_dict_tup, isi_dict_lst, bnot_bl, Bool.not_true, Bool.not_false, biF_len, biF_list, biF_tuple, biF_sorted, biF_sortedt, biF_all, biF_any, biF_sum, biF_min, biF_max, biF_min2, biF_max2, biF_int, biF_abs, lenF_tup, lenF_lst, szOk0, szOk1, szOk2, szOk3, szOk4, szOk5, szOk6, number_map, Int.cast_ofNat_Int, Int.reduceBEq, Int.reduceBNe, Int.reduceLT, Int.reduceLE, Int.reduceSub, Int.reduceAdd, Int.reduceNeg, decide_true, decide_false, beq_self_eq_true, Int.natCast_zero, Int.natCast_one, d31, d32, d33, d34, d35, slc_lo ts i hi, slc_hi ts i hi, binF_addt, z, d4, j2, d1, d2]; rfl) ⟨p3, _, _, _, _, _, _, rfl⟩
    · have h1' : ¬ (1 : Int) < (ts.length : Int) := by omega
      refine .of_eq (by simp only [start, List.length_cons, List.length_nil, exSs_nil, exSs_cons, exS_asg, exS_asgO, exS_par, exS_exp, exS_frz, exS_retv, exS_reto, exS_ite, exS_pass, goOn_nx, goOn_rt, fin_nx, fin_rt, frzF_own, frzF_val, getOwn_own, ev_var, ev_pk, ev_cst, ev_glb, ev_bin, ev_not, ev_neg, negF_int, ev_cmp, ev_cmp2, ev_cmp3, ev_and, ev_or, ev_ite, ev_tup, ev_lst, ev_idx, ev_slc, ev_call0, ev_callk, ev_lrng, ev_bi, ev_isi, evs_nil, evs_cons, evD_nil, evD_f, evD_t, evT_nil, evT_cons, evI_seq, evI_rng, evI_enm, elimS, condT, condF, condB, okb, Res.none_bind, Res.bind_assoc, liftS, slot, put, getAny, getVal, List.map_cons, List.map_nil, List.replicate, List.cons_append, List.nil_append, List.append_nil, dr_cell, dr_dP, dr_dI, dr_dL, dr_dW, dr_int, dr_bl, dr_tup, dr_lst, dr_non, dr_str, drs, idxF_lst0, idxF_lst1, idxF_lst2, idxF_tup0, idxF_tup1, idxF_tup2, cmpF_gt, cmpF_le, cmpF_lt, cmpF_ge, cmpF_eq, cmpF_ne, cmpF_in, cmpF_nin, cmpF_eqb, cmpF_neb, inF_dL, inF_lst, inF_tup, truth_bl, truth_int, bindT_nm, bindT_tt, bindT_tl, bindTs_nil, bindTs_nm, seqF_tup, seqF_lst, Option.map_some, Option.map_none, if_true, if_false, Bool.false_eq_true, Nat.reduceAdd, Nat.reduceSub, Nat.reduceEqDiff, Nat.zero_add, binF_add, binF_sub, isi_bool_non, isi_bool_bl, isi_bool_int, isi_bool_str, isi_bool_tup, isi_bool_lst, isi_int_non, isi_int_bl, isi_int_int, isi_int_str, isi_int_tup, isi_int_lst, isi_str_non, isi_str_bl, isi_str_int, isi_str_str, isi_str_tup, isi_str_lst, isi_tuple_non, isi_tuple_bl, isi_tuple_int, isi_tuple_str, isi_tuple_tup, isi_tuple_lst, isi_list_non, isi_list_bl, isi_list_int, isi_list_str, isi_list_tup, isi_list_lst, isi_dict_non, isi_dict_bl, isi_dict_int, isi_dict_str, isi_dict_tup, isi_dict_lst, bnot_bl, Bool.not_true, Bool.not_false, biF_len, biF_list, biF_tuple, biF_sorted, biF_sortedt, biF_all, biF_any, biF_sum, biF_min, biF_max, biF_min2, biF_max2, biF_int, biF_abs, lenF_tup, lenF_lst, szOk0, szOk1, szOk2, szOk3, szOk4, szOk5, szOk6, number_map, Int.cast_ofNat_Int, Int.reduceBEq, Int.reduceBNe, Int.reduceLT, Int.reduceLE, Int.reduceSub, Int.reduceAdd, Int.reduceNeg, decide_true, decide_false, beq_self_eq_true, Int.natCast_zero, Int.natCast_one, h1']; rfl) ⟨p2, _, _, _, _, _, _, rfl⟩
  · intro x hx
    refine ⟨_, rfl, ?_⟩
    simp only [start, List.length_cons, List.length_nil, exSs_nil, exSs_cons, exS_asg, exS_asgO, exS_par, exS_exp, exS_frz, exS_retv, exS_reto, exS_ite, exS_pass, goOn_nx, goOn_rt, fin_nx, fin_rt, frzF_own, frzF_val, getOwn_own, ev_var, ev_pk, ev_cst, ev_glb, ev_bin, ev_not, ev_neg, negF_int, ev_cmp, ev_cmp2, ev_cmp3, ev_and, ev_or, ev_ite, ev_tup, ev_lst, ev_idx, ev_slc, ev_call0, ev_callk, ev_lrng, ev_bi, ev_isi, evs_nil, evs_cons, evD_nil, evD_f, evD_t, evT_nil, evT_cons, evI_seq, evI_rng, evI_enm, elimS, condT, condF, condB, okb, Res.none_bind, Res.bind_assoc, liftS, slot, put, getAny, getVal, List.map_cons, List.map_nil, List.replicate, List.cons_append, List.nil_append, List.append_nil, dr_cell, dr_dP, dr_dI, dr_dL, dr_dW, dr_int, dr_bl, dr_tup, dr_lst, dr_non, dr_str, drs, idxF_lst0, idxF_lst1, idxF_lst2, idxF_tup0, idxF_tup1, idxF_tup2, cmpF_gt, cmpF_le, cmpF_lt, cmpF_ge, cmpF_eq, cmpF_ne, cmpF_in, cmpF_nin, cmpF_eqb, cmpF_neb, inF_dL, inF_lst, inF_tup, truth_bl, truth_int, bindT_nm, bindT_tt, bindT_tl, bindTs_nil, bindTs_nm, seqF_tup, seqF_lst, Option.map_some, Option.map_none, if_true, if_false, Bool.false_eq_true, Nat.reduceAdd, Nat.reduceSub, Nat.reduceEqDiff, Nat.zero_add, binF_add, binF_sub, isi_bool_non, isi_bool_bl, isi_bool_int, isi_bool_str, isi_bool_tup, isi_bool_lst, isi_int_non, isi_int_bl, isi_int_int, isi_int_str, isi_int_tup, isi_int_lst, isi_str_non, isi_str_bl, isi_str_int, isi_str_str, isi_str_tup, isi_str_lst, isi_tuple_non, isi_tuple_bl, isi_tuple_int, isi_tuple_str, isi_tuple_tup, isi_tuple_lst, isi_list_non, isi_list_bl, isi_list_int, isi_list_str, isi_list_tup, isi_list_lst, isi_dict_non, isi_dict_bl, isi_dict_int, isi_dict_str, isi_dict_tup, isi_dict_lst, bnot_bl, Bool.not_true, Bool.not_false, biF_len, biF_list, biF_tuple, biF_sorted, biF_sortedt, biF_all, biF_any, biF_sum, biF_min, biF_max, biF_min2, biF_max2, biF_int, biF_abs, lenF_tup, lenF_lst, szOk0, szOk1, szOk2, szOk3, szOk4, szOk5, szOk6, number_map, Int.cast_ofNat_Int, Int.reduceBEq, Int.reduceBNe, Int.reduceLT, Int.reduceLE, Int.reduceSub, Int.reduceAdd, Int.reduceNeg, decide_true, decide_false, beq_self_eq_true, Int.natCast_zero, Int.natCast_one]
    have d3 : idxF (dW m ts) (.int 1) = some (.tup (ts.map dP)) := rfl
    rw [ev_comp _ _ _ dP (fun q => inL [q.1, q.2] x) (fun _ => .int 1) ts (by simp only [start, List.length_cons, List.length_nil, exSs_nil, exSs_cons, exS_asg, exS_asgO, exS_par, exS_exp, exS_frz, exS_retv, exS_reto, exS_ite, exS_pass, goOn_nx, goOn_rt, fin_nx, fin_rt, frzF_own, frzF_val, getOwn_own, ev_var, ev_pk, ev_cst, ev_glb, ev_bin, ev_not, ev_neg, negF_int, ev_cmp, ev_cmp2, ev_cmp3, ev_and, ev_or, ev_ite, ev_tup, ev_lst, ev_idx, ev_slc, ev_call0, ev_callk, ev_lrng, ev_bi, ev_isi, evs_nil, evs_cons, evD_nil, evD_f, evD_t, evT_nil, evT_cons, evI_seq, evI_rng, evI_enm, elimS, condT, condF, condB, okb, Res.none_bind, Res.bind_assoc, liftS, slot, put, getAny, getVal, List.map_cons, List.map_nil, List.replicate, List.cons_append, List.nil_append, List.append_nil, dr_cell, dr_dP, dr_dI, dr_dL, dr_dW, dr_int, dr_bl, dr_tup, dr_lst, dr_non, dr_str, drs, idxF_lst0, idxF_lst1, idxF_lst2, idxF_tup0, idxF_tup1, idxF_tup2, cmpF_gt, cmpF_le, cmpF_lt, cmpF_ge, cmpF_eq, cmpF_ne, cmpF_in, cmpF_nin, cmpF_eqb, cmpF_neb, inF_dL, inF_lst, inF_tup, truth_bl, truth_int, bindT_nm, bindT_tt, bindT_tl, bindTs_nil, bindTs_nm, seqF_tup, seqF_lst, Option.map_some, Option.map_none, if_true, if_false, Bool.false_eq_true, Nat.reduceAdd, Nat.reduceSub, Nat.reduceEqDiff, Nat.zero_add, binF_add, binF_sub, isi_bool_non, isi_bool_bl, isi_bool_int, isi_bool_str, isi_bool_tup, isi_bool_lst, isi_int_non, isi_int_bl, isi_int_int, isi_int_str, isi_int_tup, isi_int_lst, isi_str_non, isi_str_bl, isi_str_int, isi_str_str, isi_str_tup, isi_str_lst, isi_tuple_non, isi_tuple_bl, isi_tuple_int, isi_tuple_str, isi_tuple_tup, isi_tuple_lst, isi_list_non, isi_list_bl, isi_list_int, isi_list_str, isi_list_tup, isi_list_lst, isi_dict_non, isi_dict_bl, isi_dict_int, isi_dict_str, isi_dict_tup, isi_dict_lst, bnot_bl, Bool.not_true, Bool.not_false, biF_len, biF_list, biF_tuple, biF_sorted, biF_sortedt, biF_all, biF_any, biF_sum, biF_min, biF_max, biF_min2, biF_max2, biF_int, biF_abs, lenF_tup, lenF_lst, szOk0, szOk1, szOk2, szOk3, szOk4, szOk5, szOk6, number_map, Int.cast_ofNat_Int, Int.reduceBEq, Int.reduceBNe, Int.reduceLT, Int.reduceLE, Int.reduceSub, Int.reduceAdd, Int.reduceNeg, decide_true, decide_false, beq_self_eq_true, Int.natCast_zero, Int.natCast_one, d3]) ?_ (szOk_le' (by omega))]
    · simp only [start, List.length_cons, List.length_nil, exSs_nil, exSs_cons, exS_asg, exS_asgO, exS_par, exS_exp, exS_frz, exS_retv, exS_reto, exS_ite, exS_pass, goOn_nx, goOn_rt, fin_nx, fin_rt, frzF_own, frzF_val, getOwn_own, ev_var, ev_pk, ev_cst, ev_glb, ev_bin, ev_not, ev_neg, negF_int, ev_cmp, ev_cmp2, ev_cmp3, ev_and, ev_or, ev_ite, ev_tup, ev_lst, ev_idx, ev_slc, ev_call0, ev_callk, ev_lrng, ev_bi, ev_isi, evs_nil, evs_cons, evD_nil, evD_f, evD_t, evT_nil, evT_cons, evI_seq, evI_rng, evI_enm, elimS, condT, condF, condB, okb, Res.none_bind, Res.bind_assoc, liftS, slot, put, getAny, getVal, List.map_cons, List.map_nil, List.replicate, List.cons_append, List.nil_append, List.append_nil, dr_cell, dr_dP, dr_dI, dr_dL, dr_dW, dr_int, dr_bl, dr_tup, dr_lst, dr_non, dr_str, drs, idxF_lst0, idxF_lst1, idxF_lst2, idxF_tup0, idxF_tup1, idxF_tup2, cmpF_gt, cmpF_le, cmpF_lt, cmpF_ge, cmpF_eq, cmpF_ne, cmpF_in, cmpF_nin, cmpF_eqb, cmpF_neb, inF_dL, inF_lst, inF_tup, truth_bl, truth_int, bindT_nm, bindT_tt, bindT_tl, bindTs_nil, bindTs_nm, seqF_tup, seqF_lst, Option.map_some, Option.map_none, if_true, if_false, Bool.false_eq_true, Nat.reduceAdd, Nat.reduceSub, Nat.reduceEqDiff, Nat.zero_add, binF_add, binF_sub, isi_bool_non, isi_bool_bl, isi_bool_int, isi_bool_str, isi_bool_tup, isi_bool_lst, isi_int_non, isi_int_bl, isi_int_int, isi_int_str, isi_int_tup, isi_int_lst, isi_str_non, isi_str_bl, isi_str_int, isi_str_str, isi_str_tup, isi_str_lst, isi_tuple_non, isi_tuple_bl, isi_tuple_int, isi_tuple_str, isi_tuple_tup, isi_tuple_lst, isi_list_non, isi_list_bl, isi_list_int, isi_list_str, isi_list_tup, isi_list_lst, isi_dict_non, isi_dict_bl, isi_dict_int, isi_dict_str, isi_dict_tup, isi_dict_lst, bnot_bl, Bool.not_true, Bool.not_false, biF_len, biF_list, biF_tuple, biF_sorted, biF_sortedt, biF_all, biF_any, biF_sum, biF_min, biF_max, biF_min2, biF_max2, biF_int, biF_abs, lenF_tup, lenF_lst, szOk0, szOk1, szOk2, szOk3, szOk4, szOk5, szOk6, number_map, Int.cast_ofNat_Int, Int.reduceBEq, Int.reduceBNe, Int.reduceLT, Int.reduceLE, Int.reduceSub, Int.reduceAdd, Int.reduceNeg, decide_true, decide_false, beq_self_eq_true, Int.natCast_zero, Int.natCast_one, List.length_map]
      rfl
    · intro q _
      refine ⟨_, rfl, ?_, fun _ => by simp only [start, List.length_cons, List.length_nil, exSs_nil, exSs_cons, exS_asg, exS_asgO, exS_par, exS_exp, exS_frz, exS_retv, exS_reto, exS_ite, exS_pass, goOn_nx, goOn_rt, fin_nx, fin_rt, frzF_own, frzF_val, getOwn_own, ev_var, ev_pk, ev_cst, ev_glb, ev_bin, ev_not, ev_neg, negF_int, ev_cmp, ev_cmp2, ev_cmp3, ev_and, ev_or, ev_ite, ev_tup, ev_lst, ev_idx, ev_slc, ev_call0, ev_callk, ev_lrng, ev_bi, ev_isi, evs_nil, evs_cons, evD_nil, evD_f, evD_t, evT_nil, evT_cons, evI_seq, evI_rng, evI_enm, elimS, condT, condF, condB, okb, Res.none_bind, Res.bind_assoc, liftS, slot, put, getAny, getVal, List.map_cons, List.map_nil, List.replicate, List.cons_append, List.nil_append, List.append_nil, dr_cell, dr_dP, dr_dI, dr_dL, dr_dW, dr_int, dr_bl, dr_tup, dr_lst, dr_non, dr_str, drs, idxF_lst0, idxF_lst1, idxF_lst2, idxF_tup0, idxF_tup1, idxF_tup2, cmpF_gt, cmpF_le, cmpF_lt, cmpF_ge, cmpF_eq, cmpF_ne, cmpF_in, cmpF_nin, cmpF_eqb, cmpF_neb, inF_dL, inF_lst, inF_tup, truth_bl, truth_int, bindT_nm, bindT_tt, bindT_tl, bindTs_nil, bindTs_nm, seqF_tup, seqF_lst, Option.map_some, Option.map_none, if_true, if_false, Bool.false_eq_true, Nat.reduceAdd, Nat.reduceSub, Nat.reduceEqDiff, Nat.zero_add, binF_add, binF_sub, isi_bool_non, isi_bool_bl, isi_bool_int, isi_bool_str, isi_bool_tup, isi_bool_lst, isi_int_non, isi_int_bl, isi_int_int, isi_int_str, isi_int_tup, isi_int_lst, isi_str_non, isi_str_bl, isi_str_int, isi_str_str, isi_str_tup, isi_str_lst, isi_tuple_non, isi_tuple_bl, isi_tuple_int, isi_tuple_str, isi_tuple_tup, isi_tuple_lst, isi_list_non, isi_list_bl, isi_list_int, isi_list_str, isi_list_tup, isi_list_lst, isi_dict_non, isi_dict_bl, isi_dict_int, isi_dict_str, isi_dict_tup, isi_dict_lst, bnot_bl, Bool.not_true, Bool.not_false, biF_len, biF_list, biF_tuple, biF_sorted, biF_sortedt, biF_all, biF_any, biF_sum, biF_min, biF_max, biF_min2, biF_max2, biF_int, biF_abs, lenF_tup, lenF_lst, szOk0, szOk1, szOk2, szOk3, szOk4, szOk5, szOk6, number_map, Int.cast_ofNat_Int, Int.reduceBEq, Int.reduceBNe, Int.reduceLT, Int.reduceLE, Int.reduceSub, Int.reduceAdd, Int.reduceNeg, decide_true, decide_false, beq_self_eq_true, Int.natCast_zero, Int.natCast_one]⟩
      simp only [start, List.length_cons, List.length_nil, exSs_nil, exSs_cons, exS_asg, exS_asgO, exS_par, exS_exp, exS_frz, exS_retv, exS_reto, exS_ite, exS_pass, goOn_nx, goOn_rt, fin_nx, fin_rt, frzF_own, frzF_val, getOwn_own, ev_var, ev_pk, ev_cst, ev_glb, ev_bin, ev_not, ev_neg, negF_int, ev_cmp, ev_cmp2, ev_cmp3, ev_and, ev_or, ev_ite, ev_tup, ev_lst, ev_idx, ev_slc, ev_call0, ev_callk, ev_lrng, ev_bi, ev_isi, evs_nil, evs_cons, evD_nil, evD_f, evD_t, evT_nil, evT_cons, evI_seq, evI_rng, evI_enm, elimS, condT, condF, condB, okb, Res.none_bind, Res.bind_assoc, liftS, slot, put, getAny, getVal, List.map_cons, List.map_nil, List.replicate, List.cons_append, List.nil_append, List.append_nil, dr_cell, dr_dP, dr_dI, dr_dL, dr_dW, dr_int, dr_bl, dr_tup, dr_lst, dr_non, dr_str, drs, idxF_lst0, idxF_lst1, idxF_lst2, idxF_tup0, idxF_tup1, idxF_tup2, cmpF_gt, cmpF_le, cmpF_lt, cmpF_ge, cmpF_eq, cmpF_ne, cmpF_in, cmpF_nin, cmpF_eqb, cmpF_neb, inF_dL, inF_lst, inF_tup, truth_bl, truth_int, bindT_nm, bindT_tt, bindT_tl, bindTs_nil, bindTs_nm, seqF_tup, seqF_lst, Option.map_some, Option.map_none, if_true, if_false, Bool.false_eq_true, Nat.reduceAdd, Nat.reduceSub, Nat.reduceEqDiff, Nat.zero_add, binF_add, binF_sub, isi_bool_non, isi_bool_bl, isi_bool_int, isi_bool_str, isi_bool_tup, isi_bool_lst, isi_int_non, isi_int_bl, isi_int_int, isi_int_str, isi_int_tup, isi_int_lst, isi_str_non, isi_str_bl, isi_str_int, isi_str_str, isi_str_tup, isi_str_lst, isi_tuple_non, isi_tuple_bl, isi_tuple_int, isi_tuple_str, isi_tuple_tup, isi_tuple_lst, isi_list_non, isi_list_bl, isi_list_int, isi_list_str, isi_list_tup, isi_list_lst, isi_dict_non, isi_dict_bl, isi_dict_int, isi_dict_str, isi_dict_tup, isi_dict_lst, bnot_bl, Bool.not_true, Bool.not_false, biF_len, biF_list, biF_tuple, biF_sorted, biF_sortedt, biF_all, biF_any, biF_sum, biF_min, biF_max, biF_min2, biF_max2, biF_int, biF_abs, lenF_tup, lenF_lst, szOk0, szOk1, szOk2, szOk3, szOk4, szOk5, szOk6, number_map, Int.cast_ofNat_Int, Int.reduceBEq, Int.reduceBNe, Int.reduceLT, Int.reduceLE, Int.reduceSub, Int.reduceAdd, Int.reduceNeg, decide_true, decide_false, beq_self_eq_true, Int.natCast_zero, Int.natCast_one, dI, inF_dP]
theorem last_s {n : Nat} (hn : 12 ≤ n) {s : Stt} {c : Nat} (hs : PoolAt s c) {m : Nat} {ts : List (Nat × Nat)} (w : WebOk m ts) (lap : D) (a2 a5 a6 a7 a8 a9 a10 a11 a12 a13 a14 a15 a16 : Slot) :
    (exSs ⟨callF T n, T.gl, T.wf⟩ bodyL [.val (.cell c), .val lap, a2, .val (dW m ts), .val (.int ts.length), a5, a6, a7, a8, a9, a10, a11, a12, a13, a14, a15, a16] s).Ok fun f s' => PoolAt s' c ∧ ∃ b8 b9 b10, f = .nx [.val (.cell c), .val lap, a2, .val (dW m ts), .val (.int ts.length), a5, a6, a7, b8, b9, b10, a11, a12, a13, a14, a15, a16] := by
  have := w.n2
  have := w.n7
  have := w.t1
  have := w.t12
  simp only [bodyL, start, List.length_cons, List.length_nil, exSs_nil, exSs_cons, exS_asg, exS_asgO, exS_par, exS_exp, exS_frz, exS_retv, exS_reto, exS_ite, exS_pass, goOn_nx, goOn_rt, fin_nx, fin_rt, frzF_own, frzF_val, getOwn_own, ev_var, ev_pk, ev_cst, ev_glb, ev_bin, ev_not, ev_neg, negF_int, ev_cmp, ev_cmp2, ev_cmp3, ev_and, ev_or, ev_ite, ev_tup, ev_lst, ev_idx, ev_slc, ev_call0, ev_callk, ev_lrng, ev_bi, ev_isi, evs_nil, evs_cons, evD_nil, evD_f, evD_t, evT_nil, evT_cons, evI_seq, evI_rng, evI_enm, elimS, condT, condF, condB, okb, Res.none_bind, Res.bind_assoc, liftS, slot, put, getAny, getVal, List.map_cons, List.map_nil, List.replicate, List.cons_append, List.nil_append, List.append_nil, dr_cell, dr_dP, dr_dI, dr_dL, dr_dW, dr_int, dr_bl, dr_tup, dr_lst, dr_non, dr_str, drs, idxF_lst0, idxF_lst1, idxF_lst2, idxF_tup0, idxF_tup1, idxF_tup2, cmpF_gt, cmpF_le, cmpF_lt, cmpF_ge, cmpF_eq, cmpF_ne, cmpF_in, cmpF_nin, cmpF_eqb, cmpF_neb, inF_dL, inF_lst, inF_tup, truth_bl, truth_int, bindT_nm, bindT_tt, bindT_tl, bindTs_nil, bindTs_nm, seqF_tup, seqF_lst, Option.map_some, Option.map_none, if_true, if_false, Bool.false_eq_true, Nat.reduceAdd, Nat.reduceSub, Nat.reduceEqDiff, Nat.zero_add, binF_add, binF_sub, isi_bool_non, isi_bool_bl, isi_bool_int, isi_bool_str, isi_bool_tup, isi_bool_lst, isi_int_non, isi_int_bl, isi_int_int, isi_int_str, isi_int_tup, isi_int_lst, isi_str_non, isi_str_bl, isi_str_int, isi_str_str, isi_str_tup, isi_str_lst, isi_tuple_non, isi_tuple_bl, isi_tuple_int, isi_tuple_str, isi_tuple_tup, isi_tuple_lst, isi_list_non, isi_list_bl, isi_list_int, isi_list_str, isi_list_tup, isi_list_lst, isi_dict_non, isi_dict_bl, isi_dict_int, isi_dict_str, isi_dict_tup, isi_dict_lst, bnot_bl, Bool.not_true, Bool.not_false, biF_len, biF_list, biF_tuple, biF_sorted, biF_sortedt, biF_all, biF_any, biF_sum, biF_min, biF_max, biF_min2, biF_max2, biF_int, biF_abs, lenF_tup, lenF_lst, szOk0, szOk1, szOk2, szOk3, szOk4, szOk5, szOk6, number_map, Int.cast_ofNat_Int, Int.reduceBEq, Int.reduceBNe, Int.reduceLT, Int.reduceLE, Int.reduceSub, Int.reduceAdd, Int.reduceNeg, decide_true, decide_false, beq_self_eq_true, Int.natCast_zero, Int.natCast_one]
  refine Res.Ok.bind (law_poles_s (n := n) (by omega) hs (by omega) (by omega)) ?_
  rintro _ s1 ⟨⟨p, q1, q2, rfl⟩, p1, f1⟩
  obtain ⟨k, k1, k2⟩ := width_s (n := n) (by omega) w (a := p.1) (b := p.2) (by omega) (by omega) (by omega)
  have ll := lots_length ts.length
  have lp : (lots ts.length).length ≤ 65536 := by
    rw [ll]
    exact Nat.pow_le_pow_right (by decide) (show ts.length ≤ 16 by omega)
  simp only [start, List.length_cons, List.length_nil, exSs_nil, exSs_cons, exS_asg, exS_asgO, exS_par, exS_exp, exS_frz, exS_retv, exS_reto, exS_ite, exS_pass, goOn_nx, goOn_rt, fin_nx, fin_rt, frzF_own, frzF_val, getOwn_own, ev_var, ev_pk, ev_cst, ev_glb, ev_bin, ev_not, ev_neg, negF_int, ev_cmp, ev_cmp2, ev_cmp3, ev_and, ev_or, ev_ite, ev_tup, ev_lst, ev_idx, ev_slc, ev_call0, ev_callk, ev_lrng, ev_bi, ev_isi, evs_nil, evs_cons, evD_nil, evD_f, evD_t, evT_nil, evT_cons, evI_seq, evI_rng, evI_enm, elimS, condT, condF, condB, okb, Res.none_bind, Res.bind_assoc, liftS, slot, put, getAny, getVal, List.map_cons, List.map_nil, List.replicate, List.cons_append, List.nil_append, List.append_nil, dr_cell, dr_dP, dr_dI, dr_dL, dr_dW, dr_int, dr_bl, dr_tup, dr_lst, dr_non, dr_str, drs, idxF_lst0, idxF_lst1, idxF_lst2, idxF_tup0, idxF_tup1, idxF_tup2, cmpF_gt, cmpF_le, cmpF_lt, cmpF_ge, cmpF_eq, cmpF_ne, cmpF_in, cmpF_nin, cmpF_eqb, cmpF_neb, inF_dL, inF_lst, inF_tup, truth_bl, truth_int, bindT_nm, bindT_tt, bindT_tl, bindTs_nil, bindTs_nm, seqF_tup, seqF_lst, Option.map_some, Option.map_none, if_true, if_false, Bool.false_eq_true, Nat.reduceAdd, Nat.reduceSub, Nat.reduceEqDiff, Nat.zero_add, binF_add, binF_sub, isi_bool_non, isi_bool_bl, isi_bool_int, isi_bool_str, isi_bool_tup, isi_bool_lst, isi_int_non, isi_int_bl, isi_int_int, isi_int_str, isi_int_tup, isi_int_lst, isi_str_non, isi_str_bl, isi_str_int, isi_str_str, isi_str_tup, isi_str_lst, isi_tuple_non, isi_tuple_bl, isi_tuple_int, isi_tuple_str, isi_tuple_tup, isi_tuple_lst, isi_list_non, isi_list_bl, isi_list_int, isi_list_str, isi_list_tup, isi_list_lst, isi_dict_non, isi_dict_bl, isi_dict_int, isi_dict_str, isi_dict_tup, isi_dict_lst, bnot_bl, Bool.not_true, Bool.not_false, biF_len, biF_list, biF_tuple, biF_sorted, biF_sortedt, biF_all, biF_any, biF_sum, biF_min, biF_max, biF_min2, biF_max2, biF_int, biF_abs, lenF_tup, lenF_lst, szOk0, szOk1, szOk2, szOk3, szOk4, szOk5, szOk6, number_map, Int.cast_ofNat_Int, Int.reduceBEq, Int.reduceBNe, Int.reduceLT, Int.reduceLE, Int.reduceSub, Int.reduceAdd, Int.reduceNeg, decide_true, decide_false, beq_self_eq_true, Int.natCast_zero, Int.natCast_one, dP]
  have c1 := fun s => law_lots_s (n := n) (by omega) (m := ts.length) (by omega) s
  rw [ev_comp _ _ _ dL (fun l => !joinsB m (pick ts (rest ts.length l)) p.1 p.2) dL (lots ts.length) (by simp only [start, List.length_cons, List.length_nil, exSs_nil, exSs_cons, exS_asg, exS_asgO, exS_par, exS_exp, exS_frz, exS_retv, exS_reto, exS_ite, exS_pass, goOn_nx, goOn_rt, fin_nx, fin_rt, frzF_own, frzF_val, getOwn_own, ev_var, ev_pk, ev_cst, ev_glb, ev_bin, ev_not, ev_neg, negF_int, ev_cmp, ev_cmp2, ev_cmp3, ev_and, ev_or, ev_ite, ev_tup, ev_lst, ev_idx, ev_slc, ev_call0, ev_callk, ev_lrng, ev_bi, ev_isi, evs_nil, evs_cons, evD_nil, evD_f, evD_t, evT_nil, evT_cons, evI_seq, evI_rng, evI_enm, elimS, condT, condF, condB, okb, Res.none_bind, Res.bind_assoc, liftS, slot, put, getAny, getVal, List.map_cons, List.map_nil, List.replicate, List.cons_append, List.nil_append, List.append_nil, dr_cell, dr_dP, dr_dI, dr_dL, dr_dW, dr_int, dr_bl, dr_tup, dr_lst, dr_non, dr_str, drs, idxF_lst0, idxF_lst1, idxF_lst2, idxF_tup0, idxF_tup1, idxF_tup2, cmpF_gt, cmpF_le, cmpF_lt, cmpF_ge, cmpF_eq, cmpF_ne, cmpF_in, cmpF_nin, cmpF_eqb, cmpF_neb, inF_dL, inF_lst, inF_tup, truth_bl, truth_int, bindT_nm, bindT_tt, bindT_tl, bindTs_nil, bindTs_nm, seqF_tup, seqF_lst, Option.map_some, Option.map_none, if_true, if_false, Bool.false_eq_true, Nat.reduceAdd, Nat.reduceSub, Nat.reduceEqDiff, Nat.zero_add, binF_add, binF_sub, isi_bool_non, isi_bool_bl, isi_bool_int, isi_bool_str, isi_bool_tup, isi_bool_lst, isi_int_non, isi_int_bl, isi_int_int, isi_int_str, isi_int_tup, isi_int_lst, isi_str_non, isi_str_bl, isi_str_int, isi_str_str, isi_str_tup, isi_str_lst, isi_tuple_non, isi_tuple_bl, isi_tuple_int, isi_tuple_str, isi_tuple_tup, isi_tuple_lst, isi_list_non, isi_list_bl, isi_list_int, isi_list_str, isi_list_tup, isi_list_lst, isi_dict_non, isi_dict_bl, isi_dict_int, isi_dict_str, isi_dict_tup, isi_dict_lst, bnot_bl, Bool.not_true, Bool.not_false, biF_len, biF_list, biF_tuple, biF_sorted, biF_sortedt, biF_all, biF_any, biF_sum, biF_min, biF_max, biF_min2, biF_max2, biF_int, biF_abs, lenF_tup, lenF_lst, szOk0, szOk1, szOk2, szOk3, szOk4, szOk5, szOk6, number_map, Int.cast_ofNat_Int, Int.reduceBEq, Int.reduceBNe, Int.reduceLT, Int.reduceLE, Int.reduceSub, Int.reduceAdd, Int.reduceNeg, decide_true, decide_false, beq_self_eq_true, Int.natCast_zero, Int.natCast_one, c1]) ?_ (szOk_le' (by omega))]
  · simp only [start, List.length_cons, List.length_nil, exSs_nil, exSs_cons, exS_asg, exS_asgO, exS_par, exS_exp, exS_frz, exS_retv, exS_reto, exS_ite, exS_pass, goOn_nx, goOn_rt, fin_nx, fin_rt, frzF_own, frzF_val, getOwn_own, ev_var, ev_pk, ev_cst, ev_glb, ev_bin, ev_not, ev_neg, negF_int, ev_cmp, ev_cmp2, ev_cmp3, ev_and, ev_or, ev_ite, ev_tup, ev_lst, ev_idx, ev_slc, ev_call0, ev_callk, ev_lrng, ev_bi, ev_isi, evs_nil, evs_cons, evD_nil, evD_f, evD_t, evT_nil, evT_cons, evI_seq, evI_rng, evI_enm, elimS, condT, condF, condB, okb, Res.none_bind, Res.bind_assoc, liftS, slot, put, getAny, getVal, List.map_cons, List.map_nil, List.replicate, List.cons_append, List.nil_append, List.append_nil, dr_cell, dr_dP, dr_dI, dr_dL, dr_dW, dr_int, dr_bl, dr_tup, dr_lst, dr_non, dr_str, drs, idxF_lst0, idxF_lst1, idxF_lst2, idxF_tup0, idxF_tup1, idxF_tup2, cmpF_gt, cmpF_le, cmpF_lt, cmpF_ge, cmpF_eq, cmpF_ne, cmpF_in, cmpF_nin, cmpF_eqb, cmpF_neb, inF_dL, inF_lst, inF_tup, truth_bl, truth_int, bindT_nm, bindT_tt, bindT_tl, bindTs_nil, bindTs_nm, seqF_tup, seqF_lst, Option.map_some, Option.map_none, if_true, if_false, Bool.false_eq_true, Nat.reduceAdd, Nat.reduceSub, Nat.reduceEqDiff, Nat.zero_add, binF_add, binF_sub, isi_bool_non, isi_bool_bl, isi_bool_int, isi_bool_str, isi_bool_tup, isi_bool_lst, isi_int_non, isi_int_bl, isi_int_int, isi_int_str, isi_int_tup, isi_int_lst, isi_str_non, isi_str_bl, isi_str_int, isi_str_str, isi_str_tup, isi_str_lst, isi_tuple_non, isi_tuple_bl, isi_tuple_int, isi_tuple_str, isi_tuple_tup, isi_tuple_lst, isi_list_non, isi_list_bl, isi_list_int, isi_list_str, isi_list_tup, isi_list_lst, isi_dict_non, isi_dict_bl, isi_dict_int, isi_dict_str, isi_dict_tup, isi_dict_lst, bnot_bl, Bool.not_true, Bool.not_false, biF_len, biF_list, biF_tuple, biF_sorted, biF_sortedt, biF_all, biF_any, biF_sum, biF_min, biF_max, biF_min2, biF_max2, biF_int, biF_abs, lenF_tup, lenF_lst, szOk0, szOk1, szOk2, szOk3, szOk4, szOk5, szOk6, number_map, Int.cast_ofNat_Int, Int.reduceBEq, Int.reduceBNe, Int.reduceLT, Int.reduceLE, Int.reduceSub, Int.reduceAdd, Int.reduceNeg, decide_true, decide_false, beq_self_eq_true, Int.natCast_zero, Int.natCast_one]
    obtain ⟨w1, w2⟩ := lots_w w.two (show p.1 < m by omega) k1
    obtain ⟨l0, l1, l2⟩ := w1
    obtain ⟨mm, e, ⟨y, hy, e1⟩, e2⟩ := minF_map (fun l : List Nat => l.length) ((lots ts.length).filter fun l => !joinsB m (pick ts (rest ts.length l)) p.1 p.2) (fun e => by rw [e] at l1; cases l1)
    have mk : mm = k := by
      have h1 := e2 l0 l1
      have h2 := w2 y hy
      omega
    subst mk
    have fl := List.length_filter_le (fun l => !joinsB m (pick ts (rest ts.length l)) p.1 p.2) (lots ts.length)
    simp only [start, List.length_cons, List.length_nil, exSs_nil, exSs_cons, exS_asg, exS_asgO, exS_par, exS_exp, exS_frz, exS_retv, exS_reto, exS_ite, exS_pass, goOn_nx, goOn_rt, fin_nx, fin_rt, frzF_own, frzF_val, getOwn_own, ev_var, ev_pk, ev_cst, ev_glb, ev_bin, ev_not, ev_neg, negF_int, ev_cmp, ev_cmp2, ev_cmp3, ev_and, ev_or, ev_ite, ev_tup, ev_lst, ev_idx, ev_slc, ev_call0, ev_callk, ev_lrng, ev_bi, ev_isi, evs_nil, evs_cons, evD_nil, evD_f, evD_t, evT_nil, evT_cons, evI_seq, evI_rng, evI_enm, elimS, condT, condF, condB, okb, Res.none_bind, Res.bind_assoc, liftS, slot, put, getAny, getVal, List.map_cons, List.map_nil, List.replicate, List.cons_append, List.nil_append, List.append_nil, dr_cell, dr_dP, dr_dI, dr_dL, dr_dW, dr_int, dr_bl, dr_tup, dr_lst, dr_non, dr_str, drs, idxF_lst0, idxF_lst1, idxF_lst2, idxF_tup0, idxF_tup1, idxF_tup2, cmpF_gt, cmpF_le, cmpF_lt, cmpF_ge, cmpF_eq, cmpF_ne, cmpF_in, cmpF_nin, cmpF_eqb, cmpF_neb, inF_dL, inF_lst, inF_tup, truth_bl, truth_int, bindT_nm, bindT_tt, bindT_tl, bindTs_nil, bindTs_nm, seqF_tup, seqF_lst, Option.map_some, Option.map_none, if_true, if_false, Bool.false_eq_true, Nat.reduceAdd, Nat.reduceSub, Nat.reduceEqDiff, Nat.zero_add, binF_add, binF_sub, isi_bool_non, isi_bool_bl, isi_bool_int, isi_bool_str, isi_bool_tup, isi_bool_lst, isi_int_non, isi_int_bl, isi_int_int, isi_int_str, isi_int_tup, isi_int_lst, isi_str_non, isi_str_bl, isi_str_int, isi_str_str, isi_str_tup, isi_str_lst, isi_tuple_non, isi_tuple_bl, isi_tuple_int, isi_tuple_str, isi_tuple_tup, isi_tuple_lst, isi_list_non, isi_list_bl, isi_list_int, isi_list_str, isi_list_tup, isi_list_lst, isi_dict_non, isi_dict_bl, isi_dict_int, isi_dict_str, isi_dict_tup, isi_dict_lst, bnot_bl, Bool.not_true, Bool.not_false, biF_len, biF_list, biF_tuple, biF_sorted, biF_sortedt, biF_all, biF_any, biF_sum, biF_min, biF_max, biF_min2, biF_max2, biF_int, biF_abs, lenF_tup, lenF_lst, szOk0, szOk1, szOk2, szOk3, szOk4, szOk5, szOk6, number_map, Int.cast_ofNat_Int, Int.reduceBEq, Int.reduceBNe, Int.reduceLT, Int.reduceLE, Int.reduceSub, Int.reduceAdd, Int.reduceNeg, decide_true, decide_false, beq_self_eq_true, Int.natCast_zero, Int.natCast_one, k2]
    rw [ev_comp0 _ _ _ dL (fun l => .int (l.length : Nat)) ((lots ts.length).filter fun l => !joinsB m (pick ts (rest ts.length l)) p.1 p.2) (by simp only [start, List.length_cons, List.length_nil, exSs_nil, exSs_cons, exS_asg, exS_asgO, exS_par, exS_exp, exS_frz, exS_retv, exS_reto, exS_ite, exS_pass, goOn_nx, goOn_rt, fin_nx, fin_rt, frzF_own, frzF_val, getOwn_own, ev_var, ev_pk, ev_cst, ev_glb, ev_bin, ev_not, ev_neg, negF_int, ev_cmp, ev_cmp2, ev_cmp3, ev_and, ev_or, ev_ite, ev_tup, ev_lst, ev_idx, ev_slc, ev_call0, ev_callk, ev_lrng, ev_bi, ev_isi, evs_nil, evs_cons, evD_nil, evD_f, evD_t, evT_nil, evT_cons, evI_seq, evI_rng, evI_enm, elimS, condT, condF, condB, okb, Res.none_bind, Res.bind_assoc, liftS, slot, put, getAny, getVal, List.map_cons, List.map_nil, List.replicate, List.cons_append, List.nil_append, List.append_nil, dr_cell, dr_dP, dr_dI, dr_dL, dr_dW, dr_int, dr_bl, dr_tup, dr_lst, dr_non, dr_str, drs, idxF_lst0, idxF_lst1, idxF_lst2, idxF_tup0, idxF_tup1, idxF_tup2, cmpF_gt, cmpF_le, cmpF_lt, cmpF_ge, cmpF_eq, cmpF_ne, cmpF_in, cmpF_nin, cmpF_eqb, cmpF_neb, inF_dL, inF_lst, inF_tup, truth_bl, truth_int, bindT_nm, bindT_tt, bindT_tl, bindTs_nil, bindTs_nm, seqF_tup, seqF_lst, Option.map_some, Option.map_none, if_true, if_false, Bool.false_eq_true, Nat.reduceAdd, Nat.reduceSub, Nat.reduceEqDiff, Nat.zero_add, binF_add, binF_sub, isi_bool_non, isi_bool_bl, isi_bool_int, isi_bool_str, isi_bool_tup, isi_bool_lst, isi_int_non, isi_int_bl, isi_int_int, isi_int_str, isi_int_tup, isi_int_lst, isi_str_non, isi_str_bl, isi_str_int, isi_str_str, isi_str_tup, isi_str_lst, isi_tuple_non, isi_tuple_bl, isi_tuple_int, isi_tuple_str, isi_tuple_tup, isi_tuple_lst, isi_list_non, isi_list_bl, isi_list_int, isi_list_str, isi_list_tup, isi_list_lst, isi_dict_non, isi_dict_bl, isi_dict_int, isi_dict_str, isi_dict_tup, isi_dict_lst, bnot_bl, Bool.not_true, Bool.not_false, biF_len, biF_list, biF_tuple, biF_sorted, biF_sortedt, biF_all, biF_any, biF_sum, biF_min, biF_max, biF_min2, biF_max2, biF_int, biF_abs, lenF_tup, lenF_lst, szOk0, szOk1, szOk2, szOk3, szOk4, szOk5, szOk6, number_map, Int.cast_ofNat_Int, Int.reduceBEq, Int.reduceBNe, Int.reduceLT, Int.reduceLE, Int.reduceSub, Int.reduceAdd, Int.reduceNeg, decide_true, decide_false, beq_self_eq_true, Int.natCast_zero, Int.natCast_one]) (fun l _ => ⟨_, rfl, by simp only [start, List.length_cons, List.length_nil, exSs_nil, exSs_cons, exS_asg, exS_asgO, exS_par, exS_exp, exS_frz, exS_retv, exS_reto, exS_ite, exS_pass, goOn_nx, goOn_rt, fin_nx, fin_rt, frzF_own, frzF_val, getOwn_own, ev_var, ev_pk, ev_cst, ev_glb, ev_bin, ev_not, ev_neg, negF_int, ev_cmp, ev_cmp2, ev_cmp3, ev_and, ev_or, ev_ite, ev_tup, ev_lst, ev_idx, ev_slc, ev_call0, ev_callk, ev_lrng, ev_bi, ev_isi, evs_nil, evs_cons, evD_nil, evD_f, evD_t, evT_nil, evT_cons, evI_seq, evI_rng, evI_enm, elimS, condT, condF, condB, okb, Res.none_bind, Res.bind_assoc, liftS, slot, put, getAny, getVal, List.map_cons, List.map_nil, List.replicate, List.cons_append, List.nil_append, List.append_nil, dr_cell, dr_dP, dr_dI, dr_dL, dr_dW, dr_int, dr_bl, dr_tup, dr_lst, dr_non, dr_str, drs, idxF_lst0, idxF_lst1, idxF_lst2, idxF_tup0, idxF_tup1, idxF_tup2, cmpF_gt, cmpF_le, cmpF_lt, cmpF_ge, cmpF_eq, cmpF_ne, cmpF_in, cmpF_nin, cmpF_eqb, cmpF_neb, inF_dL, inF_lst, inF_tup, truth_bl, truth_int, bindT_nm, bindT_tt, bindT_tl, bindTs_nil, bindTs_nm, seqF_tup, seqF_lst, Option.map_some, Option.map_none, if_true, if_false, Bool.false_eq_true, Nat.reduceAdd, Nat.reduceSub, Nat.reduceEqDiff, Nat.zero_add, binF_add, binF_sub, isi_bool_non, isi_bool_bl, isi_bool_int, isi_bool_str, isi_bool_tup, isi_bool_lst, isi_int_non, isi_int_bl, isi_int_int, isi_int_str, isi_int_tup, isi_int_lst, isi_str_non, isi_str_bl, isi_str_int, isi_str_str, isi_str_tup, isi_str_lst, isi_tuple_non, isi_tuple_bl, isi_tuple_int, isi_tuple_str, isi_tuple_tup, isi_tuple_lst, isi_list_non, isi_list_bl, isi_list_int, isi_list_str, isi_list_tup, isi_list_lst, isi_dict_non, isi_dict_bl, isi_dict_int, isi_dict_str, isi_dict_tup, isi_dict_lst, bnot_bl, Bool.not_true, Bool.not_false, biF_len, biF_list, biF_tuple, biF_sorted, biF_sortedt, biF_all, biF_any, biF_sum, biF_min, biF_max, biF_min2, biF_max2, biF_int, biF_abs, lenF_tup, lenF_lst, szOk0, szOk1, szOk2, szOk3, szOk4, szOk5, szOk6, number_map, Int.cast_ofNat_Int, Int.reduceBEq, Int.reduceBNe, Int.reduceLT, Int.reduceLE, Int.reduceSub, Int.reduceAdd, Int.reduceNeg, decide_true, decide_false, beq_self_eq_true, Int.natCast_zero, Int.natCast_one, dL, List.length_map]⟩) (szOk_le' (by omega))]
    refine .of_eq (by simp only [start, List.length_cons, List.length_nil, exSs_nil, exSs_cons, exS_asg, exS_asgO, exS_par, exS_exp, exS_frz, exS_retv, exS_reto, exS_ite, exS_pass, goOn_nx, goOn_rt, fin_nx, fin_rt, frzF_own, frzF_val, getOwn_own, ev_var, ev_pk, ev_cst, ev_glb, ev_bin, ev_not, ev_neg, negF_int, ev_cmp, ev_cmp2, ev_cmp3, ev_and, ev_or, ev_ite, ev_tup, ev_lst, ev_idx, ev_slc, ev_call0, ev_callk, ev_lrng, ev_bi, ev_isi, evs_nil, evs_cons, evD_nil, evD_f, evD_t, evT_nil, evT_cons, evI_seq, evI_rng, evI_enm, elimS, condT, condF, condB, okb, Res.none_bind, Res.bind_assoc, liftS, slot, put, getAny, getVal, List.map_cons, List.map_nil, List.replicate, List.cons_append, List.nil_append, List.append_nil, dr_cell, dr_dP, dr_dI, dr_dL, dr_dW, dr_int, dr_bl, dr_tup, dr_lst, dr_non, dr_str, drs, idxF_lst0, idxF_lst1, idxF_lst2, idxF_tup0, idxF_tup1, idxF_tup2, cmpF_gt, cmpF_le, cmpF_lt, cmpF_ge, cmpF_eq, cmpF_ne, cmpF_in, cmpF_nin, cmpF_eqb, cmpF_neb, inF_dL, inF_lst, inF_tup, truth_bl, truth_int, bindT_nm, bindT_tt, bindT_tl, bindTs_nil, bindTs_nm, seqF_tup, seqF_lst, Option.map_some, Option.map_none, if_true, if_false, Bool.false_eq_true, Nat.reduceAdd, Nat.reduceSub, Nat.reduceEqDiff, Nat.zero_add, binF_add, binF_sub, isi_bool_non, isi_bool_bl, isi_bool_int, isi_bool_str, isi_bool_tup, isi_bool_lst, isi_int_non, isi_int_bl, isi_int_int, isi_int_str, isi_int_tup, isi_int_lst, isi_str_non, isi_str_bl, isi_str_int, isi_str_str, isi_str_tup, isi_str_lst, isi_tuple_non, isi_tuple_bl, isi_tuple_int, isi_tuple_str, isi_tuple_tup, isi_tuple_lst, isi_list_non, isi_list_bl, isi_list_int, isi_list_str, isi_list_tup, isi_list_lst, isi_dict_non, isi_dict_bl, isi_dict_int, isi_dict_str, isi_dict_tup, isi_dict_lst, bnot_bl, Bool.not_true, Bool.not_false, biF_len, biF_list, biF_tuple, biF_sorted, biF_sortedt, biF_all, biF_any, biF_sum, biF_min, biF_max, biF_min2, biF_max2, biF_int, biF_abs, lenF_tup, lenF_lst, szOk0, szOk1, szOk2, szOk3, szOk4, szOk5, szOk6, number_map, Int.cast_ofNat_Int, Int.reduceBEq, Int.reduceBNe, Int.reduceLT, Int.reduceLE, Int.reduceSub, Int.reduceAdd, Int.reduceNeg, decide_true, decide_false, beq_self_eq_true, Int.natCast_zero, Int.natCast_one, e]; rfl) ⟨p1, _, _, _, rfl⟩
  · intro l hl
    obtain ⟨f, hf⟩ := lots_sub _ l hl
    refine ⟨_, rfl, ?_, fun _ => by simp only [start, List.length_cons, List.length_nil, exSs_nil, exSs_cons, exS_asg, exS_asgO, exS_par, exS_exp, exS_frz, exS_retv, exS_reto, exS_ite, exS_pass, goOn_nx, goOn_rt, fin_nx, fin_rt, frzF_own, frzF_val, getOwn_own, ev_var, ev_pk, ev_cst, ev_glb, ev_bin, ev_not, ev_neg, negF_int, ev_cmp, ev_cmp2, ev_cmp3, ev_and, ev_or, ev_ite, ev_tup, ev_lst, ev_idx, ev_slc, ev_call0, ev_callk, ev_lrng, ev_bi, ev_isi, evs_nil, evs_cons, evD_nil, evD_f, evD_t, evT_nil, evT_cons, evI_seq, evI_rng, evI_enm, elimS, condT, condF, condB, okb, Res.none_bind, Res.bind_assoc, liftS, slot, put, getAny, getVal, List.map_cons, List.map_nil, List.replicate, List.cons_append, List.nil_append, List.append_nil, dr_cell, dr_dP, dr_dI, dr_dL, dr_dW, dr_int, dr_bl, dr_tup, dr_lst, dr_non, dr_str, drs, idxF_lst0, idxF_lst1, idxF_lst2, idxF_tup0, idxF_tup1, idxF_tup2, cmpF_gt, cmpF_le, cmpF_lt, cmpF_ge, cmpF_eq, cmpF_ne, cmpF_in, cmpF_nin, cmpF_eqb, cmpF_neb, inF_dL, inF_lst, inF_tup, truth_bl, truth_int, bindT_nm, bindT_tt, bindT_tl, bindTs_nil, bindTs_nm, seqF_tup, seqF_lst, Option.map_some, Option.map_none, if_true, if_false, Bool.false_eq_true, Nat.reduceAdd, Nat.reduceSub, Nat.reduceEqDiff, Nat.zero_add, binF_add, binF_sub, isi_bool_non, isi_bool_bl, isi_bool_int, isi_bool_str, isi_bool_tup, isi_bool_lst, isi_int_non, isi_int_bl, isi_int_int, isi_int_str, isi_int_tup, isi_int_lst, isi_str_non, isi_str_bl, isi_str_int, isi_str_str, isi_str_tup, isi_str_lst, isi_tuple_non, isi_tuple_bl, isi_tuple_int, isi_tuple_str, isi_tuple_tup, isi_tuple_lst, isi_list_non, isi_list_bl, isi_list_int, isi_list_str, isi_list_tup, isi_list_lst, isi_dict_non, isi_dict_bl, isi_dict_int, isi_dict_str, isi_dict_tup, isi_dict_lst, bnot_bl, Bool.not_true, Bool.not_false, biF_len, biF_list, biF_tuple, biF_sorted, biF_sortedt, biF_all, biF_any, biF_sum, biF_min, biF_max, biF_min2, biF_max2, biF_int, biF_abs, lenF_tup, lenF_lst, szOk0, szOk1, szOk2, szOk3, szOk4, szOk5, szOk6, number_map, Int.cast_ofNat_Int, Int.reduceBEq, Int.reduceBNe, Int.reduceLT, Int.reduceLE, Int.reduceSub, Int.reduceAdd, Int.reduceNeg, decide_true, decide_false, beq_self_eq_true, Int.natCast_zero, Int.natCast_one]⟩
    simp only [start, List.length_cons, List.length_nil, exSs_nil, exSs_cons, exS_asg, exS_asgO, exS_par, exS_exp, exS_frz, exS_retv, exS_reto, exS_ite, exS_pass, goOn_nx, goOn_rt, fin_nx, fin_rt, frzF_own, frzF_val, getOwn_own, ev_var, ev_pk, ev_cst, ev_glb, ev_bin, ev_not, ev_neg, negF_int, ev_cmp, ev_cmp2, ev_cmp3, ev_and, ev_or, ev_ite, ev_tup, ev_lst, ev_idx, ev_slc, ev_call0, ev_callk, ev_lrng, ev_bi, ev_isi, evs_nil, evs_cons, evD_nil, evD_f, evD_t, evT_nil, evT_cons, evI_seq, evI_rng, evI_enm, elimS, condT, condF, condB, okb, Res.none_bind, Res.bind_assoc, liftS, slot, put, getAny, getVal, List.map_cons, List.map_nil, List.replicate, List.cons_append, List.nil_append, List.append_nil, dr_cell, dr_dP, dr_dI, dr_dL, dr_dW, dr_int, dr_bl, dr_tup, dr_lst, dr_non, dr_str, drs, idxF_lst0, idxF_lst1, idxF_lst2, idxF_tup0, idxF_tup1, idxF_tup2, cmpF_gt, cmpF_le, cmpF_lt, cmpF_ge, cmpF_eq, cmpF_ne, cmpF_in, cmpF_nin, cmpF_eqb, cmpF_neb, inF_dL, inF_lst, inF_tup, truth_bl, truth_int, bindT_nm, bindT_tt, bindT_tl, bindTs_nil, bindTs_nm, seqF_tup, seqF_lst, Option.map_some, Option.map_none, if_true, if_false, Bool.false_eq_true, Nat.reduceAdd, Nat.reduceSub, Nat.reduceEqDiff, Nat.zero_add, binF_add, binF_sub, isi_bool_non, isi_bool_bl, isi_bool_int, isi_bool_str, isi_bool_tup, isi_bool_lst, isi_int_non, isi_int_bl, isi_int_int, isi_int_str, isi_int_tup, isi_int_lst, isi_str_non, isi_str_bl, isi_str_int, isi_str_str, isi_str_tup, isi_str_lst, isi_tuple_non, isi_tuple_bl, isi_tuple_int, isi_tuple_str, isi_tuple_tup, isi_tuple_lst, isi_list_non, isi_list_bl, isi_list_int, isi_list_str, isi_list_tup, isi_list_lst, isi_dict_non, isi_dict_bl, isi_dict_int, isi_dict_str, isi_dict_tup, isi_dict_lst, bnot_bl, Bool.not_true, Bool.not_false, biF_len, biF_list, biF_tuple, biF_sorted, biF_sortedt, biF_all, biF_any, biF_sum, biF_min, biF_max, biF_min2, biF_max2, biF_int, biF_abs, lenF_tup, lenF_lst, szOk0, szOk1, szOk2, szOk3, szOk4, szOk5, szOk6, number_map, Int.cast_ofNat_Int, Int.reduceBEq, Int.reduceBNe, Int.reduceLT, Int.reduceLE, Int.reduceSub, Int.reduceAdd, Int.reduceNeg, decide_true, decide_false, beq_self_eq_true, Int.natCast_zero, Int.natCast_one]
    rw [ev_comp _ _ _ dI (fun x => !inL l x) dI (List.range ts.length) (by simp only [start, List.length_cons, List.length_nil, exSs_nil, exSs_cons, exS_asg, exS_asgO, exS_par, exS_exp, exS_frz, exS_retv, exS_reto, exS_ite, exS_pass, goOn_nx, goOn_rt, fin_nx, fin_rt, frzF_own, frzF_val, getOwn_own, ev_var, ev_pk, ev_cst, ev_glb, ev_bin, ev_not, ev_neg, negF_int, ev_cmp, ev_cmp2, ev_cmp3, ev_and, ev_or, ev_ite, ev_tup, ev_lst, ev_idx, ev_slc, ev_call0, ev_callk, ev_lrng, ev_bi, ev_isi, evs_nil, evs_cons, evD_nil, evD_f, evD_t, evT_nil, evT_cons, evI_seq, evI_rng, evI_enm, elimS, condT, condF, condB, okb, Res.none_bind, Res.bind_assoc, liftS, slot, put, getAny, getVal, List.map_cons, List.map_nil, List.replicate, List.cons_append, List.nil_append, List.append_nil, dr_cell, dr_dP, dr_dI, dr_dL, dr_dW, dr_int, dr_bl, dr_tup, dr_lst, dr_non, dr_str, drs, idxF_lst0, idxF_lst1, idxF_lst2, idxF_tup0, idxF_tup1, idxF_tup2, cmpF_gt, cmpF_le, cmpF_lt, cmpF_ge, cmpF_eq, cmpF_ne, cmpF_in, cmpF_nin, cmpF_eqb, cmpF_neb, inF_dL, inF_lst, inF_tup, truth_bl, truth_int, bindT_nm, bindT_tt, bindT_tl, bindTs_nil, bindTs_nm, seqF_tup, seqF_lst, Option.map_some, Option.map_none, if_true, if_false, Bool.false_eq_true, Nat.reduceAdd, Nat.reduceSub, Nat.reduceEqDiff, Nat.zero_add, binF_add, binF_sub, isi_bool_non, isi_bool_bl, isi_bool_int, isi_bool_str, isi_bool_tup, isi_bool_lst, isi_int_non, isi_int_bl, isi_int_int, isi_int_str, isi_int_tup, isi_int_lst, isi_str_non, isi_str_bl, isi_str_int, isi_str_str, isi_str_tup, isi_str_lst, isi_tuple_non, isi_tuple_bl, isi_tuple_int, isi_tuple_str, isi_tuple_tup, isi_tuple_lst, isi_list_non, isi_list_bl, isi_list_int, isi_list_str, isi_list_tup, isi_list_lst, isi_dict_non, isi_dict_bl, isi_dict_int, isi_dict_str, isi_dict_tup, isi_dict_lst, bnot_bl, Bool.not_true, Bool.not_false, biF_len, biF_list, biF_tuple, biF_sorted, biF_sortedt, biF_all, biF_any, biF_sum, biF_min, biF_max, biF_min2, biF_max2, biF_int, biF_abs, lenF_tup, lenF_lst, szOk0, szOk1, szOk2, szOk3, szOk4, szOk5, szOk6, number_map, Int.cast_ofNat_Int, Int.reduceBEq, Int.reduceBNe, Int.reduceLT, Int.reduceLE, Int.reduceSub, Int.reduceAdd, Int.reduceNeg, decide_true, decide_false, beq_self_eq_true, Int.natCast_zero, Int.natCast_one, rngF1' (m := ts.length) (by omega)]; rfl) (fun x hx => ⟨_, rfl, by simp only [start, List.length_cons, List.length_nil, exSs_nil, exSs_cons, exS_asg, exS_asgO, exS_par, exS_exp, exS_frz, exS_retv, exS_reto, exS_ite, exS_pass, goOn_nx, goOn_rt, fin_nx, fin_rt, frzF_own, frzF_val, getOwn_own, ev_var, ev_pk, ev_cst, ev_glb, ev_bin, ev_not, ev_neg, negF_int, ev_cmp, ev_cmp2, ev_cmp3, ev_and, ev_or, ev_ite, ev_tup, ev_lst, ev_idx, ev_slc, ev_call0, ev_callk, ev_lrng, ev_bi, ev_isi, evs_nil, evs_cons, evD_nil, evD_f, evD_t, evT_nil, evT_cons, evI_seq, evI_rng, evI_enm, elimS, condT, condF, condB, okb, Res.none_bind, Res.bind_assoc, liftS, slot, put, getAny, getVal, List.map_cons, List.map_nil, List.replicate, List.cons_append, List.nil_append, List.append_nil, dr_cell, dr_dP, dr_dI, dr_dL, dr_dW, dr_int, dr_bl, dr_tup, dr_lst, dr_non, dr_str, drs, idxF_lst0, idxF_lst1, idxF_lst2, idxF_tup0, idxF_tup1, idxF_tup2, cmpF_gt, cmpF_le, cmpF_lt, cmpF_ge, cmpF_eq, cmpF_ne, cmpF_in, cmpF_nin, cmpF_eqb, cmpF_neb, inF_dL, inF_lst, inF_tup, truth_bl, truth_int, bindT_nm, bindT_tt, bindT_tl, bindTs_nil, bindTs_nm, seqF_tup, seqF_lst, Option.map_some, Option.map_none, if_true, if_false, Bool.false_eq_true, Nat.reduceAdd, Nat.reduceSub, Nat.reduceEqDiff, Nat.zero_add, binF_add, binF_sub, isi_bool_non, isi_bool_bl, isi_bool_int, isi_bool_str, isi_bool_tup, isi_bool_lst, isi_int_non, isi_int_bl, isi_int_int, isi_int_str, isi_int_tup, isi_int_lst, isi_str_non, isi_str_bl, isi_str_int, isi_str_str, isi_str_tup, isi_str_lst, isi_tuple_non, isi_tuple_bl, isi_tuple_int, isi_tuple_str, isi_tuple_tup, isi_tuple_lst, isi_list_non, isi_list_bl, isi_list_int, isi_list_str, isi_list_tup, isi_list_lst, isi_dict_non, isi_dict_bl, isi_dict_int, isi_dict_str, isi_dict_tup, isi_dict_lst, bnot_bl, Bool.not_true, Bool.not_false, biF_len, biF_list, biF_tuple, biF_sorted, biF_sortedt, biF_all, biF_any, biF_sum, biF_min, biF_max, biF_min2, biF_max2, biF_int, biF_abs, lenF_tup, lenF_lst, szOk0, szOk1, szOk2, szOk3, szOk4, szOk5, szOk6, number_map, Int.cast_ofNat_Int, Int.reduceBEq, Int.reduceBNe, Int.reduceLT, Int.reduceLE, Int.reduceSub, Int.reduceAdd, Int.reduceNeg, decide_true, decide_false, beq_self_eq_true, Int.natCast_zero, Int.natCast_one, dI, inF_dL], fun _ => by simp only [start, List.length_cons, List.length_nil, exSs_nil, exSs_cons, exS_asg, exS_asgO, exS_par, exS_exp, exS_frz, exS_retv, exS_reto, exS_ite, exS_pass, goOn_nx, goOn_rt, fin_nx, fin_rt, frzF_own, frzF_val, getOwn_own, ev_var, ev_pk, ev_cst, ev_glb, ev_bin, ev_not, ev_neg, negF_int, ev_cmp, ev_cmp2, ev_cmp3, ev_and, ev_or, ev_ite, ev_tup, ev_lst, ev_idx, ev_slc, ev_call0, ev_callk, ev_lrng, ev_bi, ev_isi, evs_nil, evs_cons, evD_nil, evD_f, evD_t, evT_nil, evT_cons, evI_seq, evI_rng, evI_enm, elimS, condT, condF, condB, okb, Res.none_bind, Res.bind_assoc, liftS, slot, put, getAny, getVal, List.map_cons, List.map_nil, List.replicate, List.cons_append, List.nil_append, List.append_nil, dr_cell, dr_dP, dr_dI, dr_dL, dr_dW, dr_int, dr_bl, dr_tup, dr_lst, dr_non, dr_str, drs, idxF_lst0, idxF_lst1, idxF_lst2, idxF_tup0, idxF_tup1, idxF_tup2, cmpF_gt, cmpF_le, cmpF_lt, cmpF_ge, cmpF_eq, cmpF_ne, cmpF_in, cmpF_nin, cmpF_eqb, cmpF_neb, inF_dL, inF_lst, inF_tup, truth_bl, truth_int, bindT_nm, bindT_tt, bindT_tl, bindTs_nil, bindTs_nm, seqF_tup, seqF_lst, Option.map_some, Option.map_none, if_true, if_false, Bool.false_eq_true, Nat.reduceAdd, Nat.reduceSub, Nat.reduceEqDiff, Nat.zero_add, binF_add, binF_sub, isi_bool_non, isi_bool_bl, isi_bool_int, isi_bool_str, isi_bool_tup, isi_bool_lst, isi_int_non, isi_int_bl, isi_int_int, isi_int_str, isi_int_tup, isi_int_lst, isi_str_non, isi_str_bl, isi_str_int, isi_str_str, isi_str_tup, isi_str_lst, isi_tuple_non, isi_tuple_bl, isi_tuple_int, isi_tuple_str, isi_tuple_tup, isi_tuple_lst, isi_list_non, isi_list_bl, isi_list_int, isi_list_str, isi_list_tup, isi_list_lst, isi_dict_non, isi_dict_bl, isi_dict_int, isi_dict_str, isi_dict_tup, isi_dict_lst, bnot_bl, Bool.not_true, Bool.not_false, biF_len, biF_list, biF_tuple, biF_sorted, biF_sortedt, biF_all, biF_any, biF_sum, biF_min, biF_max, biF_min2, biF_max2, biF_int, biF_abs, lenF_tup, lenF_lst, szOk0, szOk1, szOk2, szOk3, szOk4, szOk5, szOk6, number_map, Int.cast_ofNat_Int, Int.reduceBEq, Int.reduceBNe, Int.reduceLT, Int.reduceLE, Int.reduceSub, Int.reduceAdd, Int.reduceNeg, decide_true, decide_false, beq_self_eq_true, Int.natCast_zero, Int.natCast_one]⟩) (szRange (by omega))]
    have rl : (rest ts.length l).length ≤ 12 := Nat.le_trans (List.length_filter_le ..) (by rw [List.length_range]; omega)
    have c2 := fun s => law_joins_s (n := n) (by omega) w (l := rest ts.length l) (fun x hx => List.mem_range.mp (List.mem_filter.mp hx).1) rl p.1 p.2 s
    unfold rest at c2
    simp only [start, List.length_cons, List.length_nil, exSs_nil, exSs_cons, exS_asg, exS_asgO, exS_par, exS_exp, exS_frz, exS_retv, exS_reto, exS_ite, exS_pass, goOn_nx, goOn_rt, fin_nx, fin_rt, frzF_own, frzF_val, getOwn_own, ev_var, ev_pk, ev_cst, ev_glb, ev_bin, ev_not, ev_neg, negF_int, ev_cmp, ev_cmp2, ev_cmp3, ev_and, ev_or, ev_ite, ev_tup, ev_lst, ev_idx, ev_slc, ev_call0, ev_callk, ev_lrng, ev_bi, ev_isi, evs_nil, evs_cons, evD_nil, evD_f, evD_t, evT_nil, evT_cons, evI_seq, evI_rng, evI_enm, elimS, condT, condF, condB, okb, Res.none_bind, Res.bind_assoc, liftS, slot, put, getAny, getVal, List.map_cons, List.map_nil, List.replicate, List.cons_append, List.nil_append, List.append_nil, dr_cell, dr_dP, dr_dI, dr_dL, dr_dW, dr_int, dr_bl, dr_tup, dr_lst, dr_non, dr_str, drs, idxF_lst0, idxF_lst1, idxF_lst2, idxF_tup0, idxF_tup1, idxF_tup2, cmpF_gt, cmpF_le, cmpF_lt, cmpF_ge, cmpF_eq, cmpF_ne, cmpF_in, cmpF_nin, cmpF_eqb, cmpF_neb, inF_dL, inF_lst, inF_tup, truth_bl, truth_int, bindT_nm, bindT_tt, bindT_tl, bindTs_nil, bindTs_nm, seqF_tup, seqF_lst, Option.map_some, Option.map_none, if_true, if_false, Bool.false_eq_true, Nat.reduceAdd, Nat.reduceSub, Nat.reduceEqDiff, Nat.zero_add, binF_add, binF_sub, isi_bool_non, isi_bool_bl, isi_bool_int, isi_bool_str, isi_bool_tup, isi_bool_lst, isi_int_non, isi_int_bl, isi_int_int, isi_int_str, isi_int_tup, isi_int_lst, isi_str_non, isi_str_bl, isi_str_int, isi_str_str, isi_str_tup, isi_str_lst, isi_tuple_non, isi_tuple_bl, isi_tuple_int, isi_tuple_str, isi_tuple_tup, isi_tuple_lst, isi_list_non, isi_list_bl, isi_list_int, isi_list_str, isi_list_tup, isi_list_lst, isi_dict_non, isi_dict_bl, isi_dict_int, isi_dict_str, isi_dict_tup, isi_dict_lst, bnot_bl, Bool.not_true, Bool.not_false, biF_len, biF_list, biF_tuple, biF_sorted, biF_sortedt, biF_all, biF_any, biF_sum, biF_min, biF_max, biF_min2, biF_max2, biF_int, biF_abs, lenF_tup, lenF_lst, szOk0, szOk1, szOk2, szOk3, szOk4, szOk5, szOk6, number_map, Int.cast_ofNat_Int, Int.reduceBEq, Int.reduceBNe, Int.reduceLT, Int.reduceLE, Int.reduceSub, Int.reduceAdd, Int.reduceNeg, decide_true, decide_false, beq_self_eq_true, Int.natCast_zero, Int.natCast_one, c2]
    rfl
end PyD.K42

namespace PyD.K42
open PySem PyD
def rightD : Def := ⟨1, 17, false, [
    .fr (.nm 1) (.rng [(.cst (.int 8))]) [.asg (.nm 3) (.call "_law_web" [(.var 0), (.cst (.int 6)), (.ite (.cmp .lt (.pk 1) (.cst (.int 5))) (.cst (.int 8)) (.cst (.int 6)))] []), .ite (.not (.call "_law_is_web" [(.var 3)] [])) [.ret none (.cst (.bl false))] [], .asg (.nm 4) (.bi .len [(.idx (.pk 3) (.cst (.int 1)))]), .fr (.nm 5) (.rng [(.cst (.int 5))]) bodyI, .ite (.cmp .gt (.pk 1) (.cst (.int 4))) bodyL []],
    .asg (.nm 2) (.tup [(false, (.cst (.int 4))), (false, (.tup [(false, (.tup [(false, (.cst (.int 0))), (false, (.cst (.int 1)))])), (false, (.tup [(false, (.cst (.int 0))), (false, (.cst (.int 2)))])), (false, (.tup [(false, (.cst (.int 1))), (false, (.cst (.int 2)))])), (false, (.tup [(false, (.cst (.int 1))), (false, (.cst (.int 3)))])), (false, (.tup [(false, (.cst (.int 2))), (false, (.cst (.int 3)))]))]))]),
    .ret none (.call "_law_same" [(.lst [(false, (.call "width" [(.var 2), (.cst (.int 0)), (.cst (.int 3))] [])), (false, (.call "width" [(.var 2), (.cst (.int 1)), (.cst (.int 2))] [])), (false, (.call "width" [(.tup [(false, (.cst (.int 3))), (false, (.tup [(false, (.tup [(false, (.cst (.int 0))), (false, (.cst (.int 1)))]))]))]), (.cst (.int 0)), (.cst (.int 2))] [])), (false, (.call "width" [(.tup [(false, (.cst (.int 2))), (false, (.bin .mul (.tup [(false, (.tup [(false, (.cst (.int 0))), (false, (.cst (.int 1)))]))]) (.cst (.int 12))))]), (.cst (.int 1)), (.cst (.int 0))] []))]), (.lst [(false, (.cst (.int 2))), (false, (.cst (.int 3))), (false, (.cst (.int 0))), (false, (.cst (.int 12)))])] [])]⟩
theorem fn_right : T.fn "_law_right" = some rightD := fn__law_right
theorem wAt {n : Nat} (hn : 12 ≤ n) {m : Nat} {ts : List (Nat × Nat)} (w : WebOk m ts) {a b k : Nat} (ha : a < m) (hb : b < m) (ne : a ≠ b) (h : IsW ts a b k) (s : Stt) : callF T n "width" [dW m ts, .int a, .int b] s = some (.ok (.int k), s) := by
  obtain ⟨j, j1, j2⟩ := width_s (n := n) (by omega) w ha hb ne
  rw [h.uniq j1]
  exact j2 s
theorem web1 : WebOk 4 [(0, 1), (0, 2), (1, 2), (1, 3), (2, 3)] := ⟨by decide, by decide, by decide, by decide, by decide, by decide⟩
theorem web2 : WebOk 3 [(0, 1)] := ⟨by decide, by decide, by decide, by decide, by decide, by decide⟩
theorem web3 : WebOk 2 (List.replicate 12 (0, 1)) := ⟨by decide, by decide, by decide, by decide, by decide, by decide⟩
theorem isw1 : IsW [(0, 1), (0, 2), (1, 2), (1, 3), (2, 3)] 0 3 2 := by
  refine ⟨⟨fun x => x == 0, rfl, rfl, rfl⟩, fun f h1 h2 => ?_⟩
  cases h3 : f 1 <;> cases h4 : f 2 <;> simp [cross, crossP, h1, h2, h3, h4]
theorem isw2 : IsW [(0, 1), (0, 2), (1, 2), (1, 3), (2, 3)] 1 2 3 := by
  refine ⟨⟨fun x => x == 1, rfl, rfl, rfl⟩, fun f h1 h2 => ?_⟩
  cases h3 : f 0 <;> cases h4 : f 3 <;> simp [cross, crossP, h1, h2, h3, h4]
theorem isw3 : IsW [(0, 1)] 0 2 0 := ⟨⟨fun x => x != 2, rfl, rfl, rfl⟩, fun f h1 h2 => Nat.zero_le _⟩
theorem isw4 : IsW (List.replicate 12 (0, 1)) 1 0 12 := by
  refine ⟨⟨fun x => x == 1, rfl, rfl, rfl⟩, fun f h1 h2 => ?_⟩
  simp [cross, crossP, h1, h2]
theorem law_right_s {n : Nat} (hn : 20 ≤ n) {s : Stt} {c : Nat} (hs : PoolAt s c) : (callF T n "_law_right" [.cell c] s).Ok fun r s' => r = .bl true := by
  rw [callF_run T (m := n - 1) (by omega) fn_right _ _ rfl]
  simp only [rightD, start, List.length_cons, List.length_nil, exSs_nil, exSs_cons, exS_asg, exS_asgO, exS_par, exS_exp, exS_frz, exS_retv, exS_reto, exS_ite, exS_pass, goOn_nx, goOn_rt, fin_nx, fin_rt, frzF_own, frzF_val, getOwn_own, ev_var, ev_pk, ev_cst, ev_glb, ev_bin, ev_not, ev_neg, negF_int, ev_cmp, ev_cmp2, ev_cmp3, ev_and, ev_or, ev_ite, ev_tup, ev_lst, ev_idx, ev_slc, ev_call0, ev_callk, ev_lrng, ev_bi, ev_isi, evs_nil, evs_cons, evD_nil, evD_f, evD_t, evT_nil, evT_cons, evI_seq, evI_rng, evI_enm, elimS, condT, condF, condB, okb, Res.none_bind, Res.bind_assoc, liftS, slot, put, getAny, getVal, List.map_cons, List.map_nil, List.replicate, List.cons_append, List.nil_append, List.append_nil, dr_cell, dr_dP, dr_dI, dr_dL, dr_dW, dr_int, dr_bl, dr_tup, dr_lst, dr_non, dr_str, drs, idxF_lst0, idxF_lst1, idxF_lst2, idxF_tup0, idxF_tup1, idxF_tup2, cmpF_gt, cmpF_le, cmpF_lt, cmpF_ge, cmpF_eq, cmpF_ne, cmpF_in, cmpF_nin, cmpF_eqb, cmpF_neb, inF_dL, inF_lst, inF_tup, truth_bl, truth_int, bindT_nm, bindT_tt, bindT_tl, bindTs_nil, bindTs_nm, seqF_tup, seqF_lst, Option.map_some, Option.map_none, if_true, if_false, Bool.false_eq_true, Nat.reduceAdd, Nat.reduceSub, Nat.reduceEqDiff, Nat.zero_add, binF_add, binF_sub, isi_bool_non, isi_bool_bl, isi_bool_int, isi_bool_str, isi_bool_tup, isi_bool_lst, isi_int_non, isi_int_bl, isi_int_int, isi_int_str, isi_int_tup, isi_int_lst, isi_str_non, isi_str_bl, isi_str_int, isi_str_str, isi_str_tup, isi_str_lst, isi_tuple_non, isi_tuple_bl, isi_tuple_int, isi_tuple_str, isi_tuple_tup, isi_tuple_lst, isi_list_non, isi_list_bl, isi_list_int, isi_list_str, isi_list_tup, isi_list_lst, isi_dict_non, isi_dict_bl, isi_dict_int, isi_dict_str, isi_dict_tup, isi_dict_lst, bnot_bl, Bool.not_true, Bool.not_false, biF_len, biF_list, biF_tuple, biF_sorted, biF_sortedt, biF_all, biF_any, biF_sum, biF_min, biF_max, biF_min2, biF_max2, biF_int, biF_abs, lenF_tup, lenF_lst, szOk0, szOk1, szOk2, szOk3, szOk4, szOk5, szOk6, number_map, Int.cast_ofNat_Int, Int.reduceBEq, Int.reduceBNe, Int.reduceLT, Int.reduceLE, Int.reduceSub, Int.reduceAdd, Int.reduceNeg, decide_true, decide_false, beq_self_eq_true, Int.natCast_zero, Int.natCast_one]
  refine exS_ok _ _ _ (fun i : Nat => D.int (i : Int)) (fun _ env s => PoolAt s c ∧ ∃ a1 a2 a3 a4 a5 a6 a7 a8 a9 a10 a11 a12 a13 a14 a15 a16, env = [Slot.val (.cell c), a1, a2, a3, a4, a5, a6, a7, a8, a9, a10, a11, a12, a13, a14, a15, a16]) (List.range 8) (s1 := s) (by
    have := rngF1' (m := 8) (by decide)
    simp only [start, List.length_cons, List.length_nil, exSs_nil, exSs_cons, exS_asg, exS_asgO, exS_par, exS_exp, exS_frz, exS_retv, exS_reto, exS_ite, exS_pass, goOn_nx, goOn_rt, fin_nx, fin_rt, frzF_own, frzF_val, getOwn_own, ev_var, ev_pk, ev_cst, ev_glb, ev_bin, ev_not, ev_neg, negF_int, ev_cmp, ev_cmp2, ev_cmp3, ev_and, ev_or, ev_ite, ev_tup, ev_lst, ev_idx, ev_slc, ev_call0, ev_callk, ev_lrng, ev_bi, ev_isi, evs_nil, evs_cons, evD_nil, evD_f, evD_t, evT_nil, evT_cons, evI_seq, evI_rng, evI_enm, elimS, condT, condF, condB, okb, Res.none_bind, Res.bind_assoc, liftS, slot, put, getAny, getVal, List.map_cons, List.map_nil, List.replicate, List.cons_append, List.nil_append, List.append_nil, dr_cell, dr_dP, dr_dI, dr_dL, dr_dW, dr_int, dr_bl, dr_tup, dr_lst, dr_non, dr_str, drs, idxF_lst0, idxF_lst1, idxF_lst2, idxF_tup0, idxF_tup1, idxF_tup2, cmpF_gt, cmpF_le, cmpF_lt, cmpF_ge, cmpF_eq, cmpF_ne, cmpF_in, cmpF_nin, cmpF_eqb, cmpF_neb, inF_dL, inF_lst, inF_tup, truth_bl, truth_int, bindT_nm, bindT_tt, bindT_tl, bindTs_nil, bindTs_nm, seqF_tup, seqF_lst, Option.map_some, Option.map_none, if_true, if_false, Bool.false_eq_true, Nat.reduceAdd, Nat.reduceSub, Nat.reduceEqDiff, Nat.zero_add, binF_add, binF_sub, isi_bool_non, isi_bool_bl, isi_bool_int, isi_bool_str, isi_bool_tup, isi_bool_lst, isi_int_non, isi_int_bl, isi_int_int, isi_int_str, isi_int_tup, isi_int_lst, isi_str_non, isi_str_bl, isi_str_int, isi_str_str, isi_str_tup, isi_str_lst, isi_tuple_non, isi_tuple_bl, isi_tuple_int, isi_tuple_str, isi_tuple_tup, isi_tuple_lst, isi_list_non, isi_list_bl, isi_list_int, isi_list_str, isi_list_tup, isi_list_lst, isi_dict_non, isi_dict_bl, isi_dict_int, isi_dict_str, isi_dict_tup, isi_dict_lst, bnot_bl, Bool.not_true, Bool.not_false, biF_len, biF_list, biF_tuple, biF_sorted, biF_sortedt, biF_all, biF_any, biF_sum, biF_min, biF_max, biF_min2, biF_max2, biF_int, biF_abs, lenF_tup, lenF_lst, szOk0, szOk1, szOk2, szOk3, szOk4, szOk5, szOk6, number_map, Int.cast_ofNat_Int, Int.reduceBEq, Int.reduceBNe, Int.reduceLT, Int.reduceLE, Int.reduceSub, Int.reduceAdd, Int.reduceNeg, decide_true, decide_false, beq_self_eq_true, Int.natCast_zero, Int.natCast_one] at this ⊢
    simp only [this, start, List.length_cons, List.length_nil, exSs_nil, exSs_cons, exS_asg, exS_asgO, exS_par, exS_exp, exS_frz, exS_retv, exS_reto, exS_ite, exS_pass, goOn_nx, goOn_rt, fin_nx, fin_rt, frzF_own, frzF_val, getOwn_own, ev_var, ev_pk, ev_cst, ev_glb, ev_bin, ev_not, ev_neg, negF_int, ev_cmp, ev_cmp2, ev_cmp3, ev_and, ev_or, ev_ite, ev_tup, ev_lst, ev_idx, ev_slc, ev_call0, ev_callk, ev_lrng, ev_bi, ev_isi, evs_nil, evs_cons, evD_nil, evD_f, evD_t, evT_nil, evT_cons, evI_seq, evI_rng, evI_enm, elimS, condT, condF, condB, okb, Res.none_bind, Res.bind_assoc, liftS, slot, put, getAny, getVal, List.map_cons, List.map_nil, List.replicate, List.cons_append, List.nil_append, List.append_nil, dr_cell, dr_dP, dr_dI, dr_dL, dr_dW, dr_int, dr_bl, dr_tup, dr_lst, dr_non, dr_str, drs, idxF_lst0, idxF_lst1, idxF_lst2, idxF_tup0, idxF_tup1, idxF_tup2, cmpF_gt, cmpF_le, cmpF_lt, cmpF_ge, cmpF_eq, cmpF_ne, cmpF_in, cmpF_nin, cmpF_eqb, cmpF_neb, inF_dL, inF_lst, inF_tup, truth_bl, truth_int, bindT_nm, bindT_tt, bindT_tl, bindTs_nil, bindTs_nm, seqF_tup, seqF_lst, Option.map_some, Option.map_none, if_true, if_false, Bool.false_eq_true, Nat.reduceAdd, Nat.reduceSub, Nat.reduceEqDiff, Nat.zero_add, binF_add, binF_sub, isi_bool_non, isi_bool_bl, isi_bool_int, isi_bool_str, isi_bool_tup, isi_bool_lst, isi_int_non, isi_int_bl, isi_int_int, isi_int_str, isi_int_tup, isi_int_lst, isi_str_non, isi_str_bl, isi_str_int, isi_str_str, isi_str_tup, isi_str_lst, isi_tuple_non, isi_tuple_bl, isi_tuple_int, isi_tuple_str, isi_tuple_tup, isi_tuple_lst, isi_list_non, isi_list_bl, isi_list_int, isi_list_str, isi_list_tup, isi_list_lst, isi_dict_non, isi_dict_bl, isi_dict_int, isi_dict_str, isi_dict_tup, isi_dict_lst, bnot_bl, Bool.not_true, Bool.not_false, biF_len, biF_list, biF_tuple, biF_sorted, biF_sortedt, biF_all, biF_any, biF_sum, biF_min, biF_max, biF_min2, biF_max2, biF_int, biF_abs, lenF_tup, lenF_lst, szOk0, szOk1, szOk2, szOk3, szOk4, szOk5, szOk6, number_map, Int.cast_ofNat_Int, Int.reduceBEq, Int.reduceBNe, Int.reduceLT, Int.reduceLE, Int.reduceSub, Int.reduceAdd, Int.reduceNeg, decide_true, decide_false, beq_self_eq_true, Int.natCast_zero, Int.natCast_one]) ?_ ⟨hs, _, _, _, _, _, _, _, _, _, _, _, _, _, _, _, _, rfl⟩ ?_
  · rintro pre i post _ s er ⟨pa, a1, a2, a3, a4, a5, a6, a7, a8, a9, a10, a11, a12, a13, a14, a15, a16, rfl⟩
    refine ⟨_, rfl, ?_⟩
    have hmt : ∃ mt : Nat, 1 ≤ mt ∧ mt ≤ 12 ∧ ∀ s : Stt, (cond (decide ((i : Int) < 5)) (some (O.ok (D.int 8), s)) (some (O.ok (D.int 6), s)) : Res D) = some (.ok (.int mt), s) := by
      by_cases h : (i : Int) < 5
      · exact ⟨8, by decide, by decide, fun s => by rw [decide_eq_true h]; rfl⟩
      · exact ⟨6, by decide, by decide, fun s => by rw [decide_eq_false h]; rfl⟩
    obtain ⟨mt, m1, m2, m3⟩ := hmt
    simp only [start, List.length_cons, List.length_nil, exSs_nil, exSs_cons, exS_asg, exS_asgO, exS_par, exS_exp, exS_frz, exS_retv, exS_reto, exS_ite, exS_pass, goOn_nx, goOn_rt, fin_nx, fin_rt, frzF_own, frzF_val, getOwn_own, ev_var, ev_pk, ev_cst, ev_glb, ev_bin, ev_not, ev_neg, negF_int, ev_cmp, ev_cmp2, ev_cmp3, ev_and, ev_or, ev_ite, ev_tup, ev_lst, ev_idx, ev_slc, ev_call0, ev_callk, ev_lrng, ev_bi, ev_isi, evs_nil, evs_cons, evD_nil, evD_f, evD_t, evT_nil, evT_cons, evI_seq, evI_rng, evI_enm, elimS, condT, condF, condB, okb, Res.none_bind, Res.bind_assoc, liftS, slot, put, getAny, getVal, List.map_cons, List.map_nil, List.replicate, List.cons_append, List.nil_append, List.append_nil, dr_cell, dr_dP, dr_dI, dr_dL, dr_dW, dr_int, dr_bl, dr_tup, dr_lst, dr_non, dr_str, drs, idxF_lst0, idxF_lst1, idxF_lst2, idxF_tup0, idxF_tup1, idxF_tup2, cmpF_gt, cmpF_le, cmpF_lt, cmpF_ge, cmpF_eq, cmpF_ne, cmpF_in, cmpF_nin, cmpF_eqb, cmpF_neb, inF_dL, inF_lst, inF_tup, truth_bl, truth_int, bindT_nm, bindT_tt, bindT_tl, bindTs_nil, bindTs_nm, seqF_tup, seqF_lst, Option.map_some, Option.map_none, if_true, if_false, Bool.false_eq_true, Nat.reduceAdd, Nat.reduceSub, Nat.reduceEqDiff, Nat.zero_add, binF_add, binF_sub, isi_bool_non, isi_bool_bl, isi_bool_int, isi_bool_str, isi_bool_tup, isi_bool_lst, isi_int_non, isi_int_bl, isi_int_int, isi_int_str, isi_int_tup, isi_int_lst, isi_str_non, isi_str_bl, isi_str_int, isi_str_str, isi_str_tup, isi_str_lst, isi_tuple_non, isi_tuple_bl, isi_tuple_int, isi_tuple_str, isi_tuple_tup, isi_tuple_lst, isi_list_non, isi_list_bl, isi_list_int, isi_list_str, isi_list_tup, isi_list_lst, isi_dict_non, isi_dict_bl, isi_dict_int, isi_dict_str, isi_dict_tup, isi_dict_lst, bnot_bl, Bool.not_true, Bool.not_false, biF_len, biF_list, biF_tuple, biF_sorted, biF_sortedt, biF_all, biF_any, biF_sum, biF_min, biF_max, biF_min2, biF_max2, biF_int, biF_abs, lenF_tup, lenF_lst, szOk0, szOk1, szOk2, szOk3, szOk4, szOk5, szOk6, number_map, Int.cast_ofNat_Int, Int.reduceBEq, Int.reduceBNe, Int.reduceLT, Int.reduceLE, Int.reduceSub, Int.reduceAdd, Int.reduceNeg, decide_true, decide_false, beq_self_eq_true, Int.natCast_zero, Int.natCast_one, m3]
    refine Res.Ok.bind (law_web_s (n := n - 1) (by omega) pa (mp := 6) (mt := mt) (by decide) (by decide) m1 m2) ?_
    rintro _ s1 ⟨⟨m, ts, rfl, w, _, _⟩, p1⟩
    have c1 := fun s => law_is_web_s (n := n - 1) (by omega) w s
    have d1 : idxF (dW m ts) (.int 1) = some (.tup (ts.map dP)) := rfl
    simp only [start, List.length_cons, List.length_nil, exSs_nil, exSs_cons, exS_asg, exS_asgO, exS_par, exS_exp, exS_frz, exS_retv, exS_reto, exS_ite, exS_pass, goOn_nx, goOn_rt, fin_nx, fin_rt, frzF_own, frzF_val, getOwn_own, ev_var, ev_pk, ev_cst, ev_glb, ev_bin, ev_not, ev_neg, negF_int, ev_cmp, ev_cmp2, ev_cmp3, ev_and, ev_or, ev_ite, ev_tup, ev_lst, ev_idx, ev_slc, ev_call0, ev_callk, ev_lrng, ev_bi, ev_isi, evs_nil, evs_cons, evD_nil, evD_f, evD_t, evT_nil, evT_cons, evI_seq, evI_rng, evI_enm, elimS, condT, condF, condB, okb, Res.none_bind, Res.bind_assoc, liftS, slot, put, getAny, getVal, List.map_cons, List.map_nil, List.replicate, List.cons_append, List.nil_append, List.append_nil, dr_cell, dr_dP, dr_dI, dr_dL, dr_dW, dr_int, dr_bl, dr_tup, dr_lst, dr_non, dr_str, drs, idxF_lst0, idxF_lst1, idxF_lst2, idxF_tup0, idxF_tup1, idxF_tup2, cmpF_gt, cmpF_le, cmpF_lt, cmpF_ge, cmpF_eq, cmpF_ne, cmpF_in, cmpF_nin, cmpF_eqb, cmpF_neb, inF_dL, inF_lst, inF_tup, truth_bl, truth_int, bindT_nm, bindT_tt, bindT_tl, bindTs_nil, bindTs_nm, seqF_tup, seqF_lst, Option.map_some, Option.map_none, if_true, if_false, Bool.false_eq_true, Nat.reduceAdd, Nat.reduceSub, Nat.reduceEqDiff, Nat.zero_add, binF_add, binF_sub, isi_bool_non, isi_bool_bl, isi_bool_int, isi_bool_str, isi_bool_tup, isi_bool_lst, isi_int_non, isi_int_bl, isi_int_int, isi_int_str, isi_int_tup, isi_int_lst, isi_str_non, isi_str_bl, isi_str_int, isi_str_str, isi_str_tup, isi_str_lst, isi_tuple_non, isi_tuple_bl, isi_tuple_int, isi_tuple_str, isi_tuple_tup, isi_tuple_lst, isi_list_non, isi_list_bl, isi_list_int, isi_list_str, isi_list_tup, isi_list_lst, isi_dict_non, isi_dict_bl, isi_dict_int, isi_dict_str, isi_dict_tup, isi_dict_lst, bnot_bl, Bool.not_true, Bool.not_false, biF_len, biF_list, biF_tuple, biF_sorted, biF_sortedt, biF_all, biF_any, biF_sum, biF_min, biF_max, biF_min2, biF_max2, biF_int, biF_abs, lenF_tup, lenF_lst, szOk0, szOk1, szOk2, szOk3, szOk4, szOk5, szOk6, number_map, Int.cast_ofNat_Int, Int.reduceBEq, Int.reduceBNe, Int.reduceLT, Int.reduceLE, Int.reduceSub, Int.reduceAdd, Int.reduceNeg, decide_true, decide_false, beq_self_eq_true, Int.natCast_zero, Int.natCast_one, c1, d1, List.length_map]
    refine exS_ok _ _ _ (fun i : Nat => D.int (i : Int)) (fun _ env s => PoolAt s c ∧ ∃ b5 b6 b7 b9 b10 b11 b12, env = [Slot.val (.cell c), .val (.int i), a2, .val (dW m ts), .val (.int ts.length), b5, b6, b7, a8, b9, b10, b11, b12, a13, a14, a15, a16]) (List.range 5) (s1 := s1) (by
      have := rngF1' (m := 5) (by decide)
      simp only [start, List.length_cons, List.length_nil, exSs_nil, exSs_cons, exS_asg, exS_asgO, exS_par, exS_exp, exS_frz, exS_retv, exS_reto, exS_ite, exS_pass, goOn_nx, goOn_rt, fin_nx, fin_rt, frzF_own, frzF_val, getOwn_own, ev_var, ev_pk, ev_cst, ev_glb, ev_bin, ev_not, ev_neg, negF_int, ev_cmp, ev_cmp2, ev_cmp3, ev_and, ev_or, ev_ite, ev_tup, ev_lst, ev_idx, ev_slc, ev_call0, ev_callk, ev_lrng, ev_bi, ev_isi, evs_nil, evs_cons, evD_nil, evD_f, evD_t, evT_nil, evT_cons, evI_seq, evI_rng, evI_enm, elimS, condT, condF, condB, okb, Res.none_bind, Res.bind_assoc, liftS, slot, put, getAny, getVal, List.map_cons, List.map_nil, List.replicate, List.cons_append, List.nil_append, List.append_nil, dr_cell, dr_dP, dr_dI, dr_dL, dr_dW, dr_int, dr_bl, dr_tup, dr_lst, dr_non, dr_str, drs, idxF_lst0, idxF_lst1, idxF_lst2, idxF_tup0, idxF_tup1, idxF_tup2, cmpF_gt, cmpF_le, cmpF_lt, cmpF_ge, cmpF_eq, cmpF_ne, cmpF_in, cmpF_nin, cmpF_eqb, cmpF_neb, inF_dL, inF_lst, inF_tup, truth_bl, truth_int, bindT_nm, bindT_tt, bindT_tl, bindTs_nil, bindTs_nm, seqF_tup, seqF_lst, Option.map_some, Option.map_none, if_true, if_false, Bool.false_eq_true, Nat.reduceAdd, Nat.reduceSub, Nat.reduceEqDiff, Nat.zero_add, binF_add, binF_sub, isi_bool_non, isi_bool_bl, isi_bool_int, isi_bool_str, isi_bool_tup, isi_bool_lst, isi_int_non, isi_int_bl, isi_int_int, isi_int_str, isi_int_tup, isi_int_lst, isi_str_non, isi_str_bl, isi_str_int, isi_str_str, isi_str_tup, isi_str_lst, isi_tuple_non, isi_tuple_bl, isi_tuple_int, isi_tuple_str, isi_tuple_tup, isi_tuple_lst, isi_list_non, isi_list_bl, isi_list_int, isi_list_str, isi_list_tup, isi_list_lst, isi_dict_non, isi_dict_bl, isi_dict_int, isi_dict_str, isi_dict_tup, isi_dict_lst, bnot_bl, Bool.not_true, Bool.not_false, biF_len, biF_list, biF_tuple, biF_sorted, biF_sortedt, biF_all, biF_any, biF_sum, biF_min, biF_max, biF_min2, biF_max2, biF_int, biF_abs, lenF_tup, lenF_lst, szOk0, szOk1, szOk2, szOk3, szOk4, szOk5, szOk6, number_map, Int.cast_ofNat_Int, Int.reduceBEq, Int.reduceBNe, Int.reduceLT, Int.reduceLE, Int.reduceSub, Int.reduceAdd, Int.reduceNeg, decide_true, decide_false, beq_self_eq_true, Int.natCast_zero, Int.natCast_one] at this ⊢
      simp only [this, start, List.length_cons, List.length_nil, exSs_nil, exSs_cons, exS_asg, exS_asgO, exS_par, exS_exp, exS_frz, exS_retv, exS_reto, exS_ite, exS_pass, goOn_nx, goOn_rt, fin_nx, fin_rt, frzF_own, frzF_val, getOwn_own, ev_var, ev_pk, ev_cst, ev_glb, ev_bin, ev_not, ev_neg, negF_int, ev_cmp, ev_cmp2, ev_cmp3, ev_and, ev_or, ev_ite, ev_tup, ev_lst, ev_idx, ev_slc, ev_call0, ev_callk, ev_lrng, ev_bi, ev_isi, evs_nil, evs_cons, evD_nil, evD_f, evD_t, evT_nil, evT_cons, evI_seq, evI_rng, evI_enm, elimS, condT, condF, condB, okb, Res.none_bind, Res.bind_assoc, liftS, slot, put, getAny, getVal, List.map_cons, List.map_nil, List.replicate, List.cons_append, List.nil_append, List.append_nil, dr_cell, dr_dP, dr_dI, dr_dL, dr_dW, dr_int, dr_bl, dr_tup, dr_lst, dr_non, dr_str, drs, idxF_lst0, idxF_lst1, idxF_lst2, idxF_tup0, idxF_tup1, idxF_tup2, cmpF_gt, cmpF_le, cmpF_lt, cmpF_ge, cmpF_eq, cmpF_ne, cmpF_in, cmpF_nin, cmpF_eqb, cmpF_neb, inF_dL, inF_lst, inF_tup, truth_bl, truth_int, bindT_nm, bindT_tt, bindT_tl, bindTs_nil, bindTs_nm, seqF_tup, seqF_lst, Option.map_some, Option.map_none, if_true, if_false, Bool.false_eq_true, Nat.reduceAdd, Nat.reduceSub, Nat.reduceEqDiff, Nat.zero_add, binF_add, binF_sub, isi_bool_non, isi_bool_bl, isi_bool_int, isi_bool_str, isi_bool_tup, isi_bool_lst, isi_int_non, isi_int_bl, isi_int_int, isi_int_str, isi_int_tup, isi_int_lst, isi_str_non, isi_str_bl, isi_str_int, isi_str_str, isi_str_tup, isi_str_lst, isi_tuple_non, isi_tuple_bl, isi_tuple_int, isi_tuple_str, isi_tuple_tup, isi_tuple_lst, isi_list_non, isi_list_bl, isi_list_int, isi_list_str, isi_list_tup, isi_list_lst, isi_dict_non, isi_dict_bl, isi_dict_int, isi_dict_str, isi_dict_tup, isi_dict_lst, bnot_bl, Bool.not_true, Bool.not_false, biF_len, biF_list, biF_tuple, biF_sorted, biF_sortedt, biF_all, biF_any, biF_sum, biF_min, biF_max, biF_min2, biF_max2, biF_int, biF_abs, lenF_tup, lenF_lst, szOk0, szOk1, szOk2, szOk3, szOk4, szOk5, szOk6, number_map, Int.cast_ofNat_Int, Int.reduceBEq, Int.reduceBNe, Int.reduceLT, Int.reduceLE, Int.reduceSub, Int.reduceAdd, Int.reduceNeg, decide_true, decide_false, beq_self_eq_true, Int.natCast_zero, Int.natCast_one]) ?_ ⟨p1, _, _, _, _, _, _, _, rfl⟩ ?_
    · rintro pre j post _ s er ⟨pa, b5, b6, b7, b9, b10, b11, b12, rfl⟩
      refine ⟨_, rfl, (inner_s (n := n - 1) (by omega) pa w _ _ _ _ _ _ _ _ _ _ _ _ _ _).mono ?_⟩
      rintro _ s' ⟨p', c6, c7, c9, c10, c11, c12, rfl⟩
      exact ⟨_, rfl, p', _, _, _, _, _, _, _, rfl⟩
    · rintro _ s2 ⟨p2, b5, b6, b7, b9, b10, b11, b12, rfl⟩
      by_cases h : (4 : Int) < (i : Int)
      · simp only [start, List.length_cons, List.length_nil, exSs_nil, exSs_cons, exS_asg, exS_asgO, exS_par, exS_exp, exS_frz, exS_retv, exS_reto, exS_ite, exS_pass, goOn_nx, goOn_rt, fin_nx, fin_rt, frzF_own, frzF_val, getOwn_own, ev_var, ev_pk, ev_cst, ev_glb, ev_bin, ev_not, ev_neg, negF_int, ev_cmp, ev_cmp2, ev_cmp3, ev_and, ev_or, ev_ite, ev_tup, ev_lst, ev_idx, ev_slc, ev_call0, ev_callk, ev_lrng, ev_bi, ev_isi, evs_nil, evs_cons, evD_nil, evD_f, evD_t, evT_nil, evT_cons, evI_seq, evI_rng, evI_enm, elimS, condT, condF, condB, okb, Res.none_bind, Res.bind_assoc, liftS, slot, put, getAny, getVal, List.map_cons, List.map_nil, List.replicate, List.cons_append, List.nil_append, List.append_nil, dr_cell, dr_dP, dr_dI, dr_dL, dr_dW, dr_int, dr_bl, dr_tup, dr_lst, dr_non, dr_str, drs, idxF_lst0, idxF_lst1, idxF_lst2, idxF_tup0, idxF_tup1, idxF_tup2, cmpF_gt, cmpF_le, cmpF_lt, cmpF_ge, cmpF_eq, cmpF_ne, cmpF_in, cmpF_nin, cmpF_eqb, cmpF_neb, inF_dL, inF_lst, inF_tup, truth_bl, truth_int, bindT_nm, bindT_tt, bindT_tl, bindTs_nil, bindTs_nm, seqF_tup, seqF_lst, Option.map_some, Option.map_none, if_true, if_false, Bool.false_eq_true, Nat.reduceAdd, Nat.reduceSub, Nat.reduceEqDiff, Nat.zero_add, binF_add, binF_sub, isi_bool_non, isi_bool_bl, isi_bool_int, isi_bool_str, isi_bool_tup, isi_bool_lst, isi_int_non, isi_int_bl, isi_int_int, isi_int_str, isi_int_tup, isi_int_lst, isi_str_non, isi_str_bl, isi_str_int, isi_str_str, isi_str_tup, isi_str_lst, isi_tuple_non, isi_tuple_bl, isi_tuple_int, isi_tuple_str, isi_tuple_tup, isi_tuple_lst, isi_list_non, isi_list_bl, isi_list_int, isi_list_str, isi_list_tup, isi_list_lst, isi_dict_non, isi_dict_bl, isi_dict_int, isi_dict_str, isi_dict_tup, isi_dict_lst, bnot_bl, Bool.not_true, Bool.not_false, biF_len, biF_list, biF_tuple, biF_sorted, biF_sortedt, biF_all, biF_any, biF_sum, biF_min, biF_max, biF_min2, biF_max2, biF_int, biF_abs, lenF_tup, lenF_lst, szOk0, szOk1, szOk2, szOk3, szOk4, szOk5, szOk6, number_map, Int.cast_ofNat_Int, Int.reduceBEq, Int.reduceBNe, Int.reduceLT, Int.reduceLE, Int.reduceSub, Int.reduceAdd, Int.reduceNeg, decide_true, decide_false, beq_self_eq_true, Int.natCast_zero, Int.natCast_one, h]
        refine Res.Ok.bind (last_s (n := n - 1) (by omega) p2 w _ _ _ _ _ _ _ _ _ _ _ _ _ _) ?_
        rintro _ s' ⟨p', c8, c9, c10, rfl⟩
        simp only [start, List.length_cons, List.length_nil, exSs_nil, exSs_cons, exS_asg, exS_asgO, exS_par, exS_exp, exS_frz, exS_retv, exS_reto, exS_ite, exS_pass, goOn_nx, goOn_rt, fin_nx, fin_rt, frzF_own, frzF_val, getOwn_own, ev_var, ev_pk, ev_cst, ev_glb, ev_bin, ev_not, ev_neg, negF_int, ev_cmp, ev_cmp2, ev_cmp3, ev_and, ev_or, ev_ite, ev_tup, ev_lst, ev_idx, ev_slc, ev_call0, ev_callk, ev_lrng, ev_bi, ev_isi, evs_nil, evs_cons, evD_nil, evD_f, evD_t, evT_nil, evT_cons, evI_seq, evI_rng, evI_enm, elimS, condT, condF, condB, okb, Res.none_bind, Res.bind_assoc, liftS, slot, put, getAny, getVal, List.map_cons, List.map_nil, List.replicate, List.cons_append, List.nil_append, List.append_nil, dr_cell, dr_dP, dr_dI, dr_dL, dr_dW, dr_int, dr_bl, dr_tup, dr_lst, dr_non, dr_str, drs, idxF_lst0, idxF_lst1, idxF_lst2, idxF_tup0, idxF_tup1, idxF_tup2, cmpF_gt, cmpF_le, cmpF_lt, cmpF_ge, cmpF_eq, cmpF_ne, cmpF_in, cmpF_nin, cmpF_eqb, cmpF_neb, inF_dL, inF_lst, inF_tup, truth_bl, truth_int, bindT_nm, bindT_tt, bindT_tl, bindTs_nil, bindTs_nm, seqF_tup, seqF_lst, Option.map_some, Option.map_none, if_true, if_false, Bool.false_eq_true, Nat.reduceAdd, Nat.reduceSub, Nat.reduceEqDiff, Nat.zero_add, binF_add, binF_sub, isi_bool_non, isi_bool_bl, isi_bool_int, isi_bool_str, isi_bool_tup, isi_bool_lst, isi_int_non, isi_int_bl, isi_int_int, isi_int_str, isi_int_tup, isi_int_lst, isi_str_non, isi_str_bl, isi_str_int, isi_str_str, isi_str_tup, isi_str_lst, isi_tuple_non, isi_tuple_bl, isi_tuple_int, isi_tuple_str, isi_tuple_tup, isi_tuple_lst, isi_list_non, isi_list_bl, isi_list_int, isi_list_str, isi_list_tup, isi_list_lst, isi_dict_non, isi_dict_bl, isi_dict_int, isi_dict_str, isi_dict_tup, isi_dict_lst, bnot_bl, Bool.not_true, Bool.not_false, biF_len, biF_list, biF_tuple, biF_sorted, biF_sortedt, biF_all, biF_any, biF_sum, biF_min, biF_max, biF_min2, biF_max2, biF_int, biF_abs, lenF_tup, lenF_lst, szOk0, szOk1, szOk2, szOk3, szOk4, szOk5, szOk6, number_map, Int.cast_ofNat_Int, Int.reduceBEq, Int.reduceBNe, Int.reduceLT, Int.reduceLE, Int.reduceSub, Int.reduceAdd, Int.reduceNeg, decide_true, decide_false, beq_self_eq_true, Int.natCast_zero, Int.natCast_one]
        exact .ret ⟨_, rfl, p', _, _, _, _, _, _, _, _, _, _, _, _, _, _, _, _, rfl⟩
      · simp only [start, List.length_cons, List.length_nil, exSs_nil, exSs_cons, exS_asg, exS_asgO, exS_par, exS_exp, exS_frz, exS_retv, exS_reto, exS_ite, exS_pass, goOn_nx, goOn_rt, fin_nx, fin_rt, frzF_own, frzF_val, getOwn_own, ev_var, ev_pk, ev_cst, ev_glb, ev_bin, ev_not, ev_neg, negF_int, ev_cmp, ev_cmp2, ev_cmp3, ev_and, ev_or, ev_ite, ev_tup, ev_lst, ev_idx, ev_slc, ev_call0, ev_callk, ev_lrng, ev_bi, ev_isi, evs_nil, evs_cons, evD_nil, evD_f, evD_t, evT_nil, evT_cons, evI_seq, evI_rng, evI_enm, elimS, condT, condF, condB, okb, Res.none_bind, Res.bind_assoc, liftS, slot, put, getAny, getVal, List.map_cons, List.map_nil, List.replicate, List.cons_append, List.nil_append, List.append_nil, dr_cell, dr_dP, dr_dI, dr_dL, dr_dW, dr_int, dr_bl, dr_tup, dr_lst, dr_non, dr_str, drs, idxF_lst0, idxF_lst1, idxF_lst2, idxF_tup0, idxF_tup1, idxF_tup2, cmpF_gt, cmpF_le, cmpF_lt, cmpF_ge, cmpF_eq, cmpF_ne, cmpF_in, cmpF_nin, cmpF_eqb, cmpF_neb, inF_dL, inF_lst, inF_tup, truth_bl, truth_int, bindT_nm, bindT_tt, bindT_tl, bindTs_nil, bindTs_nm, seqF_tup, seqF_lst, Option.map_some, Option.map_none, if_true, if_false, Bool.false_eq_true, Nat.reduceAdd, Nat.reduceSub, Nat.reduceEqDiff, Nat.zero_add, binF_add, binF_sub, isi_bool_non, isi_bool_bl, isi_bool_int, isi_bool_str, isi_bool_tup, isi_bool_lst, isi_int_non, isi_int_bl, isi_int_int, isi_int_str, isi_int_tup, isi_int_lst, isi_str_non, isi_str_bl, isi_str_int, isi_str_str, isi_str_tup, isi_str_lst, isi_tuple_non, isi_tuple_bl, isi_tuple_int, isi_tuple_str, isi_tuple_tup, isi_tuple_lst, isi_list_non, isi_list_bl, isi_list_int, isi_list_str, isi_list_tup, isi_list_lst, isi_dict_non, isi_dict_bl, isi_dict_int, isi_dict_str, isi_dict_tup, isi_dict_lst, bnot_bl, Bool.not_true, Bool.not_false, biF_len, biF_list, biF_tuple, biF_sorted, biF_sortedt, biF_all, biF_any, biF_sum, biF_min, biF_max, biF_min2, biF_max2, biF_int, biF_abs, lenF_tup, lenF_lst, szOk0, szOk1, szOk2, szOk3, szOk4, szOk5, szOk6, number_map, Int.cast_ofNat_Int, Int.reduceBEq, Int.reduceBNe, Int.reduceLT, Int.reduceLE, Int.reduceSub, Int.reduceAdd, Int.reduceNeg, decide_true, decide_false, beq_self_eq_true, Int.natCast_zero, Int.natCast_one, h]
        exact .ret ⟨_, rfl, p2, _, _, _, _, _, _, _, _, _, _, _, _, _, _, _, _, rfl⟩
  · rintro _ s3 ⟨p3, a1, a2, a3, a4, a5, a6, a7, a8, a9, a10, a11, a12, a13, a14, a15, a16, rfl⟩
    have v1 : ∀ s, callF T (n - 1) "width" [.tup [.int 4, .tup [.tup [.int 0, .int 1], .tup [.int 0, .int 2], .tup [.int 1, .int 2], .tup [.int 1, .int 3], .tup [.int 2, .int 3]]], .int 0, .int 3] s = some (.ok (.int 2), s) := fun s => wAt (n := n - 1) (by omega) web1 (by decide) (by decide) (by decide) isw1 s
    have v2 : ∀ s, callF T (n - 1) "width" [.tup [.int 4, .tup [.tup [.int 0, .int 1], .tup [.int 0, .int 2], .tup [.int 1, .int 2], .tup [.int 1, .int 3], .tup [.int 2, .int 3]]], .int 1, .int 2] s = some (.ok (.int 3), s) := fun s => wAt (n := n - 1) (by omega) web1 (by decide) (by decide) (by decide) isw2 s
    have v3 : ∀ s, callF T (n - 1) "width" [.tup [.int 3, .tup [.tup [.int 0, .int 1]]], .int 0, .int 2] s = some (.ok (.int 0), s) := fun s => wAt (n := n - 1) (by omega) web2 (by decide) (by decide) (by decide) isw3 s
    have v4 : ∀ s, callF T (n - 1) "width" [.tup [.int 2, .tup (List.replicate 12 (.tup [.int 0, .int 1]))], .int 1, .int 0] s = some (.ok (.int 12), s) := fun s => wAt (n := n - 1) (by omega) web3 (by decide) (by decide) (by decide) isw4 s
    have v5 : ∀ s, callF T (n - 1) "_law_same" [.lst [.int 2, .int 3, .int 0, .int 12], .lst [.int 2, .int 3, .int 0, .int 12]] s = some (.ok (.bl true), s) := fun s => law_same_s (by omega) [2, 3, 0, 12] s
    have v6 : binF .mul (.tup [.tup [.int 0, .int 1]]) (.int 12) = some (.tup (List.replicate 12 (.tup [.int 0, .int 1]))) := rfl
    generalize hr : List.replicate 12 (D.tup [.int 0, .int 1]) = rr at v4 v6
    exact .of_eq (s := s3) (by simp only [start, List.length_cons, List.length_nil, exSs_nil, exSs_cons, exS_asg, exS_asgO, exS_par, exS_exp, exS_frz, exS_retv, exS_reto, exS_ite, exS_pass, goOn_nx, goOn_rt, fin_nx, fin_rt, frzF_own, frzF_val, getOwn_own, ev_var, ev_pk, ev_cst, ev_glb, ev_bin, ev_not, ev_neg, negF_int, ev_cmp, ev_cmp2, ev_cmp3, ev_and, ev_or, ev_ite, ev_tup, ev_lst, ev_idx, ev_slc, ev_call0, ev_callk, ev_lrng, ev_bi, ev_isi, evs_nil, evs_cons, evD_nil, evD_f, evD_t, evT_nil, evT_cons, evI_seq, evI_rng, evI_enm, elimS, condT, condF, condB, okb, Res.none_bind, Res.bind_assoc, liftS, slot, put, getAny, getVal, List.map_cons, List.map_nil, List.replicate, List.cons_append, List.nil_append, List.append_nil, dr_cell, dr_dP, dr_dI, dr_dL, dr_dW, dr_int, dr_bl, dr_tup, dr_lst, dr_non, dr_str, drs, idxF_lst0, idxF_lst1, idxF_lst2, idxF_tup0, idxF_tup1, idxF_tup2, cmpF_gt, cmpF_le, cmpF_lt, cmpF_ge, cmpF_eq, cmpF_ne, cmpF_in, cmpF_nin, cmpF_eqb, cmpF_neb, inF_dL, inF_lst, inF_tup, truth_bl, truth_int, bindT_nm, bindT_tt, bindT_tl, bindTs_nil, bindTs_nm, seqF_tup, seqF_lst, Option.map_some, Option.map_none, if_true, if_false, Bool.false_eq_true, Nat.reduceAdd, Nat.reduceSub, Nat.reduceEqDiff, Nat.zero_add, binF_add, binF_sub, isi_bool_non, isi_bool_bl, isi_bool_int, isi_bool_str, isi_bool_tup, isi_bool_lst, isi_int_non, isi_int_bl, isi_int_int, isi_int_str, isi_int_tup, isi_int_lst, isi_str_non, isi_str_bl, isi_str_int, isi_str_str, isi_str_tup, isi_str_lst, isi_tuple_non, isi_tuple_bl, isi_tuple_int, isi_tuple_str, isi_tuple_tup, isi_tuple_lst, isi_list_non, isi_list_bl, isi_list_int, isi_list_str, isi_list_tup, isi_list_lst, isi_dict_non, isi_dict_bl, isi_dict_int, isi_dict_str, isi_dict_tup, isi_dict_lst, bnot_bl, Bool.not_true, Bool.not_false, biF_len, biF_list, biF_tuple, biF_sorted, biF_sortedt, biF_all, biF_any, biF_sum, biF_min, biF_max, biF_min2, biF_max2, biF_int, biF_abs, lenF_tup, lenF_lst, szOk0, szOk1, szOk2, szOk3, szOk4, szOk5, szOk6, number_map, Int.cast_ofNat_Int, Int.reduceBEq, Int.reduceBNe, Int.reduceLT, Int.reduceLE, Int.reduceSub, Int.reduceAdd, Int.reduceNeg, decide_true, decide_false, beq_self_eq_true, Int.natCast_zero, Int.natCast_one, v1, v2, v3, v4, v5, v6]) rfl
theorem goal (ns : List Int) (h : ns.length ≤ 63) : ∃ st, callF L.tab 30 "law" [.lst (ns.map D.int)] [] = some (.ok (.bl true), st) := by
  have out : ∀ {r : Res D}, (r.Ok fun d _ => d = .bl true) → ∃ st, r = some (.ok (.bl true), st) := by
    rintro r ⟨d, s, e, rfl⟩
    exact ⟨s, e⟩
  refine out ?_
  rw [callF_run L.tab (m := 29) rfl (fn_law : L.tab.fn "law" = some d_law) _ _ rfl]
  simp only [d_law, start, List.length_cons, List.length_nil, exSs_nil, exSs_cons, exS_asg, exS_asgO, exS_par, exS_exp, exS_frz, exS_retv, exS_reto, exS_ite, exS_pass, goOn_nx, goOn_rt, fin_nx, fin_rt, frzF_own, frzF_val, getOwn_own, ev_var, ev_pk, ev_cst, ev_glb, ev_bin, ev_not, ev_neg, negF_int, ev_cmp, ev_cmp2, ev_cmp3, ev_and, ev_or, ev_ite, ev_tup, ev_lst, ev_idx, ev_slc, ev_call0, ev_callk, ev_lrng, ev_bi, ev_isi, evs_nil, evs_cons, evD_nil, evD_f, evD_t, evT_nil, evT_cons, evI_seq, evI_rng, evI_enm, elimS, condT, condF, condB, okb, Res.none_bind, Res.bind_assoc, liftS, slot, put, getAny, getVal, List.map_cons, List.map_nil, List.replicate, List.cons_append, List.nil_append, List.append_nil, dr_cell, dr_dP, dr_dI, dr_dL, dr_dW, dr_int, dr_bl, dr_tup, dr_lst, dr_non, dr_str, drs, idxF_lst0, idxF_lst1, idxF_lst2, idxF_tup0, idxF_tup1, idxF_tup2, cmpF_gt, cmpF_le, cmpF_lt, cmpF_ge, cmpF_eq, cmpF_ne, cmpF_in, cmpF_nin, cmpF_eqb, cmpF_neb, inF_dL, inF_lst, inF_tup, truth_bl, truth_int, bindT_nm, bindT_tt, bindT_tl, bindTs_nil, bindTs_nm, seqF_tup, seqF_lst, Option.map_some, Option.map_none, if_true, if_false, Bool.false_eq_true, Nat.reduceAdd, Nat.reduceSub, Nat.reduceEqDiff, Nat.zero_add, binF_add, binF_sub, isi_bool_non, isi_bool_bl, isi_bool_int, isi_bool_str, isi_bool_tup, isi_bool_lst, isi_int_non, isi_int_bl, isi_int_int, isi_int_str, isi_int_tup, isi_int_lst, isi_str_non, isi_str_bl, isi_str_int, isi_str_str, isi_str_tup, isi_str_lst, isi_tuple_non, isi_tuple_bl, isi_tuple_int, isi_tuple_str, isi_tuple_tup, isi_tuple_lst, isi_list_non, isi_list_bl, isi_list_int, isi_list_str, isi_list_tup, isi_list_lst, isi_dict_non, isi_dict_bl, isi_dict_int, isi_dict_str, isi_dict_tup, isi_dict_lst, bnot_bl, Bool.not_true, Bool.not_false, biF_len, biF_list, biF_tuple, biF_sorted, biF_sortedt, biF_all, biF_any, biF_sum, biF_min, biF_max, biF_min2, biF_max2, biF_int, biF_abs, lenF_tup, lenF_lst, szOk0, szOk1, szOk2, szOk3, szOk4, szOk5, szOk6, number_map, Int.cast_ofNat_Int, Int.reduceBEq, Int.reduceBNe, Int.reduceLT, Int.reduceLE, Int.reduceSub, Int.reduceAdd, Int.reduceNeg, decide_true, decide_false, beq_self_eq_true, Int.natCast_zero, Int.natCast_one]
  obtain ⟨q, q1, q2⟩ : ∃ q : Nat, q ≤ 3 ∧ (if (if (3 : Int) < ((ns.map D.int).length : Nat) then (3 : Int) else ((ns.map D.int).length : Nat)) > 2 then (if (3 : Int) < ((ns.map D.int).length : Nat) then (3 : Int) else ((ns.map D.int).length : Nat)) else 2) = (q : Int) := by
    rw [List.length_map]
    by_cases h1 : (3 : Int) < (ns.length : Nat)
    · exact ⟨3, by decide, by rw [if_pos h1]; rfl⟩
    · rw [if_neg h1]
      by_cases h2 : ((ns.length : Nat) : Int) > 2
      · exact ⟨ns.length, by omega, by rw [if_pos h2]⟩
      · exact ⟨2, by decide, by rw [if_neg h2]; rfl⟩
  refine exS_ok _ _ _ (fun i : Nat => D.int (i : Int)) (fun _ env s => ∃ a, env = [Slot.val (.lst (ns.map D.int)), a]) (List.range q) (s1 := []) (by
    have := rngF1' (m := q) (by omega)
    simp only [start, List.length_cons, List.length_nil, exSs_nil, exSs_cons, exS_asg, exS_asgO, exS_par, exS_exp, exS_frz, exS_retv, exS_reto, exS_ite, exS_pass, goOn_nx, goOn_rt, fin_nx, fin_rt, frzF_own, frzF_val, getOwn_own, ev_var, ev_pk, ev_cst, ev_glb, ev_bin, ev_not, ev_neg, negF_int, ev_cmp, ev_cmp2, ev_cmp3, ev_and, ev_or, ev_ite, ev_tup, ev_lst, ev_idx, ev_slc, ev_call0, ev_callk, ev_lrng, ev_bi, ev_isi, evs_nil, evs_cons, evD_nil, evD_f, evD_t, evT_nil, evT_cons, evI_seq, evI_rng, evI_enm, elimS, condT, condF, condB, okb, Res.none_bind, Res.bind_assoc, liftS, slot, put, getAny, getVal, List.map_cons, List.map_nil, List.replicate, List.cons_append, List.nil_append, List.append_nil, dr_cell, dr_dP, dr_dI, dr_dL, dr_dW, dr_int, dr_bl, dr_tup, dr_lst, dr_non, dr_str, drs, idxF_lst0, idxF_lst1, idxF_lst2, idxF_tup0, idxF_tup1, idxF_tup2, cmpF_gt, cmpF_le, cmpF_lt, cmpF_ge, cmpF_eq, cmpF_ne, cmpF_in, cmpF_nin, cmpF_eqb, cmpF_neb, inF_dL, inF_lst, inF_tup, truth_bl, truth_int, bindT_nm, bindT_tt, bindT_tl, bindTs_nil, bindTs_nm, seqF_tup, seqF_lst, Option.map_some, Option.map_none, if_true, if_false, Bool.false_eq_true, Nat.reduceAdd, Nat.reduceSub, Nat.reduceEqDiff, Nat.zero_add, binF_add, binF_sub, isi_bool_non, isi_bool_bl, isi_bool_int, isi_bool_str, isi_bool_tup, isi_bool_lst, isi_int_non, isi_int_bl, isi_int_int, isi_int_str, isi_int_tup, isi_int_lst, isi_str_non, isi_str_bl, isi_str_int, isi_str_str, isi_str_tup, isi_str_lst, isi_tuple_non, isi_tuple_bl, isi_tuple_int, isi_tuple_str, isi_tuple_tup, isi_tuple_lst, isi_list_non, isi_list_bl, isi_list_int, isi_list_str, isi_list_tup, isi_list_lst, isi_dict_non, isi_dict_bl, isi_dict_int, isi_dict_str, isi_dict_tup, isi_dict_lst, bnot_bl, Bool.not_true, Bool.not_false, biF_len, biF_list, biF_tuple, biF_sorted, biF_sortedt, biF_all, biF_any, biF_sum, biF_min, biF_max, biF_min2, biF_max2, biF_int, biF_abs, lenF_tup, lenF_lst, szOk0, szOk1, szOk2, szOk3, szOk4, szOk5, szOk6, number_map, Int.cast_ofNat_Int, Int.reduceBEq, Int.reduceBNe, Int.reduceLT, Int.reduceLE, Int.reduceSub, Int.reduceAdd, Int.reduceNeg, decide_true, decide_false, beq_self_eq_true, Int.natCast_zero, Int.natCast_one, q2, this]) ?_ ⟨_, rfl⟩ ?_
  · rintro pre i post _ s er ⟨a, rfl⟩
    refine ⟨_, rfl, ?_⟩
    obtain ⟨a, b, e⟩ := law_pool_s (n := 29) (by decide) ns i s
    have e' : callF L.tab 29 "_law_pool" [.lst (ns.map D.int), .int i] s = some (.ok (.lst [.int a, .int b, .int 0]), s) := e
    simp only [start, List.length_cons, List.length_nil, exSs_nil, exSs_cons, exS_asg, exS_asgO, exS_par, exS_exp, exS_frz, exS_retv, exS_reto, exS_ite, exS_pass, goOn_nx, goOn_rt, fin_nx, fin_rt, frzF_own, frzF_val, getOwn_own, ev_var, ev_pk, ev_cst, ev_glb, ev_bin, ev_not, ev_neg, negF_int, ev_cmp, ev_cmp2, ev_cmp3, ev_and, ev_or, ev_ite, ev_tup, ev_lst, ev_idx, ev_slc, ev_call0, ev_callk, ev_lrng, ev_bi, ev_isi, evs_nil, evs_cons, evD_nil, evD_f, evD_t, evT_nil, evT_cons, evI_seq, evI_rng, evI_enm, elimS, condT, condF, condB, okb, Res.none_bind, Res.bind_assoc, liftS, slot, put, getAny, getVal, List.map_cons, List.map_nil, List.replicate, List.cons_append, List.nil_append, List.append_nil, dr_cell, dr_dP, dr_dI, dr_dL, dr_dW, dr_int, dr_bl, dr_tup, dr_lst, dr_non, dr_str, drs, idxF_lst0, idxF_lst1, idxF_lst2, idxF_tup0, idxF_tup1, idxF_tup2, cmpF_gt, cmpF_le, cmpF_lt, cmpF_ge, cmpF_eq, cmpF_ne, cmpF_in, cmpF_nin, cmpF_eqb, cmpF_neb, inF_dL, inF_lst, inF_tup, truth_bl, truth_int, bindT_nm, bindT_tt, bindT_tl, bindTs_nil, bindTs_nm, seqF_tup, seqF_lst, Option.map_some, Option.map_none, if_true, if_false, Bool.false_eq_true, Nat.reduceAdd, Nat.reduceSub, Nat.reduceEqDiff, Nat.zero_add, binF_add, binF_sub, isi_bool_non, isi_bool_bl, isi_bool_int, isi_bool_str, isi_bool_tup, isi_bool_lst, isi_int_non, isi_int_bl, isi_int_int, isi_int_str, isi_int_tup, isi_int_lst, isi_str_non, isi_str_bl, isi_str_int, isi_str_str, isi_str_tup, isi_str_lst, isi_tuple_non, isi_tuple_bl, isi_tuple_int, isi_tuple_str, isi_tuple_tup, isi_tuple_lst, isi_list_non, isi_list_bl, isi_list_int, isi_list_str, isi_list_tup, isi_list_lst, isi_dict_non, isi_dict_bl, isi_dict_int, isi_dict_str, isi_dict_tup, isi_dict_lst, bnot_bl, Bool.not_true, Bool.not_false, biF_len, biF_list, biF_tuple, biF_sorted, biF_sortedt, biF_all, biF_any, biF_sum, biF_min, biF_max, biF_min2, biF_max2, biF_int, biF_abs, lenF_tup, lenF_lst, szOk0, szOk1, szOk2, szOk3, szOk4, szOk5, szOk6, number_map, Int.cast_ofNat_Int, Int.reduceBEq, Int.reduceBNe, Int.reduceLT, Int.reduceLE, Int.reduceSub, Int.reduceAdd, Int.reduceNeg, decide_true, decide_false, beq_self_eq_true, Int.natCast_zero, Int.natCast_one, e', ev_box, boxF_lst]
    refine Res.Ok.bind (law_right_s (n := 29) (by decide) (s := s ++ [D.lst [.int a, .int b, .int 0]]) (c := s.length) ⟨a, b, 0, getS_snoc⟩) ?_
    rintro _ s1 rfl
    simp only [start, List.length_cons, List.length_nil, exSs_nil, exSs_cons, exS_asg, exS_asgO, exS_par, exS_exp, exS_frz, exS_retv, exS_reto, exS_ite, exS_pass, goOn_nx, goOn_rt, fin_nx, fin_rt, frzF_own, frzF_val, getOwn_own, ev_var, ev_pk, ev_cst, ev_glb, ev_bin, ev_not, ev_neg, negF_int, ev_cmp, ev_cmp2, ev_cmp3, ev_and, ev_or, ev_ite, ev_tup, ev_lst, ev_idx, ev_slc, ev_call0, ev_callk, ev_lrng, ev_bi, ev_isi, evs_nil, evs_cons, evD_nil, evD_f, evD_t, evT_nil, evT_cons, evI_seq, evI_rng, evI_enm, elimS, condT, condF, condB, okb, Res.none_bind, Res.bind_assoc, liftS, slot, put, getAny, getVal, List.map_cons, List.map_nil, List.replicate, List.cons_append, List.nil_append, List.append_nil, dr_cell, dr_dP, dr_dI, dr_dL, dr_dW, dr_int, dr_bl, dr_tup, dr_lst, dr_non, dr_str, drs, idxF_lst0, idxF_lst1, idxF_lst2, idxF_tup0, idxF_tup1, idxF_tup2, cmpF_gt, cmpF_le, cmpF_lt, cmpF_ge, cmpF_eq, cmpF_ne, cmpF_in, cmpF_nin, cmpF_eqb, cmpF_neb, inF_dL, inF_lst, inF_tup, truth_bl, truth_int, bindT_nm, bindT_tt, bindT_tl, bindTs_nil, bindTs_nm, seqF_tup, seqF_lst, Option.map_some, Option.map_none, if_true, if_false, Bool.false_eq_true, Nat.reduceAdd, Nat.reduceSub, Nat.reduceEqDiff, Nat.zero_add, binF_add, binF_sub, isi_bool_non, isi_bool_bl, isi_bool_int, isi_bool_str, isi_bool_tup, isi_bool_lst, isi_int_non, isi_int_bl, isi_int_int, isi_int_str, isi_int_tup, isi_int_lst, isi_str_non, isi_str_bl, isi_str_int, isi_str_str, isi_str_tup, isi_str_lst, isi_tuple_non, isi_tuple_bl, isi_tuple_int, isi_tuple_str, isi_tuple_tup, isi_tuple_lst, isi_list_non, isi_list_bl, isi_list_int, isi_list_str, isi_list_tup, isi_list_lst, isi_dict_non, isi_dict_bl, isi_dict_int, isi_dict_str, isi_dict_tup, isi_dict_lst, bnot_bl, Bool.not_true, Bool.not_false, biF_len, biF_list, biF_tuple, biF_sorted, biF_sortedt, biF_all, biF_any, biF_sum, biF_min, biF_max, biF_min2, biF_max2, biF_int, biF_abs, lenF_tup, lenF_lst, szOk0, szOk1, szOk2, szOk3, szOk4, szOk5, szOk6, number_map, Int.cast_ofNat_Int, Int.reduceBEq, Int.reduceBNe, Int.reduceLT, Int.reduceLE, Int.reduceSub, Int.reduceAdd, Int.reduceNeg, decide_true, decide_false, beq_self_eq_true, Int.natCast_zero, Int.natCast_one]
    exact .ret ⟨_, rfl, _, rfl⟩
  · rintro _ s2 ⟨a, rfl⟩
    exact .of_eq (s := s2) (by simp only [start, List.length_cons, List.length_nil, exSs_nil, exSs_cons, exS_asg, exS_asgO, exS_par, exS_exp, exS_frz, exS_retv, exS_reto, exS_ite, exS_pass, goOn_nx, goOn_rt, fin_nx, fin_rt, frzF_own, frzF_val, getOwn_own, ev_var, ev_pk, ev_cst, ev_glb, ev_bin, ev_not, ev_neg, negF_int, ev_cmp, ev_cmp2, ev_cmp3, ev_and, ev_or, ev_ite, ev_tup, ev_lst, ev_idx, ev_slc, ev_call0, ev_callk, ev_lrng, ev_bi, ev_isi, evs_nil, evs_cons, evD_nil, evD_f, evD_t, evT_nil, evT_cons, evI_seq, evI_rng, evI_enm, elimS, condT, condF, condB, okb, Res.none_bind, Res.bind_assoc, liftS, slot, put, getAny, getVal, List.map_cons, List.map_nil, List.replicate, List.cons_append, List.nil_append, List.append_nil, dr_cell, dr_dP, dr_dI, dr_dL, dr_dW, dr_int, dr_bl, dr_tup, dr_lst, dr_non, dr_str, drs, idxF_lst0, idxF_lst1, idxF_lst2, idxF_tup0, idxF_tup1, idxF_tup2, cmpF_gt, cmpF_le, cmpF_lt, cmpF_ge, cmpF_eq, cmpF_ne, cmpF_in, cmpF_nin, cmpF_eqb, cmpF_neb, inF_dL, inF_lst, inF_tup, truth_bl, truth_int, bindT_nm, bindT_tt, bindT_tl, bindTs_nil, bindTs_nm, seqF_tup, seqF_lst, Option.map_some, Option.map_none, if_true, if_false, Bool.false_eq_true, Nat.reduceAdd, Nat.reduceSub, Nat.reduceEqDiff, Nat.zero_add, binF_add, binF_sub, isi_bool_non, isi_bool_bl, isi_bool_int, isi_bool_str, isi_bool_tup, isi_bool_lst, isi_int_non, isi_int_bl, isi_int_int, isi_int_str, isi_int_tup, isi_int_lst, isi_str_non, isi_str_bl, isi_str_int, isi_str_str, isi_str_tup, isi_str_lst, isi_tuple_non, isi_tuple_bl, isi_tuple_int, isi_tuple_str, isi_tuple_tup, isi_tuple_lst, isi_list_non, isi_list_bl, isi_list_int, isi_list_str, isi_list_tup, isi_list_lst, isi_dict_non, isi_dict_bl, isi_dict_int, isi_dict_str, isi_dict_tup, isi_dict_lst, bnot_bl, Bool.not_true, Bool.not_false, biF_len, biF_list, biF_tuple, biF_sorted, biF_sortedt, biF_all, biF_any, biF_sum, biF_min, biF_max, biF_min2, biF_max2, biF_int, biF_abs, lenF_tup, lenF_lst, szOk0, szOk1, szOk2, szOk3, szOk4, szOk5, szOk6, number_map, Int.cast_ofNat_Int, Int.reduceBEq, Int.reduceBNe, Int.reduceLT, Int.reduceLE, Int.reduceSub, Int.reduceAdd, Int.reduceNeg, decide_true, decide_false, beq_self_eq_true, Int.natCast_zero, Int.natCast_one]) rfl
end PyD.K42

namespace PyD.K42
open PySem PySem.Spec PyProof.Rows L2 PyD
end PyD.K42
open PySem PySem.W PySem.Calls PyProof.Rows
theorem PySem.Challenge.cw_joinorbar_k42_whole_widths_holds : PySem.Challenge.rw_joinorbar_k42_whole_widths.Holds := by
  w_on; o_law
  refine HandSHeadRun.head_any (r := OpenLaw.row PySem.Challenge.rw_joinorbar_k42_whole_widths) (q := view (OpenLaw.row PySem.Challenge.rw_joinorbar_k42_whole_widths).prog [44]) (H := PyD.K42.hk) (ob := PyD.K42.ob) (M := 4000) (loose := PyD.K42.loose) (d := HandSHeadRun.topDef (OpenLaw.row PySem.Challenge.rw_joinorbar_k42_whole_widths).prog 44) (kwd := []) PyD.K42.ob_eq
    (by kernel_rfl) (fun s => by kernel_rfl) PyD.K42.run (by kernel_rfl) (by kernel_rfl) (by kernel_rfl) (by rfl) (by first | assumption | decide +kernel) (by decide +kernel) ⟨rfl, rfl, rfl, rfl, rfl, by decide +kernel⟩ ?hw ?hc
  case hw => w_witness2
  case hc =>
    refine PyD.walk_W (l := PySem.Challenge.rw_joinorbar_k42_whole_widths) (n := 63) (k := 30) (x := "script") rfl (by decide) (by kernel_rfl) ⟨rfl, by decide, by decide⟩ ?F
    intro w mg fa h Y G hmg0
    obtain ⟨K, KX, c⟩ := Y
    have hmg : mg ("law" : PySem.Str) = some (.ref fa) := by
      have e : (HandSHeadRun.topDef (OpenLaw.row PySem.Challenge.rw_joinorbar_k42_whole_widths).prog 44).name = ("law" : PySem.Str) := by kernel_rfl
      rw [← e]
      exact hmg0
    obtain ⟨fd, sp, h1, h2, h3⟩ := PyD.law_D (P := (PySem.Challenge.rw_joinorbar_k42_whole_widths).prog) (w := w) (e := ⟨"law", PyD.K42.top 44, ["script", "lap"]⟩) (k := 30) (n := 63) KX G c PyD.K42.sc PyD.K42.bd PyD.K42.gi (by kernel_rfl) (by kernel_rfl) (by kernel_rfl) hmg PyD.K42.goal
    exact ⟨K, fd, sp, KX, h1, h2, h3⟩
