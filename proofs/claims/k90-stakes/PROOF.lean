import PyProof.Rows.All
import Wide.All
import OpenK.AllK
import Wide.FinOn
import KE.KStateDown
import Lean
import HandS.Base
import HandS.Call
import HandS.Ends
import HandS.More
import HandS.Words
import HandS.WordsExc
import HandS.Defaults
import HandS.Head0
import HandS.Head1
import HandS.Head2
import HandS.HeadEnd
import HandS.HeadHook1
import HandS.HeadHook2
import PySem.PyData
import HandS.List
import HandS.Wide
import HandS.TupAny
import HandS.TupMul
import HandS.TupLe
import HandS.Deep
import HandS.SortInts
import KE.DataMinMax
import KE.SortData
import PyProof.SumWalkG
import HandS.SortRule
import HandS.Conv
import HandS.Style
import HandS.Flow
import HandS.IsInst
import HandS.Dict
import HandS.Zip
import HandS.Comp
import HandS.Codes
import PySem.Challenge.RW_toldnoless_k90_whole_across_stakes
set_option linter.all false
set_option maxRecDepth 100000
namespace Tn
open PySem

abbrev D := PyData

inductive Bin where | add | sub | mul | fdiv | mod | pow
  deriving DecidableEq
inductive Cmp where | eq | ne | lt | le | gt | ge | isN | isntN | isB | isntB | in_ | nin
  deriving DecidableEq
inductive Ty where | int | bool | str | tuple | list
  deriving DecidableEq
inductive Blt where | len | sum | max | min | all | any | tuple | list | sorted | abs | int | min2 | max2
  deriving DecidableEq

mutual
inductive E where
  | var (i : Nat)
  | bor (i : Nat)
  | con (d : D)
  | bin (o : Bin) (a b : E)
  | cmp (o : Cmp) (a b : E)
  | cmp2 (o p : Cmp) (a b c : E)
  | and_ (a b : E)
  | or_ (a b : E)
  | not_ (a : E)
  | neg (a : E)
  | ite (c a b : E)
  | tup (es : Es)
  | lst (es : Es)
  | idx (a b : E)
  | slice (a : E) (lo hi : Oe)
  | call (f : Nat) (es : Es)
  | blt (b : Blt) (es : Es)
  | isi (t : Ty) (a : E)
  | comp (own : List Nat) (elt : E) (tg : Tg) (it : It) (c : Oe)
  | comp2 (own own1 : List Nat) (elt : E) (tg : Tg) (it : It) (tg1 : Tg) (it1 : It)
  | listIt (it : It)
  | getF (kind fld : Nat) (a : E)
  | popF (kind fld : Nat) (a : E)
  | neF (kind fld : Nat) (a : E)
  | dget (i : Nat) (k d : E)
  | dix (i : Nat) (k : E)
  | dsorted (i : Nat)
inductive Es where
  | nil
  | cons (e : E) (es : Es)
inductive Oe where
  | none
  | some (e : E)
inductive It where
  | seq (e : E)
  | rng1 (a : E)
  | rng2 (a b : E)
  | zip2 (a b : E)
  | enum (a : E)
inductive Tg where
  | nm (i : Nat)
  | tp (ts : Tgs)
inductive Tgs where
  | nil
  | cons (t : Tg) (ts : Tgs)
end

mutual
inductive S where
  | set (tg : Tg) (e : E)
  | own (i : Nat) (e : E)
  | par (is : List Nat) (es : Es)
  | parO (i j : Nat) (a b : E)
  | dnew (i : Nat)
  | ret (e : E)
  | retObj (kind : Nat) (fs : List (Bool × E))
  | retN
  | ite (c : E) (a b : Ss)
  | whl (c : E) (b : Ss)
  | for_ (tg : Tg) (it : It) (b : Ss)
  | expr (e : E)
  | append (i : Nat) (e : E)
  | extend (i : Nat) (e : E)
  | seti (i : Nat) (k v : E)
  | dset (i : Nat) (k v : E)
  | setF (kind fld : Nat) (o v : E)
  | raise (c : Nat)
  | brk
  | cont
  | frz (is : List Nat) (s : S)
  | fail
inductive Ss where
  | nil
  | cons (s : S) (ss : Ss)
end

inductive Cell where
  | v (d : D)
  | own (xs : List D)
  | dic (kvs : List (List Int × D))

structure OState where
  kind : Nat
  fs : List Cell

abbrev Objs := List OState
abbrev Env := List (Option Cell)
inductive Out (α : Type) where
  | ok (a : α) (o : Objs)
  | ex (c : Nat) (o : Objs)
abbrev M (α : Type) := Objs → Option (Out α)
def M.pure {α : Type} (a : α) : M α := fun o => some (.ok a o)
def M.bind {α β : Type} (x : M α) (f : α → M β) : M β := fun o => match x o with
  | none => none
  | some (.ok a o') => f a o'
  | some (.ex c o') => some (.ex c o')
def M.stuck {α : Type} : M α := fun _ => none
def M.lift {α : Type} : Option α → M α
  | some a => M.pure a
  | none => M.stuck
def M.noex {α : Type} (x : M α) : M α := fun o => match x o with
  | some (.ok a o') => some (.ok a o')
  | _ => none
instance : Monad M where
  pure := M.pure
  bind := M.bind

/-- the largest size of a list that is walked -/
abbrev big : Nat := 16777216
def guardB (b : Bool) : M Unit := if b then M.pure () else M.stuck
def obj (k : Nat) : D := .dict [(.int k, .none)]

/-! ### values -/
/-- small data, no object within -/
def shN : Nat → D → Bool
  | _, .none => true
  | _, .bool _ => true
  | _, .int _ => true
  | _, .str x => x.cps.all (· < 0x110000)
  | 0, _ => false
  | n + 1, .list ds => ds.all (shN n)
  | n + 1, .tuple ds => ds.all (shN n)
  | _, .dict _ => false
abbrev sh : D → Bool := shN 8

def bits (i : Int) : Nat := i.natAbs.log2
def mulOk (i j : Int) : Bool := decide (bits i + bits j < 1000000)
def divOk (j : Int) : Bool := decide (0 < j) && decide (bits j < 9000)
def itemsOf : D → Option (List D)
  | .list ds => some ds
  | .tuple ds => some ds
  | _ => none
/-- the script: a list that is only walked -/
def scrD (ds : List D) : D := .dict [(.none, .list ds)]
def itemsS : D → Option (List D)
  | .list ds => some ds
  | .tuple ds => some ds
  | .dict [(.none, .list ds)] => some ds
  | _ => none
def rngL (lo : Int) (n : Nat) : List D := (List.range n).map fun k => .int (lo + (k : Nat))
def zipL (xs ys : List D) : List D := List.zipWith (fun x y => .tuple [x, y]) xs ys
def zipD : D → D → Option (List D)
  | .list xs, .list ys => some (zipL xs ys)
  | .tuple xs, .tuple ys => some (zipL xs ys)
  | _, _ => none
def enumL : Nat → List D → List D
  | _, [] => []
  | n, x :: xs => .tuple [.int n, x] :: enumL (n + 1) xs
def enumD : D → Option (List D)
  | .list xs => some (enumL 0 xs)
  | _ => none
def addD : D → D → Option D
  | .int i, .int j => some (.int (i + j))
  | .str a, .str b => if a.length + b.length ≤ big then some (.str (a ++ b)) else none
  | .tuple a, .tuple b => if a.length + b.length ≤ big then some (.tuple (a ++ b)) else none
  | .list a, .list b => if a.length + b.length ≤ big then some (.list (a ++ b)) else none
  | _, _ => none
def mulD : D → D → Option D
  | .int i, .int j => if mulOk i j = true then some (.int (i * j)) else none
  | .list a, .int j => if 0 ≤ j ∧ j ≤ 1000 ∧ a.length ≤ 1000 then some (.list (List.replicate j.toNat a).flatten) else none
  | .tuple a, .int j => if 1 ≤ j ∧ j ≤ 1000 ∧ a.length ≤ 1000 ∧ a ≠ [] then some (.tuple (List.replicate j.toNat a).flatten) else none
  | _, _ => none
def ints2 (f : Int → Int → Option Int) : D → D → Option D
  | .int i, .int j => (f i j).map .int
  | _, _ => none
def binD : Bin → D → D → Option D
  | .add => addD
  | .sub => ints2 fun i j => some (i - j)
  | .mul => mulD
  | .fdiv => ints2 fun i j => if divOk j = true then some (i / j) else none
  | .mod => ints2 fun i j => if 0 < j then some (i % j) else none
  | .pow => ints2 fun i j => if 0 ≤ j ∧ j ≤ 1000 ∧ i.natAbs ≤ 1000 then some (i ^ j.toNat) else none

mutual
/-- == of data -/
def eqv : D → D → Bool
  | .none, .none => true
  | .bool a, .bool b => a == b
  | .bool a, .int j => decide ((if a then 1 else 0 : Int) = j)
  | .int i, .bool b => decide (i = (if b then 1 else 0 : Int))
  | .int i, .int j => decide (i = j)
  | .str x, .str y => decide (x = y)
  | .list xs, .list ys => eqvs xs ys
  | .tuple xs, .tuple ys => eqvs xs ys
  | _, _ => false
def eqvs : List D → List D → Bool
  | [], [] => true
  | x :: xs, y :: ys => eqv x y && eqvs xs ys
  | _, _ => false
end

def intsB (f : Int → Int → Bool) : D → D → Option Bool
  | .int i, .int j => some (f i j)
  | _, _ => none
def isNoneD : D → Bool
  | .none => true
  | _ => false
def isN (d : D) : D → Option Bool
  | .none => some (isNoneD d)
  | _ => none
def isB : D → D → Option Bool
  | .bool a, .bool b => some (a == b)
  | _, _ => none
def inD (d e : D) : Option Bool := match itemsOf e with
  | some ds => if (sh d && sh e) = true then some (ds.any fun z => eqv z d) else none
  | none => none
def eqD (d e : D) : Option Bool := if (sh d && sh e) = true then some (eqv d e) else none
def cmpD : Cmp → D → D → Option Bool
  | .eq => eqD
  | .ne => fun d e => (eqD d e).map not
  | .lt => intsB fun i j => decide (i < j)
  | .le => intsB fun i j => decide (i ≤ j)
  | .gt => intsB fun i j => decide (j < i)
  | .ge => intsB fun i j => decide (j ≤ i)
  | .isN => isN
  | .isntN => fun d e => (isN d e).map not
  | .isB => isB
  | .isntB => fun d e => (isB d e).map not
  | .in_ => inD
  | .nin => fun d e => (inD d e).map not

def truD : D → Option Bool
  | .none => some false
  | .bool b => some b
  | .int i => some (decide (i ≠ 0))
  | .list ds => some (!ds.isEmpty)
  | .tuple ds => some (!ds.isEmpty)
  | _ => none

/-- where an index of Python's points -/
def ixAt (n : Nat) (i : Int) : Option Nat := if 0 ≤ i then (if i < n then some i.toNat else none) else if -(n : Int) ≤ i then some (i + n).toNat else none
def idxD : D → D → Option D
  | .list ds, .int i => (ixAt ds.length i).bind fun j => ds[j]?
  | .tuple ds, .int i => (ixAt ds.length i).bind fun j => ds[j]?
  | _, _ => none
/-- a slice's bound -/
def cutAt (n d : Nat) : Option Int → Nat
  | none => d
  | some v => if v < 0 then (v + n).toNat else min v.toNat n
def cutL {α : Type} (xs : List α) (lo hi : Option Int) : List α := (xs.drop (cutAt xs.length 0 lo)).take (cutAt xs.length xs.length hi - cutAt xs.length 0 lo)
def sliceD (d : D) (lo hi : Option Int) : Option D := match d with
  | .list ds => some (.list (cutL ds lo hi))
  | .tuple ds => some (.tuple (cutL ds lo hi))
  | _ => none

def listOf : D → Option (List D)
  | .list ds => some ds
  | _ => none
def intOf : D → Option Int
  | .int i => some i
  | _ => none
def boolOf : D → Option Bool
  | .bool b => some b
  | _ => none
def intsOf (ds : List D) : Option (List Int) := ds.mapM intOf
def boolsOf (ds : List D) : Option (List Bool) := ds.mapM boolOf
def maxI : List Int → Option Int
  | [] => none
  | x :: xs => some (xs.foldl max x)
def minI : List Int → Option Int
  | [] => none
  | x :: xs => some (xs.foldl min x)
/-- the order of tuples of numbers -/
def lexLe : List Int → List Int → Bool
  | [], _ => true
  | _ :: _, [] => false
  | x :: xs, y :: ys => if x = y then lexLe xs ys else decide (x < y)
def tupOf : D → Option (List Int)
  | .tuple ds => intsOf ds
  | _ => none
def tup (ns : List Int) : D := .tuple (ns.map .int)
def sortD (ds : List D) : Option D := match intsOf ds with
  | some ns => some (.list ((ns.mergeSort fun a b => decide (a ≤ b)).map .int))
  | none => match ds.mapM tupOf with
    | some ts => if ts.all (fun t => !t.isEmpty) then some (.list ((ts.mergeSort lexLe).map tup)) else none
    | none => none
def un (f : D → Option D) : List D → Option D
  | [d] => f d
  | _ => none
def two (f : D → D → Option D) : List D → Option D
  | [d, e] => f d e
  | _ => none
def lenD : D → Option D
  | .list ds => some (.int (ds.length : Nat))
  | .tuple ds => some (.int (ds.length : Nat))
  | .dict [(.none, .list ds)] => some (.int (ds.length : Nat))
  | .str x => if x.length ≤ big then some (.int (x.length : Nat)) else none
  | _ => none
def sumD (d : D) : Option D := (itemsOf d).bind fun ds => (intsOf ds).map fun ns => .int ns.sum
def maxD (d : D) : Option D := (itemsOf d).bind fun ds => (intsOf ds).bind fun ns => (maxI ns).map .int
def minD (d : D) : Option D := (itemsOf d).bind fun ds => (intsOf ds).bind fun ns => (minI ns).map .int
def allD : D → Option D
  | .list ds => (boolsOf ds).map fun bs => .bool (bs.all id)
  | _ => none
def anyD : D → Option D
  | .list ds => (boolsOf ds).map fun bs => .bool (bs.any id)
  | _ => none
def sortedD : D → Option D
  | .list ds => sortD ds
  | _ => none
def absD : D → Option D
  | .int i => some (.int (if i < 0 then -i else i))
  | _ => none
def intD : D → Option D
  | .int i => some (.int i)
  | .bool b => some (.int (if b then 1 else 0))
  | _ => none
def bltD : Blt → List D → Option D
  | .len => un lenD
  | .sum => un sumD
  | .max => un maxD
  | .min => un minD
  | .all => un allD
  | .any => un anyD
  | .tuple => un fun d => (itemsOf d).map .tuple
  | .list => un fun d => (itemsOf d).map .list
  | .sorted => un sortedD
  | .abs => un absD
  | .int => un intD
  | .min2 => two (ints2 fun i j => some (if j < i then j else i))
  | .max2 => two (ints2 fun i j => some (if j > i then j else i))
def isiD : Ty → D → Option Bool
  | _, .dict _ => none
  | .int, .int _ => some true
  | .int, .bool _ => some true
  | .bool, .bool _ => some true
  | .str, .str _ => some true
  | .tuple, .tuple _ => some true
  | .list, .list _ => some true
  | _, _ => some false

/-! ### the objects -/
def objAt (d : D) : Option Nat := match d with
  | .dict [(.int k, .none)] => if 0 ≤ k then some k.toNat else none
  | _ => none
def getO (kind fld : Nat) (d : D) : M D := fun o => match objAt d with
  | none => none
  | some k => match o[k]? with
    | none => none
    | some s => if s.kind = kind then (match s.fs[fld]? with
      | some (.v x) => some (.ok x o)
      | _ => none) else none
def setO (kind fld : Nat) (d x : D) : M Unit := fun o => match objAt d with
  | none => none
  | some k => match o[k]? with
    | none => none
    | some s => if s.kind = kind then (match s.fs[fld]? with
      | some (.v _) => some (.ok () (o.set k { s with fs := s.fs.set fld (.v x) }))
      | _ => none) else none
def popO (kind fld : Nat) (d : D) : M D := fun o => match objAt d with
  | none => none
  | some k => match o[k]? with
    | none => none
    | some s => if s.kind = kind then (match s.fs[fld]? with
      | some (.own (x :: xs)) => some (.ok x (o.set k { s with fs := s.fs.set fld (.own xs) }))
      | _ => none) else none

def neO (kind fld : Nat) (d : D) : M D := fun o => match objAt d with
  | none => none
  | some k => match o[k]? with
    | none => none
    | some s => if s.kind = kind then (match s.fs[fld]? with
      | some (.own xs) => if xs.all (shN 7) then some (.ok (.bool (!xs.isEmpty)) o) else none
      | _ => none) else none

/-! ### names -/
def getV (env : Env) (i : Nat) : M D := match env[i]? with
  | some (some (.v d)) => M.pure d
  | _ => M.stuck
def getB (env : Env) (i : Nat) : M D := match env[i]? with
  | some (some (.v d)) => M.pure d
  | some (some (.own xs)) => M.pure (.list xs)
  | _ => M.stuck
def getD (env : Env) (i : Nat) : M (List (List Int × D)) := match env[i]? with
  | some (some (.dic kvs)) => M.pure kvs
  | _ => M.stuck
mutual
def asg : Tg → D → Env → Option Env
  | .nm i, d, env => if i < env.length then some (env.set i (some (.v d))) else none
  | .tp ts, d, env => match d with
    | .tuple ds => asgs ts ds env
    | _ => none
def asgs : Tgs → List D → Env → Option Env
  | .nil, [], env => some env
  | .cons t ts, d :: ds, env => (asg t d env).bind fun e => asgs ts ds e
  | _, _, _ => none
end
def wipeE (env : Env) : List Nat → Env
  | [] => env
  | v :: vs => (wipeE env vs).set v none

/-- no list, no dict of one's own at these -/
def clearE (env : Env) (vs : List Nat) : Bool := vs.all fun i => match env[i]? with
  | some (some (.own _)) => false
  | some (some (.dic _)) => false
  | _ => true
mutual
def ixs : Tg → List Nat
  | .nm i => [i]
  | .tp ts => ixss ts
def ixss : Tgs → List Nat
  | .nil => []
  | .cons t ts => ixs t ++ ixss ts
end
def oc : Option D → List D → List D
  | some y, ys => y :: ys
  | none, ys => ys
def collect (f : D → M (Option D)) : List D → M (List D)
  | [] => M.pure []
  | x :: xs => M.bind (f x) fun y => M.bind (collect f xs) fun ys => M.pure (oc y ys)
def collect2 (f : D → M (List D)) : List D → M (List D)
  | [] => M.pure []
  | x :: xs => M.bind (f x) fun y => M.bind (collect2 f xs) fun ys => M.pure (y ++ ys)

def lookD (kvs : List (List Int × D)) (k : List Int) : Option D := (kvs.find? fun kv => decide (kv.1 = k)).map (·.2)
def putD (kvs : List (List Int × D)) (k : List Int) (x : D) : List (List Int × D) :=
  if kvs.any (fun kv => decide (kv.1 = k)) then kvs.map fun kv => if kv.1 = k then (k, x) else kv else kvs ++ [(k, x)]

/-! ### expressions -/
section
variable (F : Nat → List D → M D)
mutual
def ev : E → Env → M D
  | .var i, env => getV env i
  | .bor i, env => getB env i
  | .con d, _ => M.pure d
  | .bin o a b, env => M.bind (ev a env) fun x => M.bind (ev b env) fun y => M.lift (binD o x y)
  | .cmp o a b, env => M.bind (ev a env) fun x => M.bind (ev b env) fun y => M.bind (M.lift (cmpD o x y)) fun r => M.pure (.bool r)
  | .cmp2 o p a b c, env => M.bind (ev a env) fun x => M.bind (ev b env) fun y => M.bind (M.lift (cmpD o x y)) fun r =>
      if r then M.bind (ev c env) fun z => M.bind (M.lift (cmpD p y z)) fun r => M.pure (.bool r) else M.pure (.bool false)
  | .and_ a b, env => M.bind (ev a env) fun x => M.bind (M.lift (truD x)) fun t => if t then ev b env else M.pure x
  | .or_ a b, env => M.bind (ev a env) fun x => M.bind (M.lift (truD x)) fun t => if t then M.pure x else ev b env
  | .not_ a, env => M.bind (ev a env) fun x => M.bind (M.lift (truD x)) fun t => M.pure (.bool (!t))
  | .neg a, env => M.bind (ev a env) fun x => M.bind (M.lift (intOf x)) fun i => M.pure (.int (-i))
  | .ite c a b, env => M.bind (ev c env) fun x => M.bind (M.lift (truD x)) fun t => if t then ev a env else ev b env
  | .tup es, env => M.bind (evs es env) fun ds => if ds.length ≤ big then M.pure (.tuple ds) else M.stuck
  | .lst es, env => M.bind (evs es env) fun ds => if ds.length ≤ big then M.pure (.list ds) else M.stuck
  | .idx a b, env => M.bind (ev a env) fun x => M.bind (ev b env) fun y => M.lift (idxD x y)
  | .slice a lo hi, env => M.bind (ev a env) fun x => M.bind (evo lo env) fun l => M.bind (evo hi env) fun h => M.lift (sliceD x l h)
  | .call f es, env => M.bind (evs es env) fun ds => F f ds
  | .blt b es, env => M.bind (evs es env) fun ds => M.lift (bltD b ds)
  | .isi t a, env => M.bind (ev a env) fun x => M.bind (M.lift (isiD t x)) fun r => M.pure (.bool r)
  | .comp own elt tg it c, env => M.bind (iters it env) fun ds => M.bind (guardB (clearE env own)) fun _ => M.bind (M.noex (collect (fun d => M.bind (M.lift (asg tg d (wipeE env own))) fun e =>
      M.bind (evc c e) fun t => if t then M.bind (ev elt e) fun y => M.pure (some y) else M.pure none) ds)) fun ys => if ys.length ≤ big then M.pure (.list ys) else M.stuck
  | .comp2 own own1 elt tg it tg1 it1, env => M.bind (iters it env) fun ds => M.bind (guardB (clearE env own)) fun _ => M.bind (M.noex (collect2 (fun d => M.bind (M.lift (asg tg d (wipeE env own))) fun e =>
      M.bind (iters it1 e) fun ds1 => M.bind (guardB (clearE e own1)) fun _ => collect (fun d1 => M.bind (M.lift (asg tg1 d1 (wipeE e own1))) fun e1 => M.bind (ev elt e1) fun y => M.pure (some y)) ds1) ds)) fun ys =>
      if ys.length ≤ big then M.pure (.list ys) else M.stuck
  | .listIt it, env => M.bind (iters it env) fun ds => M.pure (.list ds)
  | .getF k f a, env => M.bind (ev a env) fun x => getO k f x
  | .popF k f a, env => M.bind (ev a env) fun x => popO k f x
  | .neF k f a, env => M.bind (ev a env) fun x => neO k f x
  | .dget i k d, env => M.bind (getD env i) fun kvs => M.bind (ev k env) fun x => M.bind (ev d env) fun y => M.bind (M.lift (tupOf x)) fun k => M.pure ((lookD kvs k).getD y)
  | .dix i k, env => M.bind (getD env i) fun kvs => M.bind (ev k env) fun x => M.bind (M.lift (tupOf x)) fun k => M.lift (lookD kvs k)
  | .dsorted i, env => M.bind (getD env i) fun kvs => if kvs.all (fun kv => !kv.1.isEmpty) && decide (kvs.length ≤ big) then M.pure (.list (((kvs.map (·.1)).mergeSort lexLe).map tup)) else M.stuck
def evs : Es → Env → M (List D)
  | .nil, _ => M.pure []
  | .cons e es, env => M.bind (ev e env) fun x => M.bind (evs es env) fun xs => M.pure (x :: xs)
def evo : Oe → Env → M (Option Int)
  | .none, _ => M.pure none
  | .some e, env => M.bind (ev e env) fun x => M.bind (M.lift (intOf x)) fun i => M.pure (some i)
def evc : Oe → Env → M Bool
  | .none, _ => M.pure true
  | .some e, env => M.bind (ev e env) fun x => M.lift (truD x)
def iters : It → Env → M (List D)
  | .seq e, env => M.bind (ev e env) fun x => M.lift (itemsS x)
  | .rng1 a, env => M.bind (ev a env) fun x => M.bind (M.lift (intOf x)) fun j => if -(big : Int) ≤ j ∧ j ≤ big then M.pure (rngL 0 j.toNat) else M.stuck
  | .rng2 a b, env => M.bind (ev a env) fun x => M.bind (ev b env) fun y => M.bind (M.lift (intOf x)) fun i => M.bind (M.lift (intOf y)) fun j =>
      if -(big : Int) ≤ i ∧ i ≤ big ∧ -(big : Int) ≤ j ∧ j ≤ big ∧ j - i ≤ big then M.pure (rngL i (j - i).toNat) else M.stuck
  | .zip2 a b, env => M.bind (ev a env) fun x => M.bind (ev b env) fun y => M.lift (zipD x y)
  | .enum a, env => M.bind (ev a env) fun x => M.lift (enumD x)
end
end
/-! ### statements -/
inductive Fl where
  | nx
  | rt (d : D)
  | bk
  | ct
def frzC : Option Cell → Option Cell
  | some (.own xs) => some (.v (.list xs))
  | c => c
/-- the names at a return: what is one's own may go out -/
def frz (env : Env) : Env := env.map frzC
def frzI (env : Env) (i : Nat) : Env := match env[i]? with
  | some (some (.own xs)) => env.set i (some (.v (.list xs)))
  | _ => env
def frzS (env : Env) : List Nat → Env
  | [] => env
  | i :: is => frzS (frzI env i) is
def setC (env : Env) (i : Nat) (c : Cell) : M Env := if i < env.length then M.pure (env.set i (some c)) else M.stuck
def setAll (env : Env) : List Nat → List D → Option Env
  | [], [] => some env
  | i :: is, d :: ds => if i < env.length ∧ i ∉ is then setAll (env.set i (some (.v d))) is ds else none
  | _, _ => none
def forL (f : D → Env → M (Fl × Env)) : List D → Env → M (Fl × Env)
  | [], env => M.pure (.nx, env)
  | x :: xs, env => M.bind (f x env) fun r => match r.1 with
    | .nx => forL f xs r.2
    | .ct => forL f xs r.2
    | .bk => M.pure (.nx, r.2)
    | .rt d => M.pure (.rt d, r.2)
def whlN (c : Env → M Bool) (b : Env → M (Fl × Env)) : Nat → Env → M (Fl × Env)
  | 0, _ => M.stuck
  | n + 1, env => M.bind (c env) fun t => if t then M.bind (b env) fun r => match r.1 with
      | .nx => whlN c b n r.2
      | .ct => whlN c b n r.2
      | .bk => M.pure (.nx, r.2)
      | .rt d => M.pure (.rt d, r.2)
    else M.pure (.nx, env)
open Classical in
noncomputable def whl (c : Env → M Bool) (b : Env → M (Fl × Env)) (env : Env) : M (Fl × Env) := fun o =>
  if h : ∃ n, (whlN c b n env o).isSome = true then whlN c b (Classical.choose h) env o else none
section
variable (F : Nat → List D → M D)
def ownAt (env : Env) (i : Nat) : Option (List D) := match env[i]? with
  | some (some (.own xs)) => some xs
  | _ => none
def fieldC : Bool → E → Env → M Cell
  | false, e, env => M.bind (ev F e env) fun d => M.pure (.v d)
  | true, .var i, env => M.bind (M.lift (ownAt env i)) fun xs => M.pure (.own xs)
  | _, _, _ => M.stuck
def fields : List (Bool × E) → Env → M (List Cell)
  | [], _ => M.pure []
  | (b, e) :: fs, env => M.bind (fieldC F b e env) fun c => M.bind (fields fs env) fun cs => M.pure (c :: cs)
/-- the names whose lists go out -/
def headMv : Bool × E → Option Nat
  | (true, .var i) => some i
  | _ => none
def movedIx : List (Bool × E) → List Nat
  | [] => []
  | f :: fs => (headMv f).toList ++ movedIx fs
mutual
noncomputable def exec : S → Env → M (Fl × Env)
  | .set tg e, env => M.bind (ev F e env) fun d => M.bind (M.lift (asg tg d env)) fun env' => M.pure (.nx, env')
  | .own i e, env => M.bind (ev F e env) fun d => M.bind (M.lift (listOf d)) fun xs => M.bind (setC env i (.own xs)) fun env' => M.pure (.nx, env')
  | .par is es, env => M.bind (evs F es env) fun ds => M.bind (M.lift (setAll env is ds)) fun env' => M.pure (.nx, env')
  | .parO i j a b, env => M.bind (ev F a env) fun d => M.bind (M.lift (listOf d)) fun xs => M.bind (ev F b env) fun y => if i < env.length ∧ j < env.length ∧ i ≠ j then M.pure (.nx, (env.set i (some (.own xs))).set j (some (.v y))) else M.stuck
  | .dnew i, env => M.bind (setC env i (.dic [])) fun env' => M.pure (.nx, env')
  | .ret e, env => M.bind (ev F e (frz env)) fun d => M.pure (.rt d, env)
  | .retObj kind fs, env => M.bind (guardB (decide (movedIx fs).Nodup)) fun _ => M.bind (fields F fs env) fun cs => fun o => some (.ok (.rt (obj o.length), env) (o ++ [⟨kind, cs⟩]))
  | .frz is s, env => exec s (frzS env is)
  | .retN, env => M.pure (.rt .none, env)
  | .ite c a b, env => M.bind (ev F c env) fun x => M.bind (M.lift (truD x)) fun t => if t then execs a env else execs b env
  | .whl c b, env => whl (fun env => M.bind (ev F c env) fun x => M.lift (truD x)) (fun env => execs b env) env
  | .for_ tg it b, env => M.bind (iters F it env) fun ds => forL (fun d env => M.bind (M.lift (asg tg d env)) fun e => execs b e) ds env
  | .expr e, env => M.bind (ev F e env) fun _ => M.pure (.nx, env)
  | .append i e, env => M.bind (M.lift (ownAt env i)) fun xs => M.bind (ev F e env) fun d => if xs.length < big then M.pure (.nx, env.set i (some (.own (xs ++ [d])))) else M.stuck
  | .extend i e, env => M.bind (M.lift (ownAt env i)) fun xs => M.bind (ev F e env) fun d => M.bind (M.lift (listOf d)) fun ds => if xs.length + ds.length ≤ big then M.pure (.nx, env.set i (some (.own (xs ++ ds)))) else M.stuck
  | .seti i k v, env => M.bind (M.lift (ownAt env i)) fun xs => M.bind (ev F v env) fun d => M.bind (ev F k env) fun x => M.bind (M.lift (intOf x)) fun n => M.bind (M.lift (ixAt xs.length n)) fun j => M.pure (.nx, env.set i (some (.own (xs.set j d))))
  | .dset i k v, env => M.bind (getD env i) fun kvs => M.bind (ev F v env) fun d => M.bind (ev F k env) fun x => M.bind (M.lift (tupOf x)) fun t =>
      if kvs.length < big then M.pure (.nx, env.set i (some (.dic (putD kvs t d)))) else M.stuck
  | .setF kind fld o v, env => M.bind (ev F v env) fun d => M.bind (ev F o env) fun x => M.bind (setO kind fld x d) fun _ => M.pure (.nx, env)
  | .raise c, env => fun o => some (.ex c o)
  | .brk, env => M.pure (.bk, env)
  | .cont, env => M.pure (.ct, env)
  | .fail, _ => M.stuck
noncomputable def execs : Ss → Env → M (Fl × Env)
  | .nil, env => M.pure (.nx, env)
  | .cons s ss, env => M.bind (exec s env) fun r => match r.1 with
    | .nx => execs ss r.2
    | _ => M.pure r
end
end
structure Fn where
  np : Nat
  nv : Nat
  body : Ss
def startE (fn : Fn) (ds : List D) : Env := ds.map (fun d => some (.v d)) ++ List.replicate (fn.nv - fn.np) none
noncomputable def runF (F : Nat → List D → M D) (fn : Fn) (ds : List D) : M D :=
  if ds.length = fn.np then M.bind (execs F fn.body (startE fn ds)) fun r => match r.1 with
    | .rt d => M.pure d
    | .nx => M.pure .none
    | _ => M.stuck
  else M.stuck
end Tn
set_option Elab.async false
set_option linter.all false
set_option maxRecDepth 100000
set_option maxHeartbeats 1000000
namespace Tn
open PySem PySem.Spec PyProof.Rows L2

/-- what owns an object that may change -/
inductive Ky where
  | sl (i : Nat)
  | ob (k : Nat)
  | fl (k j : Nat)
  | tmp
  deriving DecidableEq
abbrev Mp := Ky → Option Addr
structure Par where
  K : PySem.W.Frag
  O : Addr → Prop
  kinds : List (List Str)

def AV (P : Par) (m : Mp) (a : Addr) : Prop := P.O a ∨ ∃ k, m k = some a
/-- objects that may change -/
def Mu : HO → Prop
  | .lst _ => True
  | .dK _ => True
  | .dT _ => True
  | _ => False
/-- a list that is known for good -/
def Scr (K : PySem.W.Frag) (H : Hp) (a : Addr) (xs : List V) : Prop := (∃ o, H a = some (.frz o (.lst xs))) ∨
  ∃ (o : Obj) (its : Array Value) (n : Nat), K.lookup a = some o ∧ o.cls = .type "list" ∧ o.dict = none ∧ o.data = .seq its n ∧ its.size ≤ sizeLine ∧ Vals xs its.toList
theorem Scr.sq {K : PySem.W.Frag} {H : Hp} {a : Addr} {xs : List V} (h : Scr K H a xs) : SqL K H a xs := h.elim (fun ⟨o, z⟩ => .inl (.inr ⟨o, z⟩)) .inr
theorem Scr.keep {K : PySem.W.Frag} {H H' : Hp} {a : Addr} {xs : List V} (h : Scr K H a xs) (k : ∀ o, H a = some o → ¬ Mu o → H' a = some o) : Scr K H' a xs :=
  h.elim (fun ⟨o, z⟩ => .inl ⟨o, k _ z fun y => y⟩) .inr
mutual
inductive Rep (P : Par) (m : Mp) (H : Hp) : V → D → Prop
  | non : Rep P m H .non .none
  | bl (b : Bool) : Rep P m H (.bl b) (.bool b)
  | int (i : Int) : Rep P m H (.int i) (.int i)
  | str (x : Str) : Rep P m H (.str x) (.str x)
  | lst {a : Addr} {xs : List V} {ds : List D} : (Rd H a (.lst xs) ∧ ¬ AV P m a) → RepAll P m H xs ds → Rep P m H (.ref a) (.list ds)
  | tup {a : Addr} {xs : List V} {ds : List D} : H a = some (.tup xs) → RepAll P m H xs ds → Rep P m H (.ref a) (.tuple ds)
  | obj {a : Addr} {k : Nat} : m (.ob k) = some a → Rep P m H (.ref a) (obj k)
  | scr {a : Addr} {xs : List V} {ds : List D} : Scr P.K H a xs → RepAll P m H xs ds → Rep P m H (.ref a) (scrD ds)
inductive RepAll (P : Par) (m : Mp) (H : Hp) : List V → List D → Prop
  | nil : RepAll P m H [] []
  | cons {v : V} {vs : List V} {d : D} {ds : List D} : Rep P m H v d → RepAll P m H vs ds → RepAll P m H (v :: vs) (d :: ds)
end
/-- an operand: a list of one's own, too -/
def RepT (P : Par) (σ : L2.St) (env : Env) (m : Mp) (H : Hp) (v : V) (d : D) : Prop :=
  Rep P m H v d ∨ ∃ (i : Nat) (xs : List D), σ[i]? = some (some v) ∧ env[i]? = some (some (.own xs)) ∧ d = .list xs
abbrev RR := L2.St → Env → Mp → Hp → V → D → Prop
abbrev RV (P : Par) : RR := fun _ _ m H v d => Rep P m H v d

section
variable {P : Par} {m m' : Mp} {H H' : Hp}
theorem RepAll.len : ∀ {vs : List V} {ds : List D}, RepAll P m H vs ds → vs.length = ds.length
  | _, _, .nil => rfl
  | _, _, .cons _ t => congrArg Nat.succ (RepAll.len t)
theorem RepAll.get : ∀ {vs : List V} {ds : List D} {i : Nat} {d : D}, RepAll P m H vs ds → ds[i]? = some d → ∃ v, vs[i]? = some v ∧ Rep P m H v d
  | _, _, _, _, .nil, e => by simp at e
  | _, _, 0, _, .cons r _, e => by simp at e; subst e; exact ⟨_, rfl, r⟩
  | _, _, i + 1, d, .cons _ t, e => by
    obtain ⟨v, h1, h2⟩ := RepAll.get (i := i) (d := d) t (by simpa using e)
    exact ⟨v, by simpa using h1, h2⟩
theorem RepAll.getV : ∀ {vs : List V} {ds : List D} {i : Nat} {v : V}, RepAll P m H vs ds → vs[i]? = some v → ∃ d, ds[i]? = some d ∧ Rep P m H v d
  | _, _, _, _, .nil, e => by simp at e
  | _, _, 0, _, .cons r _, e => by simp at e; subst e; exact ⟨_, rfl, r⟩
  | _, _, i + 1, v, .cons _ t, e => by
    obtain ⟨d, h1, h2⟩ := RepAll.getV (i := i) (v := v) t (by simpa using e)
    exact ⟨d, by simpa using h1, h2⟩
theorem RepAll.app : ∀ {vs ws : List V} {ds es : List D}, RepAll P m H vs ds → RepAll P m H ws es → RepAll P m H (vs ++ ws) (ds ++ es)
  | _, _, _, _, .nil, s => s
  | _, _, _, _, .cons r t, s => .cons r (RepAll.app t s)
theorem RepAll.set {v : V} {d : D} (r : Rep P m H v d) : ∀ {vs : List V} {ds : List D} (i : Nat), RepAll P m H vs ds → RepAll P m H (vs.set i v) (ds.set i d)
  | _, _, _, .nil => .nil
  | _, _, 0, .cons _ t => .cons r t
  | _, _, i + 1, .cons q t => .cons q (RepAll.set r i t)
theorem RepAll.take : ∀ {vs : List V} {ds : List D} (n : Nat), RepAll P m H vs ds → RepAll P m H (vs.take n) (ds.take n)
  | _, _, 0, _ => .nil
  | _, _, _ + 1, .nil => .nil
  | _, _, n + 1, .cons r t => .cons r (RepAll.take n t)
theorem RepAll.drop : ∀ {vs : List V} {ds : List D} (n : Nat), RepAll P m H vs ds → RepAll P m H (vs.drop n) (ds.drop n)
  | _, _, 0, r => r
  | _, _, _ + 1, .nil => .nil
  | _, _, n + 1, .cons _ t => RepAll.drop n t
theorem RepAll.rep {vs : List V} {ds : List D} (r : RepAll P m H vs ds) : ∀ n : Nat, RepAll P m H (List.replicate n vs).flatten (List.replicate n ds).flatten
  | 0 => .nil
  | n + 1 => by
    rw [List.replicate_succ, List.replicate_succ, List.flatten_cons, List.flatten_cons]
    exact r.app (RepAll.rep r n)
theorem RepAll.ints : ∀ {vs : List V} {ns : List Int}, RepAll P m H vs (ns.map .int) → vs = ns.map V.int
  | _, [], h => by
    cases h
    rfl
  | _, n :: ns, h => by
    cases h with
    | cons r t =>
      cases r
      rw [RepAll.ints t]
      rfl
theorem RepAll.bools : ∀ {vs : List V} {bs : List Bool}, RepAll P m H vs (bs.map .bool) → vs = bs.map V.bl
  | _, [], h => by
    cases h
    rfl
  | _, n :: ns, h => by
    cases h with
    | cons r t =>
      cases r
      rw [RepAll.bools t]
      rfl
theorem RepAll.of_ints : ∀ (ns : List Int), RepAll P m H (ns.map V.int) (ns.map .int)
  | [] => .nil
  | n :: ns => .cons (.int n) (RepAll.of_ints ns)

/-- where one stands later -/
structure Step (m : Mp) (H : Hp) (m' : Mp) (H' : Hp) : Prop where
  keep : ∀ a o, H a = some o → (∀ k, m k ≠ some a) → H' a = some o
  fix : ∀ a o, H a = some o → ¬ Mu o → H' a = some o
  new : ∀ k a, m' k = some a → (∃ k', m k' = some a) ∨ H a = none
  ob : ∀ k a, m (.ob k) = some a → m' (.ob k) = some a
theorem Step.refl : Step m H m H := ⟨fun _ _ h _ => h, fun _ _ h _ => h, fun k a h => .inl ⟨k, h⟩, fun _ _ h => h⟩
theorem Step.trans {m1 m2 m3 : Mp} {H1 H2 H3 : Hp} (s : Step m1 H1 m2 H2) (t : Step m2 H2 m3 H3) : Step m1 H1 m3 H3 := by
  refine ⟨fun a o h n => t.keep a o (s.keep a o h n) fun k e => ?_, fun a o h n => t.fix a o (s.fix a o h n) n, fun k a e => ?_, fun k a e => t.ob k a (s.ob k a e)⟩
  · rcases s.new k a e with ⟨k', e'⟩ | e'
    · exact n k' e'
    · rw [h] at e'; cases e'
  · rcases t.new k a e with ⟨k', e'⟩ | e'
    · exact s.new k' a e'
    · by_cases hm : ∃ k', m1 k' = some a
      · exact .inl hm
      · cases q : H1 a with
        | none => exact .inr rfl
        | some o =>
          have := s.keep a o q fun k' e2 => hm ⟨k', e2⟩
          rw [e'] at this; cases this
theorem Step.rd (s : Step m H m' H') {a : Addr} {xs : List V} (h : Rd H a (.lst xs)) (n : ¬ AV P m a) : Rd H' a (.lst xs) ∧ ¬ AV P m' a := by
  have there : ∃ o, H a = some o := by
    rcases h with h | ⟨o, h⟩
    · exact ⟨_, h⟩
    · exact ⟨_, h⟩
  have k : ∀ o, H a = some o → H' a = some o := fun o e => s.keep a o e fun k e' => n (.inr ⟨k, e'⟩)
  refine ⟨?_, ?_⟩
  · rcases h with h | ⟨o, h⟩
    · exact .inl (k _ h)
    · exact .inr ⟨o, k _ h⟩
  · rintro (z | ⟨k', e⟩)
    · exact n (.inl z)
    · rcases s.new k' a e with z | z
      · exact n (.inr z)
      · obtain ⟨o, ho⟩ := there
        rw [z] at ho; cases ho
theorem Step.sqT (s : Step m H m' H') {K : PySem.W.Frag} {a : Addr} {xs : List V} (h : SqT K H a xs) : SqT K H' a xs := by
  rcases h with (h | ⟨o, h⟩) | h
  · exact .inl (.inl (s.fix a _ h fun z => z))
  · exact .inl (.inr ⟨o, s.fix a _ h fun z => z⟩)
  · exact .inr h
mutual
theorem Rep.step (s : Step m H m' H') : ∀ {v : V} {d : D}, Rep P m H v d → Rep P m' H' v d
  | _, _, .non => .non
  | _, _, .bl b => .bl b
  | _, _, .int i => .int i
  | _, _, .str x => .str x
  | _, _, .lst h t => .lst (s.rd h.1 h.2) (RepAll.step s t)
  | _, _, .tup h t => .tup (s.fix _ _ h fun z => z) (RepAll.step s t)
  | _, _, .obj h => .obj (s.ob _ _ h)
  | _, _, .scr h t => .scr (h.keep fun o ho nm => s.fix _ _ ho nm) (RepAll.step s t)
theorem RepAll.step (s : Step m H m' H') : ∀ {vs : List V} {ds : List D}, RepAll P m H vs ds → RepAll P m' H' vs ds
  | _, _, .nil => .nil
  | _, _, .cons r t => .cons (Rep.step s r) (RepAll.step s t)
end
/-- a smaller set to be kept out -/
theorem AV.mono {P P' : Par} (hO : ∀ a, P'.O a → AV P m a) (hm : ∀ k a, m' k = some a → AV P m a) {a : Addr} (h : AV P' m' a) : AV P m a := by
  rcases h with h | ⟨k, h⟩
  · exact hO a h
  · exact hm k a h
mutual
theorem Rep.less {P' : Par} (hK : P'.K = P.K) (hA : ∀ a, AV P' m' a → AV P m a) (ho : ∀ k a, m (.ob k) = some a → m' (.ob k) = some a) : ∀ {v : V} {d : D}, Rep P m H v d → Rep P' m' H v d
  | _, _, .non => .non
  | _, _, .bl b => .bl b
  | _, _, .int i => .int i
  | _, _, .str x => .str x
  | _, _, .lst h t => .lst ⟨h.1, fun z => h.2 (hA _ z)⟩ (RepAll.less hK hA ho t)
  | _, _, .tup h t => .tup h (RepAll.less hK hA ho t)
  | _, _, .obj h => .obj (ho _ _ h)
  | _, _, .scr h t => .scr (hK ▸ h) (RepAll.less hK hA ho t)
theorem RepAll.less {P' : Par} (hK : P'.K = P.K) (hA : ∀ a, AV P' m' a → AV P m a) (ho : ∀ k a, m (.ob k) = some a → m' (.ob k) = some a) : ∀ {vs : List V} {ds : List D}, RepAll P m H vs ds → RepAll P' m' H vs ds
  | _, _, .nil => .nil
  | _, _, .cons r t => .cons (Rep.less hK hA ho r) (RepAll.less hK hA ho t)
end
mutual
theorem Rep.dp : ∀ {v : V} {d : D}, Rep P m H v d → ∀ n, shN n d = true → Dp P.K H v d
  | _, _, .non, _, _ => .non
  | _, _, .bl b, _, _ => .bl b
  | _, _, .int i, _, _ => .int i
  | _, _, .str x, _, _ => .str x
  | _, _, .lst h t, 0, q => by simp [shN] at q
  | _, _, .lst h t, n + 1, q => by
    exact .lst (.inl h.1) (RepAll.dp t n (by simpa [shN] using q))
  | _, _, .tup h t, 0, q => by simp [shN] at q
  | _, _, .tup h t, n + 1, q => .tup (.inl (.inl h)) (RepAll.dp t n (by simpa [shN] using q))
  | _, _, .obj h, 0, q => by simp [shN, obj] at q
  | _, _, .obj h, n + 1, q => by simp [shN, obj] at q
  | _, _, .scr h t, 0, q => by simp [shN, scrD] at q
  | _, _, .scr h t, n + 1, q => by simp [shN, scrD] at q
theorem RepAll.dp : ∀ {vs : List V} {ds : List D}, RepAll P m H vs ds → ∀ n, (∀ d ∈ ds, shN n d = true) → DpAll P.K H vs ds
  | _, _, .nil, _, _ => .nil
  | _, _, .cons r t, n, q => .cons (Rep.dp r n (q _ List.mem_cons_self)) (RepAll.dp t n fun d hd => q d (List.mem_cons_of_mem _ hd))
end
end
end Tn
set_option Elab.async false
set_option linter.all false
set_option maxRecDepth 100000
set_option maxHeartbeats 1000000
namespace Tn
open PySem PySem.Spec PyProof.Rows L2

def SlotR (P : Par) (m : Mp) (H : Hp) (σ : L2.St) (i : Nat) : Cell → Prop
  | .v d => ∃ v, σ[i]? = some (some v) ∧ Rep P m H v d
  | .own xs => ∃ (a : Addr) (ws : List V), m (.sl i) = some a ∧ σ[i]? = some (some (.ref a)) ∧ H a = some (.lst ws) ∧ RepAll P m H ws xs
  | .dic kvs => ∃ (a : Addr) (kws : List (List Key × V)), m (.sl i) = some a ∧ σ[i]? = some (some (.ref a)) ∧ H a = some (.dT kws) ∧
      kws.map (·.1) = kvs.map (fun p => p.1.map Sum.inl) ∧ RepAll P m H (kws.map (·.2)) (kvs.map (·.2))
def FieldR (P : Par) (m : Mp) (H : Hp) (vs : List V) (k j : Nat) : Cell → Prop
  | .v d => ∃ v, vs[j]? = some v ∧ Rep P m H v d
  | .own xs => ∃ (a : Addr) (ws : List V), m (.fl k j) = some a ∧ vs[j]? = some (.ref a) ∧ H a = some (.lst ws) ∧ RepAll P m H ws xs
  | .dic _ => False
def zipK (ks : List Str) (vs : List V) : List (Key × V) := List.zipWith (fun x v => (Sum.inr x, v)) ks vs
def ObjR (P : Par) (m : Mp) (H : Hp) (k : Nat) (s : OState) : Prop :=
  ∃ (a : Addr) (ks : List Str) (vs : List V), m (.ob k) = some a ∧ P.kinds[s.kind]? = some ks ∧ ks.length = s.fs.length ∧ vs.length = s.fs.length ∧
    H a = some (.dK (zipK ks vs)) ∧ ∀ j c, s.fs[j]? = some c → FieldR P m H vs k j c
structure RelO (P : Par) (H : Hp) (objs : Objs) (m : Mp) : Prop where
  inj : ∀ k k' a, m k = some a → m k' = some a → k = k'
  dis : ∀ k a, m k = some a → ¬ P.O a
  alive : ∀ k a, m k = some a → ∃ o, H a = some o ∧ Mu o
  oal : ∀ a, P.O a → ∃ o, H a = some o
  obs : ∀ k s, objs[k]? = some s → ObjR P m H k s
  obn : ∀ k, objs.length ≤ k → m (.ob k) = none
structure Rel (P : Par) (σ : L2.St) (H : Hp) (env : Env) (objs : Objs) (m : Mp) : Prop extends RelO P H objs m where
  len : σ.length = env.length
  slot : ∀ i c, env[i]? = some (some c) → SlotR P m H σ i c

section
variable {P : Par} {m m' : Mp} {H H' : Hp} {σ : L2.St} {env : Env} {objs : Objs}
/-- everything stands, and more -/
def Keeps (H H' : Hp) : Prop := ∀ a o, H a = some o → H' a = some o
theorem Keeps.step (k : Keeps H H') : Step m H m H' := ⟨fun a o h _ => k a o h, fun a o h _ => k a o h, fun k a h => .inl ⟨k, h⟩, fun _ _ h => h⟩
theorem keeps_upd {p : Addr} {o : HO} (h : H p = none) : Keeps H (upd H p o) := fun b x e => by
  rw [upd_ne (ne_of_none e h)]
  exact e
theorem SlotR.keeps (k : Keeps H H') {i : Nat} {c : Cell} (h : SlotR P m H σ i c) : SlotR P m H' σ i c := by
  cases c with
  | v d => obtain ⟨v, e, r⟩ := h; exact ⟨v, e, r.step k.step⟩
  | own xs => obtain ⟨a, ws, e1, e2, e3, r⟩ := h; exact ⟨a, ws, e1, e2, k _ _ e3, r.step k.step⟩
  | dic kvs => obtain ⟨a, ws, e1, e2, e3, e4, r⟩ := h; exact ⟨a, ws, e1, e2, k _ _ e3, e4, r.step k.step⟩
theorem FieldR.keeps (k : Keeps H H') {vs : List V} {n j : Nat} {c : Cell} (h : FieldR P m H vs n j c) : FieldR P m H' vs n j c := by
  cases c with
  | v d => obtain ⟨v, e, r⟩ := h; exact ⟨v, e, r.step k.step⟩
  | own xs => obtain ⟨a, ws, e1, e2, e3, r⟩ := h; exact ⟨a, ws, e1, e2, k _ _ e3, r.step k.step⟩
  | dic kvs => exact h
theorem RelO.keeps (R : RelO P H objs m) (k : Keeps H H') : RelO P H' objs m := by
  refine ⟨R.inj, R.dis, fun x a e => ?_, fun a e => ?_, fun n s e => ?_, R.obn⟩
  · obtain ⟨o, h1, h2⟩ := R.alive x a e; exact ⟨o, k _ _ h1, h2⟩
  · obtain ⟨o, h1⟩ := R.oal a e; exact ⟨o, k _ _ h1⟩
  · obtain ⟨a, ks, vs, h1, h2, h3, h4, h5, h6⟩ := R.obs n s e
    exact ⟨a, ks, vs, h1, h2, h3, h4, k _ _ h5, fun j c hc => (h6 j c hc).keeps k⟩
theorem Rel.keeps (R : Rel P σ H env objs m) (k : Keeps H H') : Rel P σ H' env objs m :=
  ⟨R.toRelO.keeps k, R.len, fun i c e => (R.slot i c e).keeps k⟩
theorem RelO.free (R : RelO P H objs m) {p : Addr} (h : H p = none) (k : Ky) : m k ≠ some p := fun e => by
  obtain ⟨o, h1, _⟩ := R.alive k p e
  rw [h] at h1; cases h1
theorem RelO.freeO (R : RelO P H objs m) {p : Addr} (h : H p = none) : ¬ P.O p := fun e => by
  obtain ⟨o, h1⟩ := R.oal p e
  rw [h] at h1; cases h1
theorem RelO.av (R : RelO P H objs m) {p : Addr} (h : H p = none) : ¬ AV P m p := by
  rintro (z | ⟨k, z⟩)
  · exact R.freeO h z
  · exact R.free h k z

/-! ### one more owner, one less -/
def mset (m : Mp) (k : Ky) (a : Option Addr) : Mp := fun k' => if k' = k then a else m k'
theorem mset_same {k : Ky} {a : Option Addr} : mset m k a k = a := by unfold mset; rw [if_pos rfl]
theorem mset_ne {k k' : Ky} {a : Option Addr} (h : k' ≠ k) : mset m k a k' = m k' := by unfold mset; rw [if_neg h]
end

/-! ### readings -/
section
variable (P : Par) (F : Nat → List D → M D) (W : Nat → Hp → Prop)
def Post {α : Type} (σ : L2.St) (env : Env) (m : Mp) (H : Hp) (r : Option (Out α)) (G : α → Objs → Prop) : Prop := match r with
  | none => False
  | some (.ok a o) => G a o
  | some (.ex c o) => ∀ H' m', Rel P σ H' env o m' → Step m H m' H' → W c H'
def rdR (R : RR) (p : E) : TE := fun σ H Q => ∃ env objs m, Rel P σ H env objs m ∧ m .tmp = none ∧
  Post P W σ env m H (ev F p env objs) fun d objs' => ∀ v H' m', Rel P σ H' env objs' m' → m' .tmp = none → Step m H m' H' → R σ env m' H' v d → Q v H'
/-- a value -/
abbrev rd : E → TE := rdR P F W (RV P)
/-- an operand -/
abbrev rdO : E → TE := rdR P F W (RepT P)
/-- a test -/
def rdT (p : E) : TT := fun σ H Q => ∃ env objs m, Rel P σ H env objs m ∧ m .tmp = none ∧
  Post P W σ env m H (M.bind (ev F p env) (fun d => M.lift (truD d)) objs) fun b objs' => ∀ H' m', Rel P σ H' env objs' m' → m' .tmp = none → Step m H m' H' → Q b H'
/-- several values, operands -/
inductive AllR (R : V → D → Prop) : List V → List D → Prop
  | nil : AllR R [] []
  | cons {v : V} {vs : List V} {d : D} {ds : List D} : R v d → AllR R vs ds → AllR R (v :: vs) (d :: ds)
def rdA (R : RR) (ps : Es) : TA := fun σ H Q => ∃ env objs m, Rel P σ H env objs m ∧ m .tmp = none ∧
  Post P W σ env m H (evs F ps env objs) fun ds objs' => ∀ vs H' m', Rel P σ H' env objs' m' → m' .tmp = none → Step m H m' H' → AllR (R σ env m' H') vs ds → Q vs H'
/-- a new list, that nothing else knows -/
def rdF (p : E) : TE := fun σ H Q => ∃ env objs m, Rel P σ H env objs m ∧ m .tmp = none ∧
  Post P W σ env m H (ev F p env objs) fun d objs' => ∃ ds, d = .list ds ∧ ∀ a ws H' m', Rel P σ H' env objs' m' → m' .tmp = some a → Step m H m' H' → H' a = some (.lst ws) → RepAll P m' H' ws ds → Q (.ref a) H'
end
section
variable {P : Par} {F : Nat → List D → M D} {W : Nat → Hp → Prop} {σ : L2.St} {env : Env} {m m' m1 : Mp} {H H' H1 : Hp} {objs : Objs}
theorem Post.later {α : Type} {r : Option (Out α)} {G : α → Objs → Prop} (s : Step m H m1 H1) (h : Post P W σ env m H r G) : Post P W σ env m1 H1 r G := by
  unfold Post at *
  split
  · exact h
  · exact h
  · exact fun H' m' R t => h H' m' R (s.trans t)
theorem Post.imp {α : Type} {r : Option (Out α)} {G G' : α → Objs → Prop} (h : Post P W σ env m H r G) (k : ∀ a o, G a o → G' a o) : Post P W σ env m H r G' := by
  unfold Post at *
  split
  · exact h
  · exact k _ _ h
  · exact h
theorem RepT.step (s : Step m H m' H') {v : V} {d : D} (hr : RepT P σ env m H v d) : RepT P σ env m' H' v d := hr.elim (fun r => .inl (r.step s)) .inr
theorem RepT.list {v : V} {ds : List D} (hr : RepT P σ env m H v (.list ds)) (R : Rel P σ H env objs m) : ∃ (a : Addr) (vs : List V), v = .ref a ∧ Rd H a (.lst vs) ∧ RepAll P m H vs ds := by
  rcases hr with r | ⟨i, xs, e1, e2, e3⟩
  · cases r with
    | lst h t => exact ⟨_, _, rfl, h.1, t⟩
  · cases e3
    obtain ⟨a, ws, h1, h2, h3, h4⟩ := R.slot i _ e2
    rw [e1] at h2
    cases h2
    exact ⟨a, ws, rfl, .inl h3, h4⟩
theorem RepT.rep {v : V} {d : D} (hr : RepT P σ env m H v d) (h : ∀ ds, d ≠ .list ds) : Rep P m H v d := by
  rcases hr with r | ⟨i, xs, e1, e2, e3⟩
  · exact r
  · exact absurd e3 (h xs)
theorem Rep.tuple {v : V} {ds : List D} (hr : Rep P m H v (.tuple ds)) : ∃ (a : Addr) (vs : List V), v = .ref a ∧ H a = some (.tup vs) ∧ RepAll P m H vs ds := by
  cases hr with
  | tup h t => exact ⟨_, _, rfl, h, t⟩
theorem RepT.dp {v : V} {d : D} (hr : RepT P σ env m H v d) (R : Rel P σ H env objs m) (q : sh d = true) : Dp P.K H v d := by
  rcases hr with r | ⟨i, xs, e1, e2, e3⟩
  · exact r.dp _ q
  · subst e3
    obtain ⟨a, vs, rfl, h, t⟩ := RepT.list (.inr ⟨i, xs, e1, e2, rfl⟩) R
    exact .lst (.inl h) (t.dp 7 (by simpa [sh, shN] using q))
/-- one expression, then what follows -/
theorem rd_seq {R : RR} {a : E} {α : Type} {f : D → M α} {G : α → Objs → Prop} {Q : VK} (rel : Rel P σ H env objs m) (tm : m .tmp = none)
    (h : Post P W σ env m H (M.bind (ev F a env) f objs) G)
    (k : ∀ v H1 m1 d objs1, Rel P σ H1 env objs1 m1 → m1 .tmp = none → Step m H m1 H1 → R σ env m1 H1 v d → Post P W σ env m1 H1 (f d objs1) G → Q v H1) : rdR P F W R a σ H Q := by
  refine ⟨env, objs, m, rel, tm, ?_⟩
  unfold M.bind at h
  unfold Post at h ⊢
  cases e : ev F a env objs with
  | none => rw [e] at h; exact h
  | some r =>
    cases r with
    | ok d o => 
      rw [e] at h
      exact fun v H' m' rel' tm' s r => k v H' m' d o rel' tm' s r (Post.later (m := m) (H := H) s h)
    | ex c o => rw [e] at h; exact h
theorem rdA_seq {R : RR} {a : Es} {α : Type} {f : List D → M α} {G : α → Objs → Prop} {Q : List V → Hp → Prop} (rel : Rel P σ H env objs m) (tm : m .tmp = none)
    (h : Post P W σ env m H (M.bind (evs F a env) f objs) G)
    (k : ∀ vs H1 m1 ds objs1, Rel P σ H1 env objs1 m1 → m1 .tmp = none → Step m H m1 H1 → AllR (R σ env m1 H1) vs ds → Post P W σ env m1 H1 (f ds objs1) G → Q vs H1) : rdA P F W R a σ H Q := by
  refine ⟨env, objs, m, rel, tm, ?_⟩
  unfold M.bind at h
  unfold Post at h ⊢
  cases e : evs F a env objs with
  | none => rw [e] at h; exact h
  | some r =>
    cases r with
    | ok d o => 
      rw [e] at h
      exact fun v H' m' rel' tm' s r => k v H' m' d o rel' tm' s r (Post.later (m := m) (H := H) s h)
    | ex c o => rw [e] at h; exact h
theorem M.bind_none {α β : Type} {x : M α} {f : α → M β} {o : Objs} (h : x o = none) : M.bind x f o = none := by
  unfold M.bind
  rw [h]
theorem M.bind_ok {α β : Type} {x : M α} {f : α → M β} {o o' : Objs} {a : α} (h : x o = some (.ok a o')) : M.bind x f o = f a o' := by
  unfold M.bind
  rw [h]
theorem M.bind_ex {α β : Type} {x : M α} {f : α → M β} {o o' : Objs} {c : Nat} (h : x o = some (.ex c o')) : M.bind x f o = some (.ex c o') := by
  unfold M.bind
  rw [h]
theorem rdT_seq {a : E} {α : Type} {f : Bool → M α} {G : α → Objs → Prop} {Q : Bool → Hp → Prop} (rel : Rel P σ H env objs m) (tm : m .tmp = none)
    (h : Post P W σ env m H (M.bind (M.bind (ev F a env) fun d => M.lift (truD d)) f objs) G)
    (k : ∀ b H1 m1 objs1, Rel P σ H1 env objs1 m1 → m1 .tmp = none → Step m H m1 H1 → Post P W σ env m1 H1 (f b objs1) G → Q b H1) : rdT P F W a σ H Q := by
  refine ⟨env, objs, m, rel, tm, ?_⟩
  cases e : M.bind (ev F a env) (fun d => M.lift (truD d)) objs with
  | none =>
    rw [M.bind_none e] at h
    exact h
  | some r =>
    cases r with
    | ok d o =>
      rw [M.bind_ok e] at h
      exact fun H' m' rel' tm' s => k d H' m' o rel' tm' s (Post.later (m := m) (H := H) s h)
    | ex c o =>
      rw [M.bind_ex e] at h
      exact h
theorem M.bind_assoc {α β γ : Type} (x : M α) (f : α → M β) (g : β → M γ) : M.bind (M.bind x f) g = M.bind x fun a => M.bind (f a) g := by
  funext o
  unfold M.bind
  cases x o with
  | none => rfl
  | some r => cases r <;> rfl
theorem M.pure_bind {α β : Type} (a : α) (f : α → M β) : M.bind (M.pure a) f = f a := rfl
theorem M.stuck_bind {α β : Type} (f : α → M β) : M.bind (M.stuck : M α) f = M.stuck := rfl
theorem M.bind_pure {α : Type} (x : M α) : M.bind x M.pure = x := by
  funext o
  unfold M.bind M.pure
  cases x o with
  | none => rfl
  | some r => cases r <;> rfl
theorem Post.stuck {α : Type} {G : α → Objs → Prop} (h : Post P W σ env m H (M.stuck objs) G) : False := h
theorem Post.lift {α : Type} {x : Option α} {G : α → Objs → Prop} (h : Post P W σ env m H (M.lift x objs) G) : ∃ a, x = some a ∧ G a objs := by
  cases x with
  | none => exact h.elim
  | some a => exact ⟨a, rfl, h⟩
theorem Post.liftB {α β : Type} {x : Option α} {f : α → M β} {G : β → Objs → Prop} (h : Post P W σ env m H (M.bind (M.lift x) f objs) G) : ∃ a, x = some a ∧ Post P W σ env m H (f a objs) G := by
  cases x with
  | none => exact h.elim
  | some a => exact ⟨a, rfl, h⟩
end
section
variable {X : Cx} {e : Expr}
theorem peC {t t' : TE} (h : PE X e t) (k : ∀ σ H Q, t' σ H Q → t σ H Q) : PE X e t' := ⟨fun pins s σ H Q I q => h.run pins s σ H Q I (k σ H Q q)⟩
theorem ptC {t t' : TT} (h : PT X e t) (k : ∀ σ H Q, t' σ H Q → t σ H Q) : PT X e t' := ⟨fun pins s σ H Q I q => h.run pins s σ H Q I (k σ H Q q)⟩
theorem paC {es : List Expr} {t t' : TA} (h : PA X es t) (k : ∀ σ H Q, t' σ H Q → t σ H Q) : PA X es t' := ⟨fun pos pins s σ H Q I q => h.run pos pins s σ H Q I (k σ H Q q)⟩
end
end Tn
set_option Elab.async false
set_option linter.all false
set_option maxRecDepth 100000
set_option maxHeartbeats 4000000
namespace Tn
open PySem PySem.Spec PyProof.Rows L2
section
variable {X : Cx}
theorem big_line : big = sizeLine := by rw [sizeLine_eq]
theorem Inv.rdl {pins : List (Addr × Obj)} {σ : L2.St} {H : Hp} {s : Shared} {l : Addr} {xs : List V} (I : Inv X pins σ H s) (hH : Rd H l (.lst xs)) : xs.length ≤ sizeLine ∧ ∃ (its : List Value) (n : Nat), Vals xs its ∧ xs.length = its.length ∧ s.heap.get? l = some { cls := .type "list", data := .seq its.toArray n } := by
  obtain ⟨z, its, n, r, e⟩ := hH.ok I.hok
  exact ⟨z, its, n, r, r.length, e⟩
/-! ### + -/
def rCatR : R2 := fun x y H Q => ∃ l b xs zs, x = .ref l ∧ y = .ref b ∧ Rd H l (.lst xs) ∧ Rd H b (.lst zs) ∧ xs.length + zs.length ≤ sizeLine ∧ ∀ p, H p = none → Q (.ref p) (upd H p (.lst (xs ++ zs)))
theorem op_catR : OpR X (binaryOp .Add) rCatR := by
  intro pins s σ H x y v u Q I rx ry h
  obtain ⟨l, b, xs, zs, rfl, rfl, hH, hB, hz, q⟩ := h
  cases rx
  cases ry
  obtain ⟨z, its, n, r, hl, e⟩ := Tn.Inv.rdl I hH
  obtain ⟨z2, its2, n2, r2, hl2, e2⟩ := Tn.Inv.rdl I hB
  refine PySem.P.add_list e e2 ?_ (by rw [List.size_toArray, List.size_toArray]; omega)
  have ea : its.toArray ++ its2.toArray = (its ++ its2).toArray := by simp
  rw [ea]
  exact ⟨.ref _, _, I.lnew (t' := s.toks) (r.append r2) (by rw [List.length_append]; omega), rfl, q _ I.fresh⟩
/-! ### list * int -/
def rRepR : R2 := fun x y H Q => ∃ l k xs, x = .ref l ∧ y = .int k ∧ Rd H l (.lst xs) ∧ -(2 ^ 63) ≤ k ∧ k < 2 ^ 63 ∧ xs.length * k.toNat ≤ sizeLine ∧
  ∀ p, H p = none → Q (.ref p) (upd H p (.lst (List.replicate k.toNat xs).flatten))
theorem op_repR : OpR X (binaryOp .Mult) rRepR := by
  intro pins s σ H x y v u Q I rx ry h
  obtain ⟨l, k, xs, rfl, rfl, hH, h1, h2, hz, q⟩ := h
  cases rx
  obtain ⟨t, rfl⟩ := ry
  obtain ⟨z, its, n, r, hl, e⟩ := Tn.Inv.rdl I hH
  have hlen : its.toArray.size * k.toNat ≤ sizeLine := by rw [List.size_toArray, ← hl]; exact hz
  have hcap : ¬ its.toArray.size * k.toNat > (2 ^ 63 - 1) / 8 := by
    have : (sizeLine : Nat) ≤ (2 ^ 63 - 1) / 8 := by decide
    omega
  have hfit : ¬ (!Builtin.List.listFitsIndex k) = true := by
    rw [fitsIndex_both h1 h2]
    exact Bool.false_ne_true
  have hlong : ¬ Builtin.List.listTooLong (its.toArray.size * k.toNat) = true := by
    rw [notLongL hlen]
    exact Bool.false_ne_true
  have hnew : List.foldl (fun x1 x2 => x1 ++ x2) #[] (List.replicate (if its.toArray.isEmpty = true then 0 else k.toNat) its.toArray) = (List.replicate k.toNat its).flatten.toArray := by
    have f0 : ∀ m : Nat, List.foldl (fun x1 x2 => x1 ++ x2) #[] (List.replicate m its.toArray) = (List.replicate m its).flatten.toArray := fun m => by
      have := foldl_rep its m []
      rw [List.nil_append] at this
      exact this
    rw [f0]
    cases its with
    | nil => simp
    | cons a r' => rw [if_neg (by simp)]
  refine wpAny_binaryOp_repeat_ref (T := "list") (U := "int") (by decide) ⟨_, e, rfl⟩ (fun s' => typeIs_int s' k t) noFill_list_mul F.fills_int_mul F.slot_int_rmul repeat_list F.slot_int_index.lookup
    (call_meets F.slot_int_rmul (typeIs_int s k t) F.entry_int_rmul (F.args_int_rmul_2 _ _) (int___rmul___int_list k t l its.toArray n)
      ⟨e, rfl, ⟨_, e, rfl⟩, call_meets F.slot_list_mul ⟨_, e, rfl⟩ F.entry_list_mul (F.args_list_mul_2 _ _) (AutoListH.list___mul___list_int_3 l its.toArray n k t hfit hcap hlong) ⟨e, ?_⟩⟩)
  rw [hnew]
  exact ⟨.ref _, _, I.lnew (t' := s.toks) (r.rep k.toNat) (by rw [PyProof.Rows.lm_len_rep_flat, Nat.mul_comm]; exact hz), rfl, q _ I.fresh⟩
end
end Tn
set_option Elab.async false
set_option linter.all false
set_option maxRecDepth 100000
set_option maxHeartbeats 4000000
namespace Tn
open PySem PySem.Spec PyProof.Rows L2
/-! ### tuple * 1 -/
theorem tuple_mul1 (l : Addr) (items : Array Value) (n : Nat) (sl : Array (Option Value)) (dd : Option Addr) (u : Tok) :
    Meets (Builtin.«tuple.__mul__» ⟨[.ref l, .int 1 u], []⟩) (fun _ R s => s.heap.get? l = some { cls := .type "tuple", dict := dd, data := .seq items n, slots := sl } ∧
      R (.ok (.ret (Value.ref l))) s) :=
  .of_wp fun prog w A R s h => by
    obtain ⟨hp, g, d, tk, os⟩ := s
    obtain ⟨hl, h⟩ := h
    have f1 := AutoSeq1.idx_int
    wp_walk using wpAny_loadPart' hl
    repeat (first
      | (refine wpAny_ite_false (by decide) ?_; wp_walk using wpAny_loadPart' hl)
      | (refine wpAny_ite_true (by simp) ?_; wp_walk using wpAny_loadPart' hl))
    exact ⟨_, rfl, h⟩
def rRep1 (K : PySem.W.Frag) : R2 := fun x y H Q => ∃ l xs, x = .ref l ∧ y = .int 1 ∧ SqT K H l xs ∧ Q (.ref l) H
section
variable {X : Cx}
theorem op_rep1 : OpR X (binaryOp .Mult) (rRep1 X.K) := by
  intro pins s σ H x y v u Q I rx ry h
  obtain ⟨l, xs, rfl, rfl, hT, q⟩ := h
  cases rx
  obtain ⟨t, rfl⟩ := ry
  obtain ⟨its, r, ⟨⟨cls, dd, data, sl⟩, ho, hc, n, hd⟩, hs⟩ := I.tuple hT
  simp only at hc hd
  subst hc hd
  exact wpAny_binaryOp_repeat_ref (T := "tuple") (U := "int") (by decide) ⟨_, ho, rfl⟩ (fun s' => typeIs_int s' 1 t) noFill_tuple_mul F.fills_int_mul F.slot_int_rmul repeat_tuple F.slot_int_index.lookup
    (call_meets F.slot_int_rmul (typeIs_int s 1 t) F.entry_int_rmul (F.args_int_rmul_2 _ _) (int_rmul_tuple 1 t l its.toArray n dd sl)
      ⟨ho, rfl, ⟨_, ho, rfl⟩, call_meets F.slot_tuple_mul ⟨_, ho, rfl⟩ F.entry_tuple_mul (F.args_tuple_mul_2 _ _) (tuple_mul1 l its.toArray n sl dd t) ⟨ho, .ref l, H, I, rfl, q⟩⟩)
/-! ### the whole tuple, sliced -/
theorem getItem_tuple_all {prog : Program} {w : World} {A : Around} {E : Value → Shared → Prop} {s : Shared} {t sl : Addr} {items : Array Value} {vl vu : Value} {lo hi : Option Int} {Q : Value → Shared → Prop} (ht : IsTup s.heap t items) (hs : s.heap.IsSliceOf sl vl vu .none) (pl : IsPart vl lo) (pu : IsPart vu hi)
    (hw : HT.sIx items.size 0 lo = 0 ∧ HT.sIx items.size items.size hi = items.size) (h : Q (.ref t) s) : wpAny (model prog w) A (getItem (.ref t) (.ref sl)) Q E s := by
  obtain ⟨os, hos, hcs, hds⟩ := id hs
  have hTs : s.TypeIs (.ref sl) "slice" := ⟨os, hos, hcs⟩
  unfold getItem
  try with_reducible refine wpAny_holding ?_
  first | refine wpAny_bind (wpAny_pure ?_) | skip
  refine wpAny_bind (wpAny_sequenceKey ht.typeIs (by decide) ?_)
  refine wpAny_bind (wpAny_callSpecial?_slot (name := Str.ofString "__getitem__") ht.typeIs PyProof.Rows.slot_tuple_getitem
    (wpAny_call_entry PyProof.Rows.slot_tuple_getitem ht.typeIs entry_tuple_getitem ?_ (args_tuple_getitem _ _)))
  show wpAny _ _ (Builtin.Tuple.tupleItemsOf (.ref t) >>= _) _ _ s
  refine wpAny_bind (tupleItemsOf_ ht ?_)
  refine wpAny_bind (wpAny_typeOf hTs ?_)
  rw [if_pos (by decide)]
  refine wpAny_bind (HT.sliceApplied_gen hs pl pu ?_)
  have hyes : ((((HT.sIx items.size 0 lo : Nat) : Int) == 0 && (1 : Int) == 1 && (HT.sIx items.size items.size hi - HT.sIx items.size 0 lo) == items.size) = true) := by
    rw [hw.1, hw.2]
    simp
  show wpAny _ _ (if (((HT.sIx items.size 0 lo : Nat) : Int) == 0 && (1 : Int) == 1 && (HT.sIx items.size items.size hi - HT.sIx items.size 0 lo) == items.size) = true then _ else _) _ _ s
  rw [if_pos hyes]
  have hte : ∀ {Q' : Bool → Shared → Prop} {A' : Around} {E' : Value → Shared → Prop}, Q' true s → wpAny (model prog w) A' (Builtin.Tuple.tupleIsExact (.ref t)) Q' E' s := fun {Q' A' E'} q => by
    unfold Builtin.Tuple.tupleIsExact
    exact wpAny_bind (wpAny_typeOf ht.typeIs (wpAny_pure q))
  refine wpAny_bind (hte ?_)
  rw [if_pos rfl]
  exact wpAny_bind (wpAny_rule (wpAny_pure ⟨_, rfl, wpAny_pure h⟩))
def rSlAll (K : PySem.W.Frag) : V → Option Int → Option Int → Hp → VK → Prop := fun x lo hi H Q => ∃ a xs, x = .ref a ∧ SqT K H a xs ∧
  (HT.sIx xs.length 0 lo = 0 ∧ HT.sIx xs.length xs.length hi = xs.length) ∧ Q (.ref a) H
theorem sl_all : SlR X (rSlAll X.K) := by
  intro pins s σ H x v vl vu lo hi sl Q I rx hs pl pu h
  obtain ⟨a, xs, rfl, hx, hw, q⟩ := h
  cases rx
  obtain ⟨its, r, ht, hz⟩ := I.tuple hx
  have hlen : its.toArray.size = xs.length := by rw [List.size_toArray]; exact r.length.symm
  refine ⟨"tuple", _, PyProof.Rows.slot_tuple_getitem.lookup, ht.typeIs, ?_⟩
  exact getItem_tuple_all ht hs pl pu (by rw [hlen]; exact hw) ⟨.ref a, H, I, rfl, q⟩
/-! ### sum, max, min of a tuple -/
def rSumT (K : PySem.W.Frag) : List V → Hp → VK → Prop := fun vs H Q => ∃ (a : Addr) (ns : List Int), vs = [V.ref a] ∧ SqT K H a (ns.map V.int) ∧ Q (.int ns.sum) H
theorem cr_sumT (hc : X.calm = true) : CallR X (.builtin "sum") (rSumT X.K) := by
  intro pins s σ H vs us Q I r h
  obtain ⟨a, ns, rfl, hs, q⟩ := h
  obtain ⟨its, rv, hl, _⟩ := I.tuple hs
  rw [Vals.ref1 r]
  have hi := rv.ints
  obtain ⟨xs, e⟩ := hi.allInts.items
  have hn : numsOf (intItems xs).toList = ns := by rw [← e]; exact hi.numsOf
  rw [nums_intItems] at hn
  rw [e] at hl
  have hT : s.heap.IsTuple a (intItems xs) := hl
  have hlt : a < s.heap.objs.size := by obtain ⟨_, e, _⟩ := hT; exact Heap.lt_size e
  refine call_sum_walkG (wpAny_pyIter_tuple hT ?_)
  refine ⟨_, _, _, _, _, _, numAt xs, rfl, Walks.tuple (A := X.A.in1) (I.ok.hd hc) _ a (Nat.ne_of_lt hlt) (intItems xs), ⟨⟨_, Heap.get?_push_size _ rfl, rfl, rfl⟩, hT.push _⟩, fun b hb => ?_, (fun _ _ => intItems_at), fun h' tk t' hk' => ?_⟩
  · show b < (s.heap.push _).objs.size
    rw [Heap.size_push]
    rcases List.mem_cons.mp hb with rfl | hb
    · exact Nat.lt_succ_self _
    · rcases List.mem_cons.mp hb with rfl | hb
      · exact Nat.lt_succ_of_lt hlt
      · cases hb
  have e3 : preSum (numAt xs) (intItems xs).size = ns.sum := by
    rw [show (intItems xs).size = xs.size by simp [intItems], preSum_eq, List.take_of_length_le (by simp), hn]
  rw [e3]
  refine ⟨.int _, H, I.kept (t' := tk) fun b o eo => ?_, ⟨_, rfl⟩, q⟩
  exact hk' b o (fun hb => absurd (Heap.lt_size eo) ((List.mem_singleton.mp hb) ▸ Nat.lt_irrefl _)) (Heap.get?_push_of_some _ eo)
theorem reads_ints {h : Heap} : ∀ {us : List Value} {ns : List Int}, IntsAre us ns → ∃ as, ReadsAll h us (ns.map .int) as
  | _, _, .nil => ⟨_, ReadsAll.nil⟩
  | _, _, .cons n t r => by
    obtain ⟨as, q⟩ := reads_ints (h := h) r
    exact ⟨_, ReadsAll.cons (Reads.int n t) q⟩
theorem alike_allI (ns : List Int) : PySem.W.AlikeAll (ns.map .int) := by
  refine ⟨fun d hd d' hd' => ?_, fun d hd => ?_⟩
  · obtain ⟨a, _, rfl⟩ := List.mem_map.mp hd
    obtain ⟨b, _, rfl⟩ := List.mem_map.mp hd'
    simp [PySem.W.alike]
  · obtain ⟨a, _, rfl⟩ := List.mem_map.mp hd
    exact fun z => by cases z
theorem depth_ints : ∀ ns : List Int, PyData.depthAll (ns.map .int) = 0
  | [] => by simp [PyData.depthAll]
  | n :: ns => by
    simp only [List.map_cons, PyData.depthAll, PyData.depth, depth_ints ns]
    rfl
def rMM (K : PySem.W.Frag) (f : List Int → Option Int) : List V → Hp → VK → Prop := fun vs H Q => ∃ (a : Addr) (ns : List Int) (i : Int), vs = [V.ref a] ∧ (SqT K H a (ns.map V.int) ∨ SqL K H a (ns.map V.int)) ∧ f ns = some i ∧ Q (.int i) H
theorem cr_maxA (hc : X.calm = true) (hu : X.A.units + 100 < cLine) : CallR X (.builtin "max") (rMM X.K maxI) := by
  intro pins s σ H vs us Q I r h
  obtain ⟨a, ns, i, rfl, hs, hm, q⟩ := h
  rw [Vals.ref1 r]
  cases ns with
  | nil => cases hm
  | cons n ns =>
    have hm' : ns.foldl max n = i := Option.some.inj hm
    rcases hs with hs | hs
    · obtain ⟨its, rv, hl, _⟩ := I.tuple hs
      obtain ⟨as, hr⟩ := reads_ints (h := s.heap) rv.ints
      refine PySem.W.max_tuple_data (I.ok.hd hc) (vs := its.toArray) (x := .int n) (xs := ns.map .int) hl hr (alike_allI (n :: ns)) (by have z := depth_ints (n :: ns); simp only [List.map_cons] at z; omega) fun j v h' tk bs hj rd hk => ?_
      rw [PySem.W.maxD_ints] at rd
      cases rd
      exact ⟨.int _, H, I.kept (t' := tk) hk, ⟨_, by rw [hm']⟩, q⟩
    · obtain ⟨its, rv, hl, _⟩ := I.list hs
      obtain ⟨as, hr⟩ := reads_ints (h := s.heap) rv.ints
      refine PySem.W.max_list_data (I.ok.hd hc) (vs := its.toArray) (x := .int n) (xs := ns.map .int) hl.isList hr (alike_allI (n :: ns)) (by have z := depth_ints (n :: ns); simp only [List.map_cons] at z; omega) fun j v h' tk bs hj rd hk => ?_
      rw [PySem.W.maxD_ints] at rd
      cases rd
      exact ⟨.int _, H, I.kept (t' := tk) hk, ⟨_, by rw [hm']⟩, q⟩
theorem cr_minA (hc : X.calm = true) (hu : X.A.units + 100 < cLine) : CallR X (.builtin "min") (rMM X.K minI) := by
  intro pins s σ H vs us Q I r h
  obtain ⟨a, ns, i, rfl, hs, hm, q⟩ := h
  rw [Vals.ref1 r]
  cases ns with
  | nil => cases hm
  | cons n ns =>
    have hm' : ns.foldl min n = i := Option.some.inj hm
    rcases hs with hs | hs
    · obtain ⟨its, rv, hl, _⟩ := I.tuple hs
      obtain ⟨as, hr⟩ := reads_ints (h := s.heap) rv.ints
      refine PySem.W.min_tuple_data (I.ok.hd hc) (vs := its.toArray) (x := .int n) (xs := ns.map .int) hl hr (alike_allI (n :: ns)) (by have z := depth_ints (n :: ns); simp only [List.map_cons] at z; omega) fun j v h' tk bs hj rd hk => ?_
      rw [PySem.W.minD_ints] at rd
      cases rd
      exact ⟨.int _, H, I.kept (t' := tk) hk, ⟨_, by rw [hm']⟩, q⟩
    · obtain ⟨its, rv, hl, _⟩ := I.list hs
      obtain ⟨as, hr⟩ := reads_ints (h := s.heap) rv.ints
      refine PySem.W.min_list_data (I.ok.hd hc) (vs := its.toArray) (x := .int n) (xs := ns.map .int) hl.isList hr (alike_allI (n :: ns)) (by have z := depth_ints (n :: ns); simp only [List.map_cons] at z; omega) fun j v h' tk bs hj rd hk => ?_
      rw [PySem.W.minD_ints] at rd
      cases rd
      exact ⟨.int _, H, I.kept (t' := tk) hk, ⟨_, by rw [hm']⟩, q⟩
/-! ### in a tuple -/
def rInT (K : PySem.W.Frag) : R2 := fun x y H Q => ∃ d ds, Dp K H x d ∧ Dp K H y (.tuple ds) ∧ SeqAt.shaped d = true ∧ SeqAt.shaped (.tuple ds) = true ∧ Q (.bl (ds.any fun z => PyData.eqv z d)) H
def rNotInT (K : PySem.W.Frag) : R2 := fun x y H Q => ∃ d ds, Dp K H x d ∧ Dp K H y (.tuple ds) ∧ SeqAt.shaped d = true ∧ SeqAt.shaped (.tuple ds) = true ∧ Q (.bl (!ds.any fun z => PyData.eqv z d)) H
theorem room_in {A : Around} {d : PyData} {ds : List PyData} (h : SeqAt.shaped d = true) (hu : A.units + 100 < cLine) : A.units + 1 + min (PyData.depthAll ds) d.depth < cLine := by
  have h1 := SeqAt.depth_of_shaped h
  have h2 : min (PyData.depthAll ds) d.depth ≤ d.depth := Nat.min_le_right _ _
  omega
theorem op_inT (hu : X.A.units + 100 < cLine) : OpR X (compareOp .In) (rInT X.K) := by
  intro pins s σ H x y v u Q I rx ry h
  obtain ⟨d, ds, hd, he, sd, se, q⟩ := h
  obtain ⟨as, r1⟩ := Dp.reads I d x v hd rx
  obtain ⟨bs, r2⟩ := Dp.reads I (.tuple ds) y u he ry
  exact SeqAt.in_tuple_reads r2 r1 (SeqAt.canLay_of_shaped se) (SeqAt.canLay_of_shaped sd) (room_in sd hu) ⟨.bl _, H, I, rfl, q⟩
theorem op_notInT (hu : X.A.units + 100 < cLine) : OpR X (compareOp .NotIn) (rNotInT X.K) := by
  intro pins s σ H x y v u Q I rx ry h
  obtain ⟨d, ds, hd, he, sd, se, q⟩ := h
  obtain ⟨as, r1⟩ := Dp.reads I d x v hd rx
  obtain ⟨bs, r2⟩ := Dp.reads I (.tuple ds) y u he ry
  exact SeqAt.notIn_tuple_reads r2 r1 (SeqAt.canLay_of_shaped se) (SeqAt.canLay_of_shaped sd) (room_in sd hu) ⟨.bl _, H, I, rfl, q⟩
end
end Tn
set_option Elab.async false
set_option linter.all false
set_option maxRecDepth 100000
set_option maxHeartbeats 4000000
namespace Tn
open PySem PySem.Spec PyProof.Rows L2
/-! ### the order of tuples of numbers -/
theorem eqv_int (a b : Int) : PyData.eqv (.int a) (.int b) = (a == b) := by simp [PyData.eqv]
theorem dataLt_int' (a b : Int) : PySem.W.dataLt (.int a) (.int b) = decide (a < b) := by
  have h := PySem.W.dataLe_int (β := Int) id
  have h2 := congrFun (congrFun h b) a
  rw [PySem.W.dataLe_eq] at h2
  have h3 : (!PySem.W.dataLt (.int a) (.int b)) = decide (b ≤ a) := h2
  cases q : PySem.W.dataLt (.int a) (.int b) with
  | true =>
    rw [q] at h3
    have := of_decide_eq_false h3.symm
    exact (decide_eq_true (by omega)).symm
  | false =>
    rw [q] at h3
    have := of_decide_eq_true h3.symm
    exact (decide_eq_false (by omega)).symm
theorem lexLt_tup : ∀ xs ys : List Int, PySem.W.rowLt (xs.map .int) (ys.map .int) = !lexLe ys xs
  | [], [] => rfl
  | [], y :: ys => rfl
  | x :: xs, [] => rfl
  | x :: xs, y :: ys => by
    have h := PySem.W.dataLt_cons (x := .int x) (y := .int y) (by simp [PySem.W.alike]) (xs.map .int) (ys.map .int)
    have h2 : PySem.W.rowLt ((x :: xs).map .int) ((y :: ys).map .int) = if PyData.eqv (.int x) (.int y) = true then PySem.W.rowLt (xs.map .int) (ys.map .int) else PySem.W.dataLt (.int x) (.int y) := h
    rw [h2, eqv_int, dataLt_int', lexLt_tup xs ys]
    show _ = !(if y = x then lexLe ys xs else decide (y < x))
    by_cases e : x = y
    · subst e
      simp
    · have e' : ¬ y = x := fun z => e z.symm
      rw [if_neg e']
      simp only [beq_iff_eq, e, if_false]
      by_cases l : x < y
      · have : ¬ y < x := by omega
        simp [l, this]
      · have : y < x := by omega
        simp [l, this]
theorem dataLe_tup : PySem.W.dataLe false tup = lexLe := by
  funext a b
  rw [PySem.W.dataLe_eq]
  show (!PySem.W.dataLt (tup b) (tup a)) = lexLe a b
  have h : PySem.W.dataLt (tup b) (tup a) = PySem.W.rowLt (b.map .int) (a.map .int) := PySem.W.dataLt_tuple _ _
  rw [h, lexLt_tup]
  simp
theorem vals_of_rel {α : Type} {f : α → V} : ∀ {us : List Value} {bs : List α}, PySem.W.EachIs (fun u b => RelV (f b) u) us bs → Vals (bs.map f) us
  | _, _, .nil => .nil
  | _, _, .cons r t => .cons r (vals_of_rel t)
end Tn
set_option Elab.async false
set_option linter.all false
set_option maxRecDepth 100000
set_option maxHeartbeats 4000000
namespace Tn
open PySem PySem.Spec PyProof.Rows L2
section
variable {X : Cx} {P : Par} {m : Mp}
/-- what a value stands for -/
def Std (P : Par) (m : Mp) (H : Hp) (u : Value) (d : D) : Prop := ∃ v, RelV v u ∧ Rep P m H v d
theorem each_std {β : Type} {enc : β → D} {H : Hp} : ∀ {ws : List V} {us : List Value} {bs : List β}, Vals ws us → RepAll P m H ws (bs.map enc) → PySem.W.EachIs (fun u b => Std P m H u (enc b)) us bs
  | _, _, [], .nil, _ => .nil
  | _, _, b :: bs, .nil, r => by cases r
  | _, _, [], .cons _ _, r => by cases r
  | _, _, b :: bs, .cons r1 t1, r => by
    cases r with
    | cons r2 t2 => exact .cons ⟨_, r1, r2⟩ (each_std t1 t2)
theorem std_each {β : Type} {enc : β → D} {H : Hp} : ∀ {us : List Value} {bs : List β}, PySem.W.EachIs (fun u b => Std P m H u (enc b)) us bs → ∃ ws, Vals ws us ∧ RepAll P m H ws (bs.map enc)
  | _, _, .nil => ⟨[], .nil, .nil⟩
  | _, _, .cons ⟨v, r1, r2⟩ t => by
    obtain ⟨ws, h1, h2⟩ := std_each t
    exact ⟨v :: ws, .cons r1 h1, .cons r2 h2⟩
theorem each_reads {pins : List (Addr × Obj)} {σ : L2.St} {H : Hp} {s : Shared} {β : Type} {enc : β → D} (I : Inv X pins σ H s) (hK : P.K = X.K) (n : Nat) (hs : ∀ b, shN n (enc b) = true) : ∀ {us : List Value} {bs : List β}, PySem.W.EachIs (fun u b => Std P m H u (enc b)) us bs → PySem.W.EachIs (fun v b => ∃ as, Reads s.heap v (enc b) as) us bs
  | _, _, .nil => .nil
  | _, b :: _, .cons ⟨v, r1, r2⟩ t => .cons (Dp.reads I _ v _ (hK ▸ r2.dp n (hs b)) r1) (each_reads I hK n hs t)
/-- sorted of a list -/
theorem cr_sortL {β : Type} {enc : β → D} {le : β → β → Bool} (hle : PySem.W.dataLe false enc = le) (hal : ∀ bs : List β, PySem.W.AllAlike (bs.map enc)) (hs : ∀ b, shN 2 (enc b) = true) (hd : ∀ b, (enc b).depth ≤ 2) (hK : P.K = X.K) (hu : X.A.units + 100 < cLine) :
    CallR X (.builtin "sorted") (fun vs H Q => ∃ (a : Addr) (ws : List V) (bs : List β), vs = [.ref a] ∧ Rd H a (.lst ws) ∧ RepAll P m H ws (bs.map enc) ∧ PySem.W.Sortable (bs.map enc) ∧
      ∀ p zs, H p = none → RepAll P m H zs ((bs.mergeSort le).map enc) → Q (.ref p) (upd H p (.lst zs))) := by
  intro pins s σ H vs us Q I r h
  obtain ⟨a, ws, bs, rfl, hr, ha, hk, q⟩ := h
  obtain ⟨its, rv, hl, hz⟩ := I.list (.inl hr)
  rw [Vals.ref1 r]
  have e := each_std (enc := enc) rv ha
  have hbl : bs.length ≤ sizeLine := by
    have := ha.len
    rw [List.length_map] at this
    omega
  refine PySem.W.sorted_data hl.isList e (each_reads I hK 2 hs e) (hal bs) hk hbl (fun b _ => by have := hd b; omega) fun out hlen eo => ?_
  rw [hle] at eo
  obtain ⟨zs, h1, h2⟩ := std_each eo
  obtain ⟨ep, he'⟩ := PyProof.Rows.sortedAll_at s.heap its out.toArray
  have hzl : zs.length ≤ sizeLine := by
    have := h2.len
    rw [List.length_map, List.length_mergeSort] at this
    omega
  exact ⟨.ref _, upd H (s.heap.objs.size + 1) (.lst zs), I.laid (t' := s.toks) (fun _ _ => PyProof.Rows.sortedAll_old) (Nat.le_succ _) ⟨hzl, out, ep, h1, he'⟩, rfl, q _ zs (I.hok.fresh (Nat.le_succ _)) h2⟩
theorem alike_I (bs : List Int) : PySem.W.AllAlike (bs.map .int) := PySem.W.AllAlike.of fun _ _ => by simp [PySem.W.alike]
theorem alike_T (bs : List (List Int)) : PySem.W.AllAlike (bs.map tup) := PySem.W.AllAlike.of fun a b => by
  simp only [tup, PySem.W.alike]
  exact PySem.W.alike_ints a b
theorem sh_tup (ns : List Int) (n : Nat) : shN (n + 1) (tup ns) = true := by
  simp only [tup, shN, List.all_map, List.all_eq_true]
  intro x _
  cases n <;> rfl
theorem depth_tup (ns : List Int) : (tup ns).depth = 1 := by
  simp [tup, PyData.depth, depth_ints]
theorem reads_tupI {h : Heap} {u : Value} {ns : List Int} {as : List Addr} (r : Reads h u (tup ns) as) : as = [] := by
  have hall : ∀ {us : List Value} {ns : List Int} {as : List Addr}, ReadsAll h us (ns.map .int) as → as = [] := by
    intro us ns
    induction ns generalizing us with
    | nil => intro as q; cases q; rfl
    | cons n ns ih =>
      intro as q
      cases q with
      | cons q1 q2 =>
        cases q1
        rw [ih q2]
        rfl
  unfold tup at r
  cases r with
  | tuple h1 h2 h3 h4 => exact hall h4
theorem kV_ints (ns : List Int) : (ns.map (Sum.inl : Int → Key)).map kV = ns.map V.int := by
  rw [List.map_map]
  rfl
theorem keys_each {H : Hp} : ∀ {kws : List (List Key × V)} {bs : List Addr} {ks : List (List Int)}, IsKeys H kws bs → kws.map (·.1) = ks.map (fun k => k.map Sum.inl) → RepAll P m H (bs.map V.ref) (ks.map tup)
  | _, _, [], .nil, _ => .nil
  | _, _, k :: ks, .nil, e => by simp at e
  | _, _, [], .cons h t, e => by simp at e
  | _, _, k :: ks, .cons h t, e => by
    rw [List.map_cons, List.map_cons] at e
    injection e with e1 e2
    refine .cons (.tup h ?_) (keys_each t e2)
    rw [e1, kV_ints]
    exact RepAll.of_ints k
/-- sorted of a dict with tuples of numbers for keys -/
theorem cr_sortDT (hc : X.calm = true) (hK : P.K = X.K) (hu : X.A.units + 100 < cLine) :
    CallR X (.builtin "sorted") (fun vs H Q => ∃ (a : Addr) (kws : List (List Key × V)) (ks : List (List Int)), vs = [.ref a] ∧ H a = some (.dT kws) ∧ kws.map (·.1) = ks.map (fun k => k.map Sum.inl) ∧ (∀ k ∈ ks, k ≠ []) ∧
      ∀ p zs, H p = none → RepAll P m H zs ((ks.mergeSort lexLe).map tup) → Q (.ref p) (upd H p (.lst zs))) := by
  intro pins s σ H vs us Q I r h
  obtain ⟨d, kws, ks, rfl, hd, hks, hne, q⟩ := h
  rw [Vals.ref1 r]
  obtain ⟨z, hs, kss, pr, o, es, ep, ho, hx, hdt, he, hn⟩ := (show ObjOk X.prog X.w H s.heap d (.dT kws) from I.hok d _ hd)
  have l1 : es.size = kss.length := size_of_entries he
  have l2 : kws.length = kss.length := Paired.length pr
  have l3 : kws.length = ks.length := by
    have := congrArg List.length hks
    simpa using this
  refine Calls.call_function_entry PyProof.Rows.kind_sorted PyProof.Rows.plain_sorted PyProof.Rows.entry_sorted (PyProof.Rows.args_sorted1 _) ?_
  unfold Builtin.«sorted»
  refine wpAny_bind (m := checkCount "sorted" 1 1 _) (wpAny_pure ?_)
  refine wpAny_bind (PySem.W.kdu_collect (A := X.A.in1) (kdl_raw hs hx hdt) (I.ok.hd hc) ho (by omega) fun h' tk acc hk it => ?_)
  have ea : acc.toList = kss.map fun x => Value.ref x.2.1 := by
    have hl : acc.toList.length = kss.length := by rw [Array.length_toList, it.1]; exact l1
    apply List.ext_getElem?
    intro j
    rw [List.getElem?_map]
    cases hj : acc.toList[j]? with
    | none =>
      have h1 := List.getElem?_eq_none_iff.mp hj
      rw [List.getElem?_eq_none (by omega)]
      all_goals rfl
    | some v =>
      obtain ⟨en, hen, hv⟩ := it.2 j v (by rw [← Array.getElem?_toList]; exact hj)
      have qe := entry_at he j
      rw [hen] at qe
      cases hb : kss[j]? with
      | none =>
        rw [hb] at qe
        exact nomatch (show some en = none from qe)
      | some b =>
        rw [hb] at qe
        have e2 : en = entryOfKey (tupleKind (mixKind X.prog X.w)) b := Option.some.inj qe
        rw [hv, e2]
        all_goals rfl
  have I1 : Inv X pins σ H { s with heap := h', toks := tk } := I.kept hk
  have rv : Vals ((kss.map fun x => x.2.1).map V.ref) acc.toList := by
    have h0 := vals_refs (kss.map fun x => x.2.1)
    rw [ea]
    rw [show (kss.map fun x => Value.ref x.2.1) = (kss.map fun x => x.2.1).map Value.ref by rw [List.map_map]; rfl]
    exact h0
  have ra : RepAll P m H ((kss.map fun x => x.2.1).map V.ref) (ks.map tup) := keys_each (isKeys_of pr) hks
  have eS := each_std (enc := tup) rv ra
  have hbl : ks.length ≤ sizeLine := by omega
  have hal : acc.toList.length = ks.length := by
    have := rv.length
    rw [List.length_map, List.length_map] at this
    omega
  refine wpAny_bind (wpAny_newList ?_ (by rw [hal]; exact hbl))
  have hoL : (h'.push (seqObj "list" acc.toList.toArray 0)).get? h'.objs.size = some (seqObj "list" acc.toList.toArray 0) := Heap.get?_push_size _ rfl
  show wpAny _ _ _ _ _ { s with heap := h'.push (seqObj "list" acc.toList.toArray 0), toks := tk }
  have er : PySem.W.EachIs (fun v b => ∃ as, Reads (h'.push (seqObj "list" acc.toList.toArray 0)) v (tup b) as ∧ h'.objs.size ∉ as) acc.toList ks := by
    have e1 := each_reads I1 hK 2 (fun b => sh_tup b 1) eS
    refine e1.mono fun v b ⟨as, rd⟩ => ⟨as, PyProof.Rows.Reads.keeps (fun _ _ qq => Heap.get?_push_of_some _ qq) rd, ?_⟩
    rw [reads_tupI rd]
    simp
  refine wpAny_bind (wpAny_holding (PySem.W.list_sort_data (s := { s with heap := h'.push (seqObj "list" acc.toList.toArray 0), toks := tk }) hoL eS er (alike_T ks) (.inl fun dd hdd => ?_) hbl (fun b _ => ?_) fun out hlen eo => ?_))
  · obtain ⟨k, hk', rfl⟩ := List.mem_map.mp hdd
    cases k with
    | nil => exact absurd rfl (hne _ hk')
    | cons x r => exact ⟨_, _, rfl⟩
  · rw [depth_tup]
    show X.A.in1.units + 1 + 1 < cLine
    have : X.A.in1.units = X.A.units + 1 := rfl
    omega
  · rw [dataLe_tup] at eo
    obtain ⟨zs, h1, h2⟩ := std_each eo
    obtain ⟨e', he'⟩ := PyProof.Rows.sortedHeap_at (vs := acc.toList) (out := out.toArray) hoL
    have hzl : zs.length ≤ sizeLine := by
      have := h2.len
      rw [List.length_map, List.length_mergeSort] at this
      omega
    refine wpAny_pure ⟨_, rfl, .ref h'.objs.size, upd H h'.objs.size (.lst zs), I1.laid (t' := tk) (fun b u e => ?_) (Nat.le_refl _)
      (show ObjOk X.prog X.w _ _ _ (.lst zs) from ⟨hzl, out, e', h1, he'⟩), rfl, q _ zs (I1.hok.fresh (Nat.le_refl _)) h2⟩
    have hb : b < h'.objs.size := Heap.lt_size e
    rw [PyProof.Rows.sortedHeap_old (Nat.ne_of_lt hb) (by rw [size_push']; exact Nat.lt_succ_of_lt hb)]
    exact Heap.get?_push_of_some _ e
end
end Tn
set_option Elab.async false
set_option linter.all false
set_option maxRecDepth 100000
set_option maxHeartbeats 4000000
namespace Tn
open PySem PySem.Spec PyProof.Rows L2
structure FrX (X : Cx) (P : Par) : Prop where
  K : P.K = X.K
  calm : X.calm = true
  hu : X.A.units + 100 < cLine
  nd : X.N.Nodup
section
variable {X : Cx} {P : Par} {F : Nat → List D → M D} {W : Nat → Hp → Prop} {e a b c : Expr} {p pa pb pc : E} {pos : Pos}
theorem rd_op (h : PE X e (rd P F W p)) : PE X e (rdO P F W p) := peC h fun σ H Q ⟨env, objs, m, rel, tm, h⟩ => ⟨env, objs, m, rel, tm, h.imp fun d o g v H' m' r' t' s' rr => g v H' m' r' t' s' (.inl rr)⟩
/-- a value that hangs on nothing -/
theorem s_con {d : D} {v : V} (h : PE X e (tC v)) (r : ∀ (P : Par) m H, Rep P m H v d) : PE X e (rd P F W (.con d)) :=
  peC h fun σ H Q ⟨env, objs, m, rel, tm, g⟩ => g v H m rel tm Step.refl (r P m H)
theorem s_int {i : Int} {j : Nat} : PE X (.Constant (.int i) j pos) (rd P F W (.con (.int i))) := s_con pe_int fun _ _ _ => .int i
theorem s_str {x : Str} {j : Nat} : PE X (.Constant (.str x) j pos) (rd P F W (.con (.str x))) := s_con pe_str fun _ _ _ => .str x
theorem s_bool {x : Bool} {j : Nat} : PE X (.Constant (.bool x) j pos) (rd P F W (.con (.bool x))) := s_con pe_bl fun _ _ _ => .bl x
theorem s_none {j : Nat} : PE X (.Constant .none j pos) (rd P F W (.con .none)) := s_con pe_non fun _ _ _ => .non
theorem s_glob {x : Str} {i : Int} {t : Tok} (hg : Gl X x) (hm : X.mg x = some (.int i t)) (hd : (x == ("__debug__" : Str)) = false) : PE X (.Name x pos) (rd P F W (.con (.int i))) := s_con (pe_glob (v := .int i) hg hm ⟨_, rfl⟩ hd) fun _ _ _ => .int i
theorem post_getV {σ : L2.St} {env : Env} {m : Mp} {H : Hp} {objs : Objs} {G : D → Objs → Prop} {i : Nat} (h : Post P W σ env m H (getV env i objs) G) : ∃ d, env[i]? = some (some (.v d)) ∧ G d objs := by
  unfold getV at h
  cases e : env[i]? with
  | none => rw [e] at h; exact h.elim
  | some c =>
    cases c with
    | none => rw [e] at h; exact h.elim
    | some c =>
      rw [e] at h
      cases c with
      | v d => exact ⟨d, rfl, h⟩
      | own xs => exact h.elim
      | dic kvs => exact h.elim
theorem post_getB {σ : L2.St} {env : Env} {m : Mp} {H : Hp} {objs : Objs} {G : D → Objs → Prop} {i : Nat} (h : Post P W σ env m H (getB env i objs) G) :
    (∃ d, env[i]? = some (some (.v d)) ∧ G d objs) ∨ ∃ xs, env[i]? = some (some (.own xs)) ∧ G (.list xs) objs := by
  unfold getB at h
  cases e : env[i]? with
  | none => rw [e] at h; exact h.elim
  | some c =>
    cases c with
    | none => rw [e] at h; exact h.elim
    | some c =>
      rw [e] at h
      cases c with
      | v d => exact .inl ⟨d, rfl, h⟩
      | own xs => exact .inr ⟨xs, rfl, h⟩
      | dic kvs => exact h.elim
theorem s_var {i : Nat} {x : Str} (hN : X.N[i]? = some x) (hv : Vis X.env.scope x) (hd : (x == ("__debug__" : Str)) = false) (hcd : (x == ("__classdict__" : Str)) = false) : PE X (.Name x pos) (rd P F W (.var i)) := by
  refine peC (pe_var hN hv hd hcd) fun σ H Q ⟨env, objs, m, rel, tm, g⟩ => ?_
  obtain ⟨d, e1, g'⟩ := post_getV g
  obtain ⟨v, e2, r⟩ := rel.slot i _ e1
  exact ⟨v, e2, g' v H m rel tm Step.refl r⟩
theorem s_bor {i : Nat} {x : Str} (hN : X.N[i]? = some x) (hv : Vis X.env.scope x) (hd : (x == ("__debug__" : Str)) = false) (hcd : (x == ("__classdict__" : Str)) = false) : PE X (.Name x pos) (rdO P F W (.bor i)) := by
  refine peC (pe_var hN hv hd hcd) fun σ H Q ⟨env, objs, m, rel, tm, g⟩ => ?_
  rcases post_getB g with ⟨d, e1, g'⟩ | ⟨xs, e1, g'⟩
  · obtain ⟨v, e2, r⟩ := rel.slot i _ e1
    exact ⟨v, e2, g' v H m rel tm Step.refl (.inl r)⟩
  · obtain ⟨ad, ws, e2, e3, e4, r⟩ := rel.slot i _ e1
    exact ⟨_, e3, g' _ H m rel tm Step.refl (.inr ⟨i, xs, e3, e1, rfl⟩)⟩

/-! ### two operands -/
theorem bigLe {n : Nat} (h : n ≤ big) : n ≤ sizeLine := by rw [← big_line]; exact h
def rBin (P : Par) (o : Bin) : R2 := fun x y H Q => ∃ σ env objs m d e z, Rel P σ H env objs m ∧ m .tmp = none ∧ RepT P σ env m H x d ∧ RepT P σ env m H y e ∧ binD o d e = some z ∧
  ∀ v H', Keeps H H' → Rep P m H' v z → Q v H'
theorem Rep.intI {P : Par} {m : Mp} {H : Hp} {v : V} {i : Int} (h : Rep P m H v (.int i)) : v = .int i := by cases h; rfl
theorem Rep.boolI {P : Par} {m : Mp} {H : Hp} {v : V} {i : Bool} (h : Rep P m H v (.bool i)) : v = .bl i := by cases h; rfl
theorem Rep.strI {P : Par} {m : Mp} {H : Hp} {v : V} {i : Str} (h : Rep P m H v (.str i)) : v = .str i := by cases h; rfl
theorem Rep.noneI {P : Par} {m : Mp} {H : Hp} {v : V} (h : Rep P m H v .none) : v = .non := by cases h; rfl
theorem RepT.intI {P : Par} {σ : L2.St} {env : Env} {m : Mp} {H : Hp} {v : V} {i : Int} (h : RepT P σ env m H v (.int i)) : v = .int i := (h.rep fun _ z => by cases z).intI
theorem RepT.boolI {P : Par} {σ : L2.St} {env : Env} {m : Mp} {H : Hp} {v : V} {i : Bool} (h : RepT P σ env m H v (.bool i)) : v = .bl i := (h.rep fun _ z => by cases z).boolI
theorem RepT.strI {P : Par} {σ : L2.St} {env : Env} {m : Mp} {H : Hp} {v : V} {i : Str} (h : RepT P σ env m H v (.str i)) : v = .str i := (h.rep fun _ z => by cases z).strI
theorem RepT.noneI {P : Par} {σ : L2.St} {env : Env} {m : Mp} {H : Hp} {v : V} (h : RepT P σ env m H v .none) : v = .non := (h.rep fun _ z => by cases z).noneI
theorem RepT.tuple {P : Par} {σ : L2.St} {env : Env} {m : Mp} {H : Hp} {v : V} {ds : List D} (h : RepT P σ env m H v (.tuple ds)) : ∃ (a : Addr) (vs : List V), v = .ref a ∧ H a = some (.tup vs) ∧ RepAll P m H vs ds := Rep.tuple (h.rep fun _ z => by cases z)
/-- a new tuple, a new list -/
theorem Rep.newT {P : Par} {m : Mp} {H : Hp} {p : Addr} {vs : List V} {ds : List D} (h : H p = none) (r : RepAll P m H vs ds) : Rep P m (upd H p (.tup vs)) (.ref p) (.tuple ds) :=
  .tup upd_same (r.step (keeps_upd h).step)
theorem Rep.newL {P : Par} {m : Mp} {H : Hp} {objs : Objs} {p : Addr} {vs : List V} {ds : List D} (rel : RelO P H objs m) (h : H p = none) (r : RepAll P m H vs ds) : Rep P m (upd H p (.lst vs)) (.ref p) (.list ds) :=
  .lst ⟨.inl upd_same, rel.av h⟩ (r.step (keeps_upd h).step)
theorem op_binA (fr : FrX X P) : OpR X (binaryOp .Add) (rBin P .add) := by
  have hK := fr.K
  intro pins s σ' H x y v u Q I rx ry h
  obtain ⟨σ, env, objs, m, d, e, z, rel, tm, r1, r2, ez, q⟩ := h
  replace ez : addD d e = some z := ez
  unfold addD at ez
  split at ez
  · cases ez
    cases r1.intI
    cases r2.intI
    exact op_add pins s σ' H _ _ v u Q I rx ry ⟨_, _, rfl, rfl, q _ H (fun _ _ z => z) (.int _)⟩
  · split at ez
    · rename_i hl
      cases ez
      cases r1.strI
      cases r2.strI
      exact op_add_str pins s σ' H _ _ v u Q I rx ry ⟨_, _, rfl, rfl, bigLe hl, q _ H (fun _ _ z => z) (.str _)⟩
    · cases ez
  · rename_i ds es
    split at ez
    · rename_i hl
      cases ez
      obtain ⟨a, vs, rfl, h1, t1⟩ := r1.tuple
      obtain ⟨b, ws, rfl, h2, t2⟩ := r2.tuple
      refine op_catA pins s σ' H _ _ v u Q I rx ry ⟨a, b, vs, ws, rfl, rfl, .inl (.inl h1), .inl (.inl h2), by rw [t1.len, t2.len]; exact bigLe hl, fun z => ?_, fun _ z => ?_, fun _ _ p hp => ?_⟩
      · subst z
        have : ds = [] := List.eq_nil_of_length_eq_zero t1.len.symm
        subst this
        exact q _ H (fun _ _ z => z) (.tup h2 t2)
      · subst z
        have : es = [] := List.eq_nil_of_length_eq_zero t2.len.symm
        subst this
        rw [List.append_nil] at q
        exact q _ H (fun _ _ z => z) (.tup h1 t1)
      · exact q _ _ (keeps_upd hp) (Rep.newT hp (t1.app t2))
    · cases ez
  · rename_i ds es
    split at ez
    · rename_i hl
      cases ez
      obtain ⟨a, vs, rfl, h1, t1⟩ := r1.list rel
      obtain ⟨b, ws, rfl, h2, t2⟩ := r2.list rel
      refine op_catR pins s σ' H _ _ v u Q I rx ry ⟨a, b, vs, ws, rfl, rfl, h1, h2, by rw [t1.len, t2.len]; exact bigLe hl, fun p hp => ?_⟩
      exact q _ _ (keeps_upd hp) (Rep.newL rel.toRelO hp (t1.app t2))
    · cases ez
  · cases ez
theorem op_binM (fr : FrX X P) : OpR X (binaryOp .Mult) (rBin P .mul) := by
  have hK := fr.K
  intro pins s σ' H x y v u Q I rx ry h
  obtain ⟨σ, env, objs, m, d, e, z, rel, tm, r1, r2, ez, q⟩ := h
  replace ez : mulD d e = some z := ez
  unfold mulD at ez
  split at ez
  · split at ez
    · rename_i hm
      cases ez
      cases r1.intI
      cases r2.intI
      exact op_mulW pins s σ' H _ _ v u Q I rx ry ⟨_, _, rfl, rfl, of_decide_eq_true (p := bits _ + bits _ < 1000000) hm, q _ H (fun _ _ z => z) (.int _)⟩
    · cases ez
  · rename_i ds k
    split at ez
    · rename_i hl
      cases ez
      obtain ⟨a, vs, rfl, h1, t1⟩ := r1.list rel
      cases r2.intI
      have hz : vs.length * k.toNat ≤ sizeLine := by
        rw [t1.len, sizeLine_eq]
        have a1 : ds.length * k.toNat ≤ 1000 * 1000 := Nat.mul_le_mul hl.2.2 (by omega)
        omega
      exact op_repR pins s σ' H _ _ v u Q I rx ry ⟨a, k, vs, rfl, rfl, h1, by omega, by omega, hz, fun p hp => q _ _ (keeps_upd hp) (Rep.newL rel.toRelO hp (t1.rep _))⟩
    · cases ez
  · rename_i ds k
    split at ez
    · rename_i hl
      cases ez
      obtain ⟨a, vs, rfl, h1, t1⟩ := r1.tuple
      cases r2.intI
      by_cases hk : k = 1
      · subst hk
        have e1 : (List.replicate (1 : Int).toNat ds).flatten = ds := by simp
        rw [e1] at q
        exact op_rep1 pins s σ' H _ _ v u Q I rx ry ⟨a, vs, rfl, rfl, .inl (.inl h1), q _ H (fun _ _ z => z) (.tup h1 t1)⟩
      · refine op_repT pins s σ' H _ _ v u Q I rx ry ⟨a, k, vs, rfl, rfl, .inl (.inl h1), fun z => hl.2.2.2 ?_, by omega, hl.2.1, by rw [t1.len]; exact hl.2.2.1, fun p hp => q _ _ (keeps_upd hp) (Rep.newT hp (t1.rep _))⟩
        subst z
        exact List.eq_nil_of_length_eq_zero t1.len.symm
    · cases ez
  · cases ez
theorem ints2_some {f : Int → Int → Option Int} {d e z : D} (h : ints2 f d e = some z) : ∃ i j k, d = .int i ∧ e = .int j ∧ f i j = some k ∧ z = .int k := by
  unfold ints2 at h
  split at h
  · obtain ⟨k, h1, h2⟩ := Option.map_eq_some_iff.mp h
    exact ⟨_, _, k, rfl, rfl, h1, h2.symm⟩
  · cases h
theorem op_binS (fr : FrX X P) : OpR X (binaryOp .Sub) (rBin P .sub) := by
  intro pins s σ' H x y v u Q I rx ry h
  obtain ⟨σ, env, objs, m, d, e, z, rel, tm, r1, r2, ez, q⟩ := h
  obtain ⟨i, j, k, rfl, rfl, h1, rfl⟩ := ints2_some ez
  cases h1
  cases r1.intI
  cases r2.intI
  exact op_sub pins s σ' H _ _ v u Q I rx ry ⟨_, _, rfl, rfl, q _ H (fun _ _ z => z) (.int _)⟩
theorem op_binF (fr : FrX X P) : OpR X (binaryOp .FloorDiv) (rBin P .fdiv) := by
  intro pins s σ' H x y v u Q I rx ry h
  obtain ⟨σ, env, objs, m, d, e, z, rel, tm, r1, r2, ez, q⟩ := h
  obtain ⟨i, j, k, rfl, rfl, h1, rfl⟩ := ints2_some ez
  split at h1
  · rename_i hd
    cases h1
    cases r1.intI
    cases r2.intI
    have hd' := Bool.and_eq_true_iff.mp hd
    exact op_fdivW pins s σ' H _ _ v u Q I rx ry ⟨_, _, rfl, rfl, ⟨of_decide_eq_true hd'.1, of_decide_eq_true hd'.2⟩, q _ H (fun _ _ z => z) (.int _)⟩
  · cases h1
theorem op_binD (fr : FrX X P) : OpR X (binaryOp .Mod) (rBin P .mod) := by
  intro pins s σ' H x y v u Q I rx ry h
  obtain ⟨σ, env, objs, m, d, e, z, rel, tm, r1, r2, ez, q⟩ := h
  obtain ⟨i, j, k, rfl, rfl, h1, rfl⟩ := ints2_some ez
  split at h1
  · rename_i hd
    cases h1
    cases r1.intI
    cases r2.intI
    exact op_mod pins s σ' H _ _ v u Q I rx ry ⟨_, _, rfl, rfl, hd, q _ H (fun _ _ z => z) (.int _)⟩
  · cases h1
theorem op_binP (fr : FrX X P) : OpR X (binaryOp .Pow) (rBin P .pow) := by
  intro pins s σ' H x y v u Q I rx ry h
  obtain ⟨σ, env, objs, m, d, e, z, rel, tm, r1, r2, ez, q⟩ := h
  obtain ⟨i, j, k, rfl, rfl, h1, rfl⟩ := ints2_some ez
  split at h1
  · rename_i hd
    cases h1
    cases r1.intI
    cases r2.intI
    have b2 : (1000 : Nat) < 2 ^ 64 := by decide
    have b3 := hd.2.2
    exact op_pow pins s σ' H _ _ v u Q I rx ry ⟨_, _, rfl, rfl, ⟨hd.1, by omega, by omega⟩, q _ H (fun _ _ z => z) (.int _)⟩
  · cases h1
def binOf : Operator → Option Bin
  | .Add => some .add
  | .Sub => some .sub
  | .Mult => some .mul
  | .FloorDiv => some .fdiv
  | .Mod => some .mod
  | .Pow => some .pow
  | _ => none
theorem op_bin (fr : FrX X P) {o : Operator} {b : Bin} (h : binOf o = some b) : OpR X (binaryOp o) (rBin P b) := by
  cases o <;> first
    | (cases h; exact op_binA fr)
    | (cases h; exact op_binS fr)
    | (cases h; exact op_binM fr)
    | (cases h; exact op_binF fr)
    | (cases h; exact op_binD fr)
    | (cases h; exact op_binP fr)
    | cases h
theorem s_bin (fr : FrX X P) {o : Operator} {o' : Bin} (ho : binOf o = some o') (ha : PE X a (rdO P F W pa)) (hb : PE X b (rdO P F W pb)) : PE X (.BinOp a o b pos) (rd P F W (.bin o' pa pb)) := by
  refine peC (pe_op (op_bin fr ho) ha hb) fun σ H Q ⟨env, objs, m, rel, tm, h⟩ => ?_
  refine rd_seq rel tm h fun x H1 m1 d objs1 rel1 tm1 s1 r1 h1 => rd_seq rel1 tm1 h1 fun y H2 m2 e objs2 rel2 tm2 s2 r2 h2 => ?_
  obtain ⟨z, ez, g⟩ := Post.lift h2
  exact ⟨σ, env, objs2, m2, d, e, z, rel2, tm2, r1.step s2, r2, ez, fun v H' k r => g v H' m2 (rel2.keeps k) tm2 ((s1.trans s2).trans k.step) r⟩
/-! ### comparisons -/
mutual
theorem eqv_kit : ∀ d e : D, eqv d e = PyData.eqv d e
  | .none, e => by cases e <;> simp [eqv, PyData.eqv]
  | .bool a, e => by
    cases e <;> simp [eqv, PyData.eqv]
    all_goals (rename_i i; show decide ((if a then 1 else 0 : Int) = i) = ((if a then 1 else 0 : Int) == i); rw [Bool.eq_iff_iff]; simp)
  | .int i, e => by cases e <;> simp [eqv, PyData.eqv]; all_goals first | rfl | (rename_i b; cases b <;> simp) | (rename_i j; by_cases h : i = j <;> simp [h])
  | .str x, e => by cases e <;> simp [eqv, PyData.eqv]; all_goals (rename_i y; by_cases h : x = y <;> simp [h])
  | .list xs, e => by cases e <;> simp [eqv, PyData.eqv]; all_goals exact eqvs_kit xs _
  | .tuple xs, e => by cases e <;> simp [eqv, PyData.eqv]; all_goals exact eqvs_kit xs _
  | .dict xs, e => by cases e <;> simp [eqv, PyData.eqv]
theorem eqvs_kit : ∀ d e : List D, eqvs d e = PyData.eqvAll d e
  | [], e => by cases e <;> simp [eqvs, PyData.eqvAll]
  | x :: xs, e => by
    cases e with
    | nil => simp [eqvs, PyData.eqvAll]
    | cons y ys =>
      simp only [eqvs, PyData.eqvAll]
      rw [eqv_kit x y, eqvs_kit xs ys]
end
mutual
theorem sh_lay : ∀ (d : D) (n : Nat), shN n d = true → d.canLay0 = true ∧ d.depth ≤ n
  | .none, n, _ => ⟨rfl, by simp [PyData.depth]⟩
  | .bool _, n, _ => ⟨rfl, by simp [PyData.depth]⟩
  | .int _, n, _ => ⟨rfl, by simp [PyData.depth]⟩
  | .str x, n, h => by
    refine ⟨?_, by simp [PyData.depth]⟩
    cases n <;> exact h
  | .list xs, 0, h => by simp [shN] at h
  | .list xs, n + 1, h => by
    obtain ⟨h1, h2⟩ := sh_lays xs n (by simpa [shN] using h)
    exact ⟨by simpa [PyData.canLay0] using h1, by simp only [PyData.depth]; omega⟩
  | .tuple xs, 0, h => by simp [shN] at h
  | .tuple xs, n + 1, h => by
    obtain ⟨h1, h2⟩ := sh_lays xs n (by simpa [shN] using h)
    exact ⟨by simpa [PyData.canLay0] using h1, by simp only [PyData.depth]; omega⟩
  | .dict xs, n, h => by cases n <;> simp [shN] at h
theorem sh_lays : ∀ (ds : List D) (n : Nat), (∀ d ∈ ds, shN n d = true) → PyData.canLayAll0 ds = true ∧ PyData.depthAll ds ≤ n
  | [], n, _ => ⟨rfl, by simp [PyData.depthAll]⟩
  | d :: ds, n, h => by
    obtain ⟨h1, h2⟩ := sh_lay d n (h d List.mem_cons_self)
    obtain ⟨h3, h4⟩ := sh_lays ds n fun e he => h e (List.mem_cons_of_mem _ he)
    exact ⟨by simp [PyData.canLayAll0, h1, h3], by simp only [PyData.depthAll]; omega⟩
end
theorem sh_shaped {d : D} (h : sh d = true) : SeqAt.shaped d = true := by
  obtain ⟨h1, h2⟩ := sh_lay d 8 h
  unfold SeqAt.shaped
  rw [h1, decide_eq_true (by omega)]
  rfl
def rCmp (P : Par) (o : Cmp) : R2 := fun x y H Q => ∃ σ env objs m d e r, Rel P σ H env objs m ∧ RepT P σ env m H x d ∧ RepT P σ env m H y e ∧ cmpD o d e = some r ∧ Q (.bl r) H
theorem eqD_some {d e : D} {r : Bool} (h : eqD d e = some r) : sh d = true ∧ sh e = true ∧ r = PyData.eqv d e := by
  unfold eqD at h
  split at h
  · rename_i hh
    cases h
    obtain ⟨h1, h2⟩ := Bool.and_eq_true_iff.mp hh
    exact ⟨h1, h2, eqv_kit d e⟩
  · cases h
theorem intsB_some {f : Int → Int → Bool} {d e : D} {r : Bool} (h : intsB f d e = some r) : ∃ i j, d = .int i ∧ e = .int j ∧ r = f i j := by
  unfold intsB at h
  split at h
  · cases h; exact ⟨_, _, rfl, rfl, rfl⟩
  · cases h
theorem any_kit (d : D) : ∀ ds : List D, (ds.any fun z => eqv z d) = ds.any fun z => PyData.eqv z d
  | [] => rfl
  | x :: xs => by rw [List.any_cons, List.any_cons, eqv_kit, any_kit d xs]
def isNV : V → Bool
  | .non => true
  | _ => false
theorem isN_some {d e : D} {r : Bool} (h : isN d e = some r) : e = .none ∧ r = isNoneD d := by
  unfold isN at h
  split at h
  · cases h; exact ⟨rfl, rfl⟩
  · cases h
theorem isB_some {d e : D} {r : Bool} (h : isB d e = some r) : ∃ a b, d = .bool a ∧ e = .bool b ∧ r = (a == b) := by
  unfold isB at h
  split at h
  · cases h; exact ⟨_, _, rfl, rfl, rfl⟩
  · cases h
theorem non_of {P : Par} {σ : L2.St} {env : Env} {m : Mp} {H : Hp} {v : V} {d : D} (h : RepT P σ env m H v d) {objs : Objs} (rel : Rel P σ H env objs m) : decide (v = V.non) = isNoneD d := by
  rcases h with h | ⟨i, xs, e1, e2, e3⟩
  · cases h <;> rfl
  · subst e3
    obtain ⟨a, ws, h1, h2, h3, h4⟩ := rel.slot i _ e2
    rw [e1] at h2
    cases h2
    rfl
theorem inD_some {d e : D} {r : Bool} (h : inD d e = some r) : sh d = true ∧ sh e = true ∧ ∃ ds, (e = .list ds ∨ e = .tuple ds) ∧ r = ds.any fun z => PyData.eqv z d := by
  unfold inD at h
  split at h
  · rename_i ds hi
    split at h
    · rename_i hh
      cases h
      obtain ⟨h1, h2⟩ := Bool.and_eq_true_iff.mp hh
      refine ⟨h1, h2, ds, ?_, any_kit d ds⟩
      unfold itemsOf at hi
      split at hi
      · cases hi; exact .inl rfl
      · cases hi; exact .inr rfl
      · cases hi
    · cases h
  · cases h
theorem op_cmpEq (fr : FrX X P) : OpR X (compareOp .Eq) (rCmp P .eq) := by
  intro pins s σ' H x y v u Q I rx ry h
  obtain ⟨σ, env, objs, m, d, e, r, rel, r1, r2, ez, q⟩ := h
  obtain ⟨h1, h2, rfl⟩ := eqD_some ez
  exact op_eqD (by have := fr.hu; omega) pins s σ' H x y v u Q I rx ry ⟨d, e, fr.K ▸ r1.dp rel h1, fr.K ▸ r2.dp rel h2, sh_shaped h1, sh_shaped h2, q⟩
theorem op_cmpNe (fr : FrX X P) : OpR X (compareOp .NotEq) (rCmp P .ne) := by
  intro pins s σ' H x y v u Q I rx ry h
  obtain ⟨σ, env, objs, m, d, e, r, rel, r1, r2, ez, q⟩ := h
  obtain ⟨r', e1, e2⟩ := Option.map_eq_some_iff.mp (show (eqD d e).map not = some r from ez)
  obtain ⟨h1, h2, rfl⟩ := eqD_some e1
  subst e2
  exact op_neD (by have := fr.hu; omega) pins s σ' H x y v u Q I rx ry ⟨d, e, fr.K ▸ r1.dp rel h1, fr.K ▸ r2.dp rel h2, sh_shaped h1, sh_shaped h2, q⟩
theorem op_cmpI {o : Cmp} {f : Value → Value → Sem Value} {g : Int → Int → Bool} (ho : cmpD o = intsB g) (h : OpR X f (rI0 fun i j => .bl (g i j))) : OpR X f (rCmp P o) := by
  intro pins s σ' H x y v u Q I rx ry hh
  obtain ⟨σ, env, objs, m, d, e, r, rel, r1, r2, ez, q⟩ := hh
  rw [ho] at ez
  obtain ⟨i, j, rfl, rfl, rfl⟩ := intsB_some ez
  exact h pins s σ' H x y v u Q I rx ry ⟨i, j, r1.intI, r2.intI, q⟩
theorem op_cmpIn (fr : FrX X P) : OpR X (compareOp .In) (rCmp P .in_) := by
  intro pins s σ' H x y v u Q I rx ry h
  obtain ⟨σ, env, objs, m, d, e, r, rel, r1, r2, ez, q⟩ := h
  obtain ⟨h1, h2, ds, h3, rfl⟩ := inD_some ez
  rcases h3 with rfl | rfl
  · exact op_inD (by have := fr.hu; omega) pins s σ' H x y v u Q I rx ry ⟨d, ds, fr.K ▸ r1.dp rel h1, fr.K ▸ r2.dp rel h2, sh_shaped h1, sh_shaped h2, q⟩
  · exact op_inT fr.hu pins s σ' H x y v u Q I rx ry ⟨d, ds, fr.K ▸ r1.dp rel h1, fr.K ▸ r2.dp rel h2, sh_shaped h1, sh_shaped h2, q⟩
theorem op_cmpNin (fr : FrX X P) : OpR X (compareOp .NotIn) (rCmp P .nin) := by
  intro pins s σ' H x y v u Q I rx ry h
  obtain ⟨σ, env, objs, m, d, e, r, rel, r1, r2, ez, q⟩ := h
  obtain ⟨r', e1, e2⟩ := Option.map_eq_some_iff.mp (show (inD d e).map not = some r from ez)
  obtain ⟨h1, h2, ds, h3, rfl⟩ := inD_some e1
  subst e2
  rcases h3 with rfl | rfl
  · exact op_notInD (by have := fr.hu; omega) pins s σ' H x y v u Q I rx ry ⟨d, ds, fr.K ▸ r1.dp rel h1, fr.K ▸ r2.dp rel h2, sh_shaped h1, sh_shaped h2, q⟩
  · exact op_notInT fr.hu pins s σ' H x y v u Q I rx ry ⟨d, ds, fr.K ▸ r1.dp rel h1, fr.K ▸ r2.dp rel h2, sh_shaped h1, sh_shaped h2, q⟩
theorem op_cmpIs (fr : FrX X P) : OpR X (compareOp .Is) (rCmp P .isN) := by
  intro pins s σ' H x y v u Q I rx ry h
  obtain ⟨σ, env, objs, m, d, e, r, rel, r1, r2, ez, q⟩ := h
  obtain ⟨rfl, rfl⟩ := isN_some ez
  exact op_isN pins s σ' H x y v u Q I rx ry ⟨r2.noneI, by rw [non_of r1 rel]; exact q⟩
theorem op_cmpIsnt (fr : FrX X P) : OpR X (compareOp .IsNot) (rCmp P .isntN) := by
  intro pins s σ' H x y v u Q I rx ry h
  obtain ⟨σ, env, objs, m, d, e, r, rel, r1, r2, ez, q⟩ := h
  obtain ⟨r', e1, e2⟩ := Option.map_eq_some_iff.mp (show (isN d e).map not = some r from ez)
  obtain ⟨rfl, rfl⟩ := isN_some e1
  subst e2
  exact op_notN pins s σ' H x y v u Q I rx ry ⟨r2.noneI, by rw [non_of r1 rel]; exact q⟩
theorem op_cmpIsB (fr : FrX X P) : OpR X (compareOp .Is) (rCmp P .isB) := by
  intro pins s σ' H x y v u Q I rx ry h
  obtain ⟨σ, env, objs, m, d, e, r, rel, r1, r2, ez, q⟩ := h
  obtain ⟨a, b, rfl, rfl, rfl⟩ := isB_some ez
  exact op_isBl pins s σ' H x y v u Q I rx ry ⟨a, b, r1.boolI, r2.boolI, by rw [show decide (a = b) = (a == b) by cases a <;> cases b <;> rfl]; exact q⟩
theorem op_cmpIsntB (fr : FrX X P) : OpR X (compareOp .IsNot) (rCmp P .isntB) := by
  intro pins s σ' H x y v u Q I rx ry h
  obtain ⟨σ, env, objs, m, d, e, r, rel, r1, r2, ez, q⟩ := h
  obtain ⟨r', e1, e2⟩ := Option.map_eq_some_iff.mp (show (isB d e).map not = some r from ez)
  obtain ⟨a, b, rfl, rfl, rfl⟩ := isB_some e1
  subst e2
  exact op_notBl pins s σ' H x y v u Q I rx ry ⟨a, b, r1.boolI, r2.boolI, by rw [show decide (a = b) = (a == b) by cases a <;> cases b <;> rfl]; exact q⟩
/-- the comparison that stands in the text, by its right side -/
def isOf : Expr → Option Cmp
  | .Constant .none _ _ => some .isN
  | .Constant (.bool _) _ _ => some .isB
  | _ => none
def isntOf : Expr → Option Cmp
  | .Constant .none _ _ => some .isntN
  | .Constant (.bool _) _ _ => some .isntB
  | _ => none
def cmpOf : CmpOp → Expr → Option Cmp
  | .Eq, _ => some .eq
  | .NotEq, _ => some .ne
  | .Lt, _ => some .lt
  | .LtE, _ => some .le
  | .Gt, _ => some .gt
  | .GtE, _ => some .ge
  | .In, _ => some .in_
  | .NotIn, _ => some .nin
  | .Is, b => isOf b
  | .IsNot, b => isntOf b
theorem op_cmp (fr : FrX X P) {o : CmpOp} {q : Cmp} (h : cmpOf o b = some q) : OpR X (compareOp o) (rCmp P q) := by
  cases o with
  | Eq => cases h; exact op_cmpEq fr
  | NotEq => cases h; exact op_cmpNe fr
  | Lt => cases h; exact op_cmpI rfl op_lt
  | LtE => cases h; exact op_cmpI rfl op_le
  | Gt => cases h; exact op_cmpI rfl op_gt
  | GtE => cases h; exact op_cmpI rfl op_ge
  | In => cases h; exact op_cmpIn fr
  | NotIn => cases h; exact op_cmpNin fr
  | Is =>
    replace h : isOf b = some q := h
    unfold isOf at h
    split at h
    · cases h; exact op_cmpIs fr
    · cases h; exact op_cmpIsB fr
    · cases h
  | IsNot =>
    replace h : isntOf b = some q := h
    unfold isntOf at h
    split at h
    · cases h; exact op_cmpIsnt fr
    · cases h; exact op_cmpIsntB fr
    · cases h
theorem s_cmp (fr : FrX X P) {o : CmpOp} {o' : Cmp} (ho : cmpOf o b = some o') (hm : behindInMarks o b = false) (ha : PE X a (rdO P F W pa)) (hb : PE X b (rdO P F W pb)) : PE X (.Compare a [o] [b] pos) (rd P F W (.cmp o' pa pb)) := by
  refine peC (pe_cmpR (op_cmp fr ho) ha hb hm) fun σ H Q ⟨env, objs, m, rel, tm, h⟩ => ?_
  refine rd_seq rel tm h fun x H1 m1 d objs1 rel1 tm1 s1 r1 h1 => rd_seq rel1 tm1 h1 fun y H2 m2 e objs2 rel2 tm2 s2 r2 h2 => ?_
  obtain ⟨z, ez, g⟩ := Post.liftB h2
  exact ⟨σ, env, objs2, m2, d, e, z, rel2, r1.step s2, r2, ez, g _ H2 m2 rel2 tm2 (s1.trans s2) (.bl _)⟩
theorem s_cmp2 (fr : FrX X P) {o1 o2 : CmpOp} {o1' o2' : Cmp} (h1 : cmpOf o1 b = some o1') (h2 : cmpOf o2 c = some o2') (hm : lastMarks [o1, o2] [b, c] = false)
    (ha : PE X a (rdO P F W pa)) (hb : PE X b (rdO P F W pb)) (hc : PE X c (rdO P F W pc)) : PE X (.Compare a [o1, o2] [b, c] pos) (rd P F W (.cmp2 o1' o2' pa pb pc)) := by
  refine peC (pe_chain (op_cmp fr h1) (op_cmp fr h2) ha hb hc hm) fun σ H Q ⟨env, objs, m, rel, tm, h⟩ => ?_
  refine rd_seq rel tm h fun x H1 m1 d objs1 rel1 tm1 s1 r1 h1 => rd_seq rel1 tm1 h1 fun y H2 m2 e objs2 rel2 tm2 s2 r2 h2 => ?_
  obtain ⟨z, ez, g⟩ := Post.liftB h2
  refine ⟨σ, env, objs2, m2, d, e, z, rel2, r1.step s2, r2, ez, z, rfl, ?_⟩
  cases z with
  | false => exact g _ H2 m2 rel2 tm2 (s1.trans s2) (.bl _)
  | true =>
    refine rd_seq rel2 tm2 g fun w H3 m3 f objs3 rel3 tm3 s3 r3 h3 => ?_
    obtain ⟨z, ez, g⟩ := Post.liftB h3
    exact ⟨σ, env, objs3, m3, e, f, z, rel3, r2.step s3, r3, ez, g _ H3 m3 rel3 tm3 ((s1.trans s2).trans s3) (.bl _)⟩
end
end Tn
set_option Elab.async false
set_option linter.all false
set_option maxRecDepth 100000
set_option maxHeartbeats 4000000
namespace Tn
open PySem PySem.Spec PyProof.Rows L2
section
variable {X : Cx} {P : Par} {F : Nat → List D → M D} {W : Nat → Hp → Prop} {e a b c : Expr} {p pa pb pc : E} {pos : Pos} {rest : List Expr}
/-! ### truth -/
theorem truV_of (fr : FrX X P) {m : Mp} {H : Hp} {v : V} {d : D} {k : Bool} (r : Rep P m H v d) (h : truD d = some k) : TruV X.K v H k := by
  unfold truD at h
  split at h
  · cases h; cases r; exact rfl
  · cases h; cases r; exact rfl
  · cases h
    cases r
    show decide (_ ≠ 0) = (_ != 0)
    rename_i i
    by_cases q : i = 0 <;> simp [q]
  · cases h
    cases r with
    | lst h1 t => exact .inl ⟨_, .inl h1.1, by have := t.len; rename_i ds a xs; cases ds <;> cases xs <;> simp_all⟩
  · cases h
    cases r with
    | tup h1 t => exact .inr (.inl ⟨_, .inl (.inl h1), by have := t.len; rename_i ds a xs; cases ds <;> cases xs <;> simp_all⟩)
  · cases h
def evT (F : Nat → List D → M D) (p : E) (env : Env) : M Bool := M.bind (ev F p env) fun d => M.lift (truD d)
theorem evT_and (env : Env) : evT F (.and_ pa pb) env = M.bind (evT F pa env) fun t => if t then evT F pb env else M.pure false := by
  unfold evT
  show M.bind (M.bind (ev F pa env) fun x => M.bind (M.lift (truD x)) fun t => if t then ev F pb env else M.pure x) _ = _
  rw [M.bind_assoc, M.bind_assoc]
  congr 1
  funext x
  cases h : truD x with
  | none => rfl
  | some t =>
    cases t with
    | true => rfl
    | false =>
      show M.bind (M.pure x) (fun d => M.lift (truD d)) = M.pure false
      rw [M.pure_bind, h]
      rfl
theorem evT_or (env : Env) : evT F (.or_ pa pb) env = M.bind (evT F pa env) fun t => if t then M.pure true else evT F pb env := by
  unfold evT
  show M.bind (M.bind (ev F pa env) fun x => M.bind (M.lift (truD x)) fun t => if t then M.pure x else ev F pb env) _ = _
  rw [M.bind_assoc, M.bind_assoc]
  congr 1
  funext x
  cases h : truD x with
  | none => rfl
  | some t =>
    cases t with
    | false => rfl
    | true =>
      show M.bind (M.pure x) (fun d => M.lift (truD d)) = M.pure true
      rw [M.pure_bind, h]
      rfl
theorem evT_not (env : Env) : evT F (.not_ pa) env = M.bind (evT F pa env) fun t => M.pure (!t) := by
  unfold evT
  show M.bind (M.bind (ev F pa env) fun x => M.bind (M.lift (truD x)) fun t => M.pure (PyData.bool (!t))) _ = _
  rw [M.bind_assoc, M.bind_assoc]
  congr 1
  funext x
  cases h : truD x with
  | none => rfl
  | some t => rfl
/-- a test by its value -/
theorem t_val (fr : FrX X P) (h : PE X e (rd P F W p)) (he : ∀ whole, isTrue e X.env whole = (do let v ← whole; standAt e.pos; holding [v] (truthy v))) : PT X e (rdT P F W p) := by
  refine ptC (pt_truth h he) fun σ H Q ⟨env, objs, m, rel, tm, h⟩ => ?_
  refine rd_seq rel tm h fun x H1 m1 d objs1 rel1 tm1 s1 r1 h1 => ?_
  obtain ⟨k, ek, g⟩ := Post.lift h1
  exact ⟨k, truV_of fr r1 ek, g H1 m1 rel1 tm1 s1⟩
theorem t_cmp (fr : FrX X P) {o : CmpOp} {o' : Cmp} (ho : cmpOf o b = some o') (hm : behindInMarks o b = false) (ha : PE X a (rdO P F W pa)) (hb : PE X b (rdO P F W pb)) : PT X (.Compare a [o] [b] pos) (rdT P F W (.cmp o' pa pb)) := by
  refine ptC (pt_cmpR (op_cmp fr ho) ha hb hm) fun σ H Q ⟨env, objs, m, rel, tm, h⟩ => ?_
  have e0 : (M.bind (ev F (.cmp o' pa pb) env) fun d => M.lift (truD d)) = M.bind (ev F pa env) (fun x => M.bind (ev F pb env) fun y => M.lift (cmpD o' x y)) := by
    show M.bind (M.bind (ev F pa env) fun x => M.bind (ev F pb env) fun y => M.bind (M.lift (cmpD o' x y)) fun r => M.pure (PyData.bool r)) _ = _
    rw [M.bind_assoc]
    congr 1
    funext x
    rw [M.bind_assoc]
    congr 1
    funext y
    cases cmpD o' x y <;> rfl
  rw [e0] at h
  refine rd_seq rel tm h fun x H1 m1 d objs1 rel1 tm1 s1 r1 h1 => rd_seq rel1 tm1 h1 fun y H2 m2 e objs2 rel2 tm2 s2 r2 h2 => ?_
  obtain ⟨z, ez, g⟩ := Post.lift h2
  exact ⟨σ, env, objs2, m2, d, e, z, rel2, r1.step s2, r2, ez, z, rfl, g H2 m2 rel2 tm2 (s1.trans s2)⟩
theorem t_cmp2 (fr : FrX X P) {o1 o2 : CmpOp} {o1' o2' : Cmp} (h1 : cmpOf o1 b = some o1') (h2 : cmpOf o2 c = some o2') (hm : lastMarks [o1, o2] [b, c] = false)
    (ha : PE X a (rdO P F W pa)) (hb : PE X b (rdO P F W pb)) (hc : PE X c (rdO P F W pc)) : PT X (.Compare a [o1, o2] [b, c] pos) (rdT P F W (.cmp2 o1' o2' pa pb pc)) := by
  refine ptC (pt_chain (op_cmp fr h1) (op_cmp fr h2) ha hb hc hm) fun σ H Q ⟨env, objs, m, rel, tm, h⟩ => ?_
  have e0 : (M.bind (ev F (.cmp2 o1' o2' pa pb pc) env) fun d => M.lift (truD d)) = M.bind (ev F pa env) (fun x => M.bind (ev F pb env) fun y => M.bind (M.lift (cmpD o1' x y)) fun r => if r then M.bind (ev F pc env) fun z => M.lift (cmpD o2' y z) else M.pure false) := by
    show M.bind (M.bind (ev F pa env) fun x => M.bind (ev F pb env) fun y => M.bind (M.lift (cmpD o1' x y)) fun r => if r then M.bind (ev F pc env) fun z => M.bind (M.lift (cmpD o2' y z)) fun r => M.pure (PyData.bool r) else M.pure (PyData.bool false)) _ = _
    rw [M.bind_assoc]
    congr 1
    funext x
    rw [M.bind_assoc]
    congr 1
    funext y
    cases cmpD o1' x y with
    | none => rfl
    | some r =>
      cases r with
      | false => rfl
      | true =>
        show M.bind (M.bind (ev F pc env) fun z => M.bind (M.lift (cmpD o2' y z)) fun r => M.pure (PyData.bool r)) _ = M.bind (ev F pc env) fun z => M.lift (cmpD o2' y z)
        rw [M.bind_assoc]
        congr 1
        funext z
        cases cmpD o2' y z <;> rfl
  rw [e0] at h
  refine rd_seq rel tm h fun x H1 m1 d objs1 rel1 tm1 s1 r1 h1 => rd_seq rel1 tm1 h1 fun y H2 m2 e objs2 rel2 tm2 s2 r2 h2 => ?_
  obtain ⟨z, ez, g⟩ := Post.liftB h2
  refine ⟨σ, env, objs2, m2, d, e, z, rel2, r1.step s2, r2, ez, z, rfl, ?_⟩
  cases z with
  | false => exact ⟨false, rfl, g H2 m2 rel2 tm2 (s1.trans s2)⟩
  | true =>
    refine rd_seq rel2 tm2 g fun w H3 m3 f objs3 rel3 tm3 s3 r3 h3 => ?_
    obtain ⟨z, ez, g⟩ := Post.lift h3
    exact ⟨σ, env, objs3, m3, e, f, z, rel3, r2.step s3, r3, ez, z, rfl, g H3 m3 rel3 tm3 ((s1.trans s2).trans s3)⟩
theorem t_not (ha : PT X a (rdT P F W pa)) : PT X (.UnaryOp .Not a pos) (rdT P F W (.not_ pa)) := by
  refine ptC (pt_not ha) fun σ H Q ⟨env, objs, m, rel, tm, h⟩ => ?_
  have e0 := evT_not (F := F) (pa := pa) env
  unfold evT at e0
  rw [e0] at h
  refine rdT_seq rel tm h fun b H1 m1 objs1 rel1 tm1 s1 h1 => ?_
  exact h1 H1 m1 rel1 tm1 s1
theorem w_and (ha : PT X a (rdT P F W pa)) (hb : PW X (.BoolOp .And (b :: rest) pos) (rdT P F W pb)) : PW X (.BoolOp .And (a :: b :: rest) pos) (rdT P F W (.and_ pa pb)) := by
  have h0 := pw_and (pos := pos) ha hb
  refine ⟨fun wh pins s σ H Q I q => h0.run wh pins s σ H Q I ?_⟩
  obtain ⟨env, objs, m, rel, tm, h⟩ := q
  have e0 := evT_and (F := F) (pa := pa) (pb := pb) env
  unfold evT at e0
  rw [e0] at h
  refine rdT_seq rel tm h fun b H1 m1 objs1 rel1 tm1 s1 h1 => ?_
  cases b with
  | true => exact ⟨env, objs1, m1, rel1, tm1, h1.imp fun b o g H' m' r t s => g H' m' r t (s1.trans s)⟩
  | false => exact h1 H1 m1 rel1 tm1 s1
theorem w_or (ha : PT X a (rdT P F W pa)) (hb : PW X (.BoolOp .Or (b :: rest) pos) (rdT P F W pb)) : PW X (.BoolOp .Or (a :: b :: rest) pos) (rdT P F W (.or_ pa pb)) := by
  have h0 := pw_or (pos := pos) ha hb
  refine ⟨fun wh pins s σ H Q I q => h0.run wh pins s σ H Q I ?_⟩
  obtain ⟨env, objs, m, rel, tm, h⟩ := q
  have e0 := evT_or (F := F) (pa := pa) (pb := pb) env
  unfold evT at e0
  rw [e0] at h
  refine rdT_seq rel tm h fun b H1 m1 objs1 rel1 tm1 s1 h1 => ?_
  cases b with
  | false => exact ⟨env, objs1, m1, rel1, tm1, h1.imp fun b o g H' m' r t s => g H' m' r t (s1.trans s)⟩
  | true => exact h1 H1 m1 rel1 tm1 s1
/-! ### as values -/
theorem s_and (fr : FrX X P) (ha : PE X a (rd P F W pa)) (hb : PE X (.BoolOp .And (b :: rest) pos) (rd P F W pb)) : PE X (.BoolOp .And (a :: b :: rest) pos) (rd P F W (.and_ pa pb)) := by
  refine peC (pe_andT ha hb) fun σ H Q ⟨env, objs, m, rel, tm, h⟩ => ?_
  refine rd_seq rel tm h fun x H1 m1 d objs1 rel1 tm1 s1 r1 h1 => ?_
  obtain ⟨k, ek, g⟩ := Post.liftB h1
  refine ⟨k, truV_of fr r1 ek, ?_⟩
  cases k with
  | true => exact ⟨env, objs1, m1, rel1, tm1, g.imp fun d o g v H' m' r t s rr => g v H' m' r t (s1.trans s) rr⟩
  | false => exact g x H1 m1 rel1 tm1 s1 r1
theorem s_or (fr : FrX X P) (ha : PE X a (rd P F W pa)) (hb : PE X (.BoolOp .Or (b :: rest) pos) (rd P F W pb)) : PE X (.BoolOp .Or (a :: b :: rest) pos) (rd P F W (.or_ pa pb)) := by
  refine peC (pe_orT ha hb) fun σ H Q ⟨env, objs, m, rel, tm, h⟩ => ?_
  refine rd_seq rel tm h fun x H1 m1 d objs1 rel1 tm1 s1 r1 h1 => ?_
  obtain ⟨k, ek, g⟩ := Post.liftB h1
  refine ⟨k, truV_of fr r1 ek, ?_⟩
  cases k with
  | false => exact ⟨env, objs1, m1, rel1, tm1, g.imp fun d o g v H' m' r t s rr => g v H' m' r t (s1.trans s) rr⟩
  | true => exact g x H1 m1 rel1 tm1 s1 r1
theorem s_not (fr : FrX X P) (ha : PE X a (rd P F W pa)) : PE X (.UnaryOp .Not a pos) (rd P F W (.not_ pa)) := by
  refine peC (pe_notT ha) fun σ H Q ⟨env, objs, m, rel, tm, h⟩ => ?_
  refine rd_seq rel tm h fun x H1 m1 d objs1 rel1 tm1 s1 r1 h1 => ?_
  obtain ⟨k, ek, g⟩ := Post.liftB h1
  exact ⟨k, truV_of fr r1 ek, g _ H1 m1 rel1 tm1 s1 (.bl _)⟩
theorem s_neg (ha : PE X a (rd P F W pa)) : PE X (.UnaryOp .USub a pos) (rd P F W (.neg pa)) := by
  refine peC (pe_un un_neg ha) fun σ H Q ⟨env, objs, m, rel, tm, h⟩ => ?_
  refine rd_seq rel tm h fun x H1 m1 d objs1 rel1 tm1 s1 r1 h1 => ?_
  obtain ⟨k, ek, g⟩ := Post.liftB h1
  have : d = .int k := by
    unfold intOf at ek
    split at ek
    · cases ek; rfl
    · cases ek
  subst this
  exact ⟨k, r1.intI, g _ H1 m1 rel1 tm1 s1 (.int _)⟩
theorem s_ite (hc : PT X c (rdT P F W pc)) (ha : PE X a (rd P F W pa)) (hb : PE X b (rd P F W pb)) : PE X (.IfExp c a b pos) (rd P F W (.ite pc pa pb)) := by
  refine peC (pe_ifExp hc ha hb) fun σ H Q ⟨env, objs, m, rel, tm, h⟩ => ?_
  have e0 : ev F (.ite pc pa pb) env = M.bind (M.bind (ev F pc env) fun d => M.lift (truD d)) (fun t => if t then ev F pa env else ev F pb env) := by
    rw [M.bind_assoc]
    rfl
  rw [e0] at h
  refine rdT_seq rel tm h fun k H1 m1 objs1 rel1 tm1 s1 h1 => ?_
  cases k with
  | true => exact ⟨env, objs1, m1, rel1, tm1, Post.imp h1 fun d o g v H' m' r t s rr => g v H' m' r t (s1.trans s) rr⟩
  | false => exact ⟨env, objs1, m1, rel1, tm1, Post.imp h1 fun d o g v H' m' r t s rr => g v H' m' r t (s1.trans s) rr⟩
/-! ### arguments, displays -/
def okE : Expr → Bool
  | .Starred _ _ => false
  | .Set _ _ _ => false
  | .Slice _ _ _ _ => false
  | _ => true
theorem star_cons {e : Expr} {es : List Expr} {env : PySem.Env} (h : okE e = true) : starEach (e :: es) env = (false, eval e env) :: starEach es env := by
  cases e <;> first
    | rfl
    | (exact absurd (show false = true from h) Bool.false_ne_true)
theorem star_any {env : PySem.Env} : ∀ {es : List Expr}, es.all okE = true → (starEach es env).any (·.1) = false
  | [], _ => rfl
  | e :: es, h => by
    obtain ⟨h1, h2⟩ := Bool.and_eq_true_iff.mp (show (okE e && es.all okE) = true from h)
    rw [star_cons h1]
    exact star_any h2
theorem back_any {pos : Pos} {l : List (Bool × Sem Value)} : (backTo pos l).any (·.1) = l.any (·.1) := by
  unfold backTo
  induction l with
  | nil => rfl
  | cons x xs ih => simp_all [List.any_cons, List.map_cons]
theorem back_star {pos : Pos} {env : PySem.Env} {es : List Expr} (h : es.all okE = true) : (backTo pos (starEach es env)).any (·.1) = false := by
  rw [back_any, star_any h]
theorem AllR.step {σ : L2.St} {env : Env} {m m' : Mp} {H H' : Hp} (s : Step m H m' H') : ∀ {vs : List V} {ds : List D}, AllR (RV P σ env m H) vs ds → AllR (RV P σ env m' H') vs ds
  | _, _, .nil => .nil
  | _, _, .cons r t => .cons (Rep.step s r) (AllR.step s t)
theorem AllR.stepT {σ : L2.St} {env : Env} {m m' : Mp} {H H' : Hp} (s : Step m H m' H') : ∀ {vs : List V} {ds : List D}, AllR (RepT P σ env m H) vs ds → AllR (RepT P σ env m' H') vs ds
  | _, _, .nil => .nil
  | _, _, .cons r t => .cons (RepT.step s r) (AllR.stepT s t)
theorem AllR.all {σ : L2.St} {env : Env} {m : Mp} {H : Hp} : ∀ {vs : List V} {ds : List D}, AllR (RV P σ env m H) vs ds → RepAll P m H vs ds
  | _, _, .nil => .nil
  | _, _, .cons r t => .cons r (AllR.all t)
theorem a_nil {R : RR} : PA X [] (rdA P F W R .nil) := paC pa_nil fun σ H Q ⟨env, objs, m, rel, tm, h⟩ => h [] H m rel tm Step.refl .nil
theorem a_cons {R : RR} (hR : ∀ {σ env m H m' H' v d}, Step m H m' H' → R σ env m H v d → R σ env m' H' v d) {es : List Expr} {ps : Es} (ok : okE e = true) (h1 : PE X e (rdR P F W R p)) (h2 : PA X es (rdA P F W R ps)) : PA X (e :: es) (rdA P F W R (.cons p ps)) := by
  refine paC (pa_cons h1 h2 (star_cons ok)) fun σ H Q ⟨env, objs, m, rel, tm, h⟩ => ?_
  refine rd_seq rel tm h fun x H1 m1 d objs1 rel1 tm1 s1 r1 h1 => ?_
  refine rdA_seq rel1 tm1 h1 fun xs H2 m2 ds objs2 rel2 tm2 s2 r2 h2 => ?_
  exact h2 (x :: xs) H2 m2 rel2 tm2 (s1.trans s2) (.cons (hR s2 r1) r2)
theorem s_tup {es : List Expr} {ps : Es} {k : Nat} (h : PA X es (rdA P F W (RV P) ps)) : PE X (.Tuple es k pos) (rd P F W (.tup ps)) := by
  refine peC (pe_tup h) fun σ H Q ⟨env, objs, m, rel, tm, h⟩ => ?_
  refine rdA_seq rel tm h fun xs H1 m1 ds objs1 rel1 tm1 s1 r1 h1 => ?_
  split at h1
  · rename_i hl
    refine ⟨by rw [r1.all.len]; exact bigLe hl, fun p hp => ?_⟩
    exact h1 _ _ m1 (rel1.keeps (keeps_upd hp)) tm1 (s1.trans (keeps_upd hp).step) (Rep.newT hp r1.all)
  · exact h1.elim
end
end Tn
set_option Elab.async false
set_option linter.all false
set_option maxRecDepth 100000
set_option maxHeartbeats 4000000
namespace Tn
open PySem PySem.Spec PyProof.Rows L2
section
variable {P : Par} {m m' : Mp} {H H' : Hp} {σ : L2.St} {env : Env} {objs : Objs}
theorem step_more (R : RelO P H objs m) (k : Keeps H H') (hm : ∀ q, q ≠ .tmp → m' q = m q) (ht : ∀ a, m' .tmp = some a → (H a = none ∧ ∃ o, H' a = some o ∧ Mu o) ∨ m .tmp = some a) : Step m H m' H' := by
  refine ⟨fun a o h _ => k a o h, fun a o h _ => k a o h, fun q a e => ?_, fun n a e => ?_⟩
  · by_cases hq : q = .tmp
    · subst hq
      rcases ht a e with h | h
      · exact .inr h.1
      · exact .inl ⟨_, h⟩
    · rw [hm q hq] at e
      exact .inl ⟨_, e⟩
  · rw [hm _ (by intro z; cases z)]
    exact e
theorem Rel.more (R : Rel P σ H env objs m) (k : Keeps H H') (hm : ∀ q, q ≠ .tmp → m' q = m q) (ht : ∀ a, m' .tmp = some a → (H a = none ∧ ∃ o, H' a = some o ∧ Mu o) ∨ m .tmp = some a) : Rel P σ H' env objs m' := by
  have st : Step m H m' H' := step_more R.toRelO k hm ht
  have src : ∀ q a, m' q = some a → m q = some a ∨ (q = .tmp ∧ H a = none) := fun q a e => by
    by_cases hq : q = .tmp
    · subst hq
      rcases ht a e with h | h
      · exact .inr ⟨rfl, h.1⟩
      · exact .inl h
    · rw [hm q hq] at e
      exact .inl e
  have fre : ∀ q a, m q = some a → H a ≠ none := fun q a e z => R.toRelO.free z q e
  refine ⟨⟨fun q q' a e e' => ?_, fun q a e => ?_, fun q a e => ?_, fun a e => ?_, fun n s e => ?_, fun n e => ?_⟩, R.len, fun i c e => ?_⟩
  · rcases src q a e with h | ⟨rfl, h⟩
    · rcases src q' a e' with h' | ⟨rfl, h'⟩
      · exact R.inj q q' a h h'
      · exact absurd h' (fre _ _ h)
    · rcases src q' a e' with h' | ⟨rfl, h'⟩
      · exact absurd h (fre _ _ h')
      · rfl
  · rcases src q a e with h | ⟨rfl, h⟩
    · exact R.dis q a h
    · exact R.toRelO.freeO h
  · by_cases hq : q = .tmp
    · subst hq
      rcases ht a e with h | h
      · exact h.2
      · obtain ⟨o, h1, h2⟩ := R.alive _ a h
        exact ⟨o, k _ _ h1, h2⟩
    · rw [hm q hq] at e
      obtain ⟨o, h1, h2⟩ := R.alive _ a e
      exact ⟨o, k _ _ h1, h2⟩
  · obtain ⟨o, h1⟩ := R.oal a e
    exact ⟨o, k _ _ h1⟩
  · obtain ⟨a, ks, vs, h1, h2, h3, h4, h5, h6⟩ := R.obs n s e
    refine ⟨a, ks, vs, by rw [hm _ (by intro z; cases z)]; exact h1, h2, h3, h4, k _ _ h5, fun j c hc => ?_⟩
    have h7 := h6 j c hc
    cases c with
    | v d => obtain ⟨v, e1, r⟩ := h7; exact ⟨v, e1, r.step st⟩
    | own xs => obtain ⟨b, ws, e1, e2, e3, r⟩ := h7; exact ⟨b, ws, by rw [hm _ (by intro z; cases z)]; exact e1, e2, k _ _ e3, r.step st⟩
    | dic kvs => exact h7
  · rw [hm _ (by intro z; cases z)]
    exact R.obn n e
  · have h7 := R.slot i c e
    cases c with
    | v d => obtain ⟨v, e1, r⟩ := h7; exact ⟨v, e1, r.step st⟩
    | own xs => obtain ⟨b, ws, e1, e2, e3, r⟩ := h7; exact ⟨b, ws, by rw [hm _ (by intro z; cases z)]; exact e1, e2, k _ _ e3, r.step st⟩
    | dic kvs => obtain ⟨b, ws, e1, e2, e3, e4, r⟩ := h7; exact ⟨b, ws, by rw [hm _ (by intro z; cases z)]; exact e1, e2, k _ _ e3, e4, r.step st⟩
end
section
variable {X : Cx} {P : Par} {F : Nat → List D → M D} {W : Nat → Hp → Prop} {e a b c : Expr} {p pa pb pc : E} {pos : Pos} {rest : List Expr}
/-- it makes lists -/
def Lists (F : Nat → List D → M D) (p : E) : Prop := ∀ env objs d o, ev F p env objs = some (.ok d o) → ∃ ds, d = .list ds
/-- a new list is a value -/
theorem rd_fresh (hL : Lists F p) (h : PE X e (rdF P F W p)) : PE X e (rd P F W p) := by
  refine peC h fun σ H Q ⟨env, objs, m, rel, tm, h⟩ => ⟨env, objs, m, rel, tm, ?_⟩
  unfold Post at h ⊢
  cases e0 : ev F p env objs with
  | none => rw [e0] at h; exact h
  | some r =>
    cases r with
    | ex c o => rw [e0] at h; exact h
    | ok d o =>
      rw [e0] at h
      obtain ⟨ds, rfl⟩ := hL _ _ _ _ e0
      refine ⟨ds, rfl, fun ad ws H' m' rel' tm' st ea ra => ?_⟩
      have hm : ∀ q, q ≠ Ky.tmp → mset m' .tmp none q = m' q := fun q hq => mset_ne hq
      have ht : ∀ a, mset m' .tmp none .tmp = some a → (H' a = none ∧ ∃ o, H' a = some o ∧ Mu o) ∨ m' .tmp = some a := fun a z => by rw [mset_same] at z; cases z
      have st2 : Step m' H' (mset m' .tmp none) H' := step_more rel'.toRelO (fun _ _ z => z) hm ht
      have nav : ¬ AV P (mset m' .tmp none) ad := by
        rintro (z | ⟨q, z⟩)
        · exact rel'.dis _ _ tm' z
        · by_cases hq : q = .tmp
          · subst hq; rw [mset_same] at z; cases z
          · rw [mset_ne hq] at z
            exact hq (rel'.inj _ _ _ z tm')
      exact h (.ref ad) H' (mset m' .tmp none) (rel'.more (fun _ _ z => z) hm ht) mset_same (st.trans st2) (.lst ⟨.inl ea, nav⟩ (ra.step st2))
/-- to show that a list is new -/
theorem fresh_done {σ : L2.St} {env : Env} {objs : Objs} {m0 m : Mp} {H0 H : Hp} {Q : VK} {ds : List D} {ws : List V} {q : Addr} (rel : Rel P σ H env objs m) (tm : m .tmp = none) (s : Step m0 H0 m H)
    (g : ∃ ds', PyData.list ds = PyData.list ds' ∧ ∀ a ws' H' m', Rel P σ H' env objs m' → m' .tmp = some a → Step m0 H0 m' H' → H' a = some (.lst ws') → RepAll P m' H' ws' ds' → Q (.ref a) H') (hq : H q = none) (ra : RepAll P m H ws ds) : Q (.ref q) (upd H q (.lst ws)) := by
  obtain ⟨ds', e, g⟩ := g
  cases e
  have hm : ∀ k, k ≠ Ky.tmp → mset m .tmp (some q) k = m k := fun k hk => mset_ne hk
  have ht : ∀ a, mset m .tmp (some q) .tmp = some a → (H a = none ∧ ∃ o, upd H q (.lst ws) a = some o ∧ Mu o) ∨ m .tmp = some a := fun a z => by
    rw [mset_same] at z
    cases z
    exact .inl ⟨hq, _, upd_same, trivial⟩
  have st2 : Step m H (mset m .tmp (some q)) (upd H q (.lst ws)) := step_more rel.toRelO (keeps_upd hq) hm ht
  exact g q ws _ _ (rel.more (keeps_upd hq) hm ht) mset_same (s.trans st2) upd_same (ra.step st2)
theorem f_lst {es : List Expr} {ps : Es} (h : PA X es (rdA P F W (RV P) ps)) : PE X (.List es pos) (rdF P F W (.lst ps)) := by
  refine peC (pe_lst h) fun σ H Q ⟨env, objs, m, rel, tm, h⟩ => ?_
  refine rdA_seq rel tm h fun xs H1 m1 ds objs1 rel1 tm1 s1 r1 h1 => ?_
  split at h1
  · rename_i hl
    exact ⟨by rw [r1.all.len]; exact bigLe hl, fun q hq => fresh_done rel1 tm1 s1 h1 hq r1.all⟩
  · exact h1.elim
theorem M.bind_some {α β : Type} {x : M α} {f : α → M β} {o : Objs} {b : β} {o' : Objs} (h : M.bind x f o = some (.ok b o')) : ∃ a o1, x o = some (.ok a o1) ∧ f a o1 = some (.ok b o') := by
  unfold M.bind at h
  cases e : x o with
  | none => rw [e] at h; cases h
  | some r =>
    rw [e] at h
    cases r with
    | ok a o1 => exact ⟨a, o1, rfl, h⟩
    | ex c o1 => cases h
theorem lists_lst {ps : Es} : Lists F (.lst ps) := by
  intro env objs d o h
  obtain ⟨ds, o1, _, h2⟩ := M.bind_some h
  split at h2
  · cases h2; exact ⟨_, rfl⟩
  · cases h2
/-- a sum, a product that is a new list -/
theorem f_bin (fr : FrX X P) {o : Operator} {o' : Bin} (ho : binOf o = some o') (ha : PE X a (rdO P F W pa)) (hb : PE X b (rdO P F W pb)) : PE X (.BinOp a o b pos) (rdF P F W (.bin o' pa pb)) := by
  have hK := fr.K
  have opr : OpR X (binaryOp o) (fun x y H Q => ∃ σ env objs m d e ds, Rel P σ H env objs m ∧ RepT P σ env m H x d ∧ RepT P σ env m H y e ∧ binD o' d e = some (.list ds) ∧
      ∀ q ws, H q = none → RepAll P m H ws ds → Q (.ref q) (upd H q (.lst ws))) := by
    intro pins s σ' H x y v u Q I rx ry h
    obtain ⟨σ, env, objs, m, d, e, ds, rel, r1, r2, ez, q⟩ := h
    have no2 : ∀ {f : Int → Int → Option Int}, ints2 f d e = some (.list ds) → False := fun {f} h => by
      obtain ⟨i, j, k, rfl, rfl, h1, h2⟩ := ints2_some h
      cases h2
    cases o with
    | Add =>
      cases ho
      replace ez : addD d e = some (.list ds) := ez
      unfold addD at ez
      split at ez
      · cases ez
      · split at ez <;> cases ez
      · split at ez <;> cases ez
      · split at ez
        · rename_i hl
          cases ez
          obtain ⟨a, vs, rfl, h1, t1⟩ := r1.list rel
          obtain ⟨b, ws, rfl, h2, t2⟩ := r2.list rel
          exact op_catR pins s σ' H _ _ v u Q I rx ry ⟨a, b, vs, ws, rfl, rfl, h1, h2, by rw [t1.len, t2.len]; exact bigLe hl, fun p hp => q p _ hp (t1.app t2)⟩
        · cases ez
      · cases ez
    | Mult =>
      cases ho
      replace ez : mulD d e = some (.list ds) := ez
      unfold mulD at ez
      split at ez
      · split at ez <;> cases ez
      · rename_i es k
        split at ez
        · rename_i hl
          cases ez
          obtain ⟨a, vs, rfl, h1, t1⟩ := r1.list rel
          cases r2.intI
          have hz : vs.length * k.toNat ≤ sizeLine := by
            rw [t1.len, sizeLine_eq]
            have a1 : es.length * k.toNat ≤ 1000 * 1000 := Nat.mul_le_mul hl.2.2 (by omega)
            omega
          exact op_repR pins s σ' H _ _ v u Q I rx ry ⟨a, k, vs, rfl, rfl, h1, by omega, by omega, hz, fun p hp => q p _ hp (t1.rep _)⟩
        · cases ez
      · split at ez <;> cases ez
      · cases ez
    | Sub => cases ho; exact (no2 ez).elim
    | FloorDiv => cases ho; exact (no2 ez).elim
    | Mod => cases ho; exact (no2 ez).elim
    | Pow => cases ho; exact (no2 ez).elim
    | _ => cases ho
  refine peC (pe_op opr ha hb) fun σ H Q ⟨env, objs, m, rel, tm, h⟩ => ?_
  refine rd_seq rel tm h fun x H1 m1 d objs1 rel1 tm1 s1 r1 h1 => rd_seq rel1 tm1 h1 fun y H2 m2 e objs2 rel2 tm2 s2 r2 h2 => ?_
  obtain ⟨z, ez, ds, hz, g⟩ := Post.lift h2
  subst hz
  exact ⟨σ, env, objs2, m2, d, e, ds, rel2, r1.step s2, r2, ez, fun q ws hq ra => fresh_done rel2 tm2 (s1.trans s2) ⟨ds, rfl, g⟩ hq ra⟩
/-! ### items, slices -/
theorem ixN_ixAt (n : Nat) (i : Int) : ixN n i = ixAt n i := rfl
theorem cut_sIx (n d : Nat) (o : Option Int) : HT.sIx n d o = cutAt n d o := by cases o <;> rfl
theorem RepAll.cut {m : Mp} {H : Hp} {vs : List V} {ds : List D} (r : RepAll P m H vs ds) (lo hi : Option Int) : RepAll P m H (cutV vs lo hi) (cutL ds lo hi) := by
  unfold cutV cutL
  rw [cut_sIx, cut_sIx, r.len]
  exact (r.drop _).take _
theorem plainIx_of {b : Expr} (h : okE b = true) : PlainIx b := by
  intro o i
  cases b <;> first
    | rfl
    | (exact absurd (show false = true from h) Bool.false_ne_true)
def rIdx (P : Par) : R2 := fun x y H Q => ∃ σ env objs m d e z, Rel P σ H env objs m ∧ RepT P σ env m H x d ∧ RepT P σ env m H y e ∧ idxD d e = some z ∧ ∀ v, Rep P m H v z → Q v H
theorem ix_data (fr : FrX X P) : IxR X (rIdx P) := by
  intro value slice pins s σ' H x y v u Q I rx ry h hs
  obtain ⟨σ, env, objs, m, d, e, z, rel, r1, r2, ez, q⟩ := h
  unfold idxD at ez
  split at ez
  · rename_i ds i
    obtain ⟨ad, vs, rfl, h1, t1⟩ := r1.list rel
    obtain ⟨j, e1, e2⟩ := Option.bind_eq_some_iff.mp ez
    obtain ⟨w, e3, e4⟩ := t1.get e2
    exact ix_list value slice pins s σ' H _ _ v u Q I rx ry ⟨ad, vs, i, w, rfl, r2.intI, .inl h1, by unfold atI; rw [ixN_ixAt, t1.len, e1]; exact e3, q w e4⟩ hs
  · rename_i ds i
    obtain ⟨ad, vs, rfl, h1, t1⟩ := r1.tuple
    obtain ⟨j, e1, e2⟩ := Option.bind_eq_some_iff.mp ez
    obtain ⟨w, e3, e4⟩ := t1.get e2
    exact ix_tup value slice pins s σ' H _ _ v u Q I rx ry ⟨ad, vs, i, w, rfl, r2.intI, .inl (.inl h1), by unfold atI; rw [ixN_ixAt, t1.len, e1]; exact e3, q w e4⟩ hs
  · cases ez
theorem s_idx (fr : FrX X P) (ok : okE b = true) (ha : PE X a (rdO P F W pa)) (hb : PE X b (rdO P F W pb)) : PE X (.Subscript a b pos) (rd P F W (.idx pa pb)) := by
  refine peC (pe_ix (ix_data fr) ha hb (plainIx_of ok)) fun σ H Q ⟨env, objs, m, rel, tm, h⟩ => ?_
  refine rd_seq rel tm h fun x H1 m1 d objs1 rel1 tm1 s1 r1 h1 => rd_seq rel1 tm1 h1 fun y H2 m2 e objs2 rel2 tm2 s2 r2 h2 => ?_
  obtain ⟨z, ez, g⟩ := Post.lift h2
  exact ⟨σ, env, objs2, m2, d, e, z, rel2, r1.step s2, r2, ez, fun v r => g v H2 m2 rel2 tm2 (s1.trans s2) r⟩
def rSl (P : Par) : V → Option Int → Option Int → Hp → VK → Prop := fun x lo hi H Q => ∃ σ env objs m d z, Rel P σ H env objs m ∧ RepT P σ env m H x d ∧ sliceD d lo hi = some z ∧ ∀ v H', Keeps H H' → Rep P m H' v z → Q v H'
theorem cutL_all {α : Type} {xs : List α} {lo hi : Option Int} (h : cutAt xs.length 0 lo = 0 ∧ cutAt xs.length xs.length hi = xs.length) : cutL xs lo hi = xs := by
  unfold cutL
  rw [h.1, h.2]
  simp
theorem sl_data (fr : FrX X P) : SlR X (rSl P) := by
  intro pins s σ' H x v vl vu lo hi sl Q I rx hs pl pu h
  obtain ⟨σ, env, objs, m, d, z, rel, r1, ez, q⟩ := h
  unfold sliceD at ez
  split at ez
  · cases ez
    obtain ⟨ad, vs, rfl, h1, t1⟩ := r1.list rel
    exact sl_list pins s σ' H _ v vl vu lo hi sl Q I rx hs pl pu ⟨ad, vs, rfl, .inl h1, fun p hp => q _ _ (keeps_upd hp) (Rep.newL rel.toRelO hp (t1.cut lo hi))⟩
  · rename_i ds
    cases ez
    obtain ⟨ad, vs, rfl, h1, t1⟩ := r1.tuple
    by_cases hw : HT.sIx vs.length 0 lo = 0 ∧ HT.sIx vs.length vs.length hi = vs.length
    · refine sl_all pins s σ' H _ v vl vu lo hi sl Q I rx hs pl pu ⟨ad, vs, rfl, .inl (.inl h1), hw, ?_⟩
      have e : cutL ds lo hi = ds := cutL_all (by rw [cut_sIx, cut_sIx, t1.len] at hw; exact hw)
      rw [e] at q
      exact q _ H (fun _ _ z => z) (.tup h1 t1)
    · exact sl_tup pins s σ' H _ v vl vu lo hi sl Q I rx hs pl pu ⟨ad, vs, rfl, .inl (.inl h1), hw, fun p hp => q _ _ (keeps_upd hp) (Rep.newT hp (t1.cut lo hi))⟩
  · cases ez
def rdP (P : Par) (F : Nat → List D → M D) (W : Nat → Hp → Prop) (o : Oe) : TO := fun σ H Q => ∃ env objs m, Rel P σ H env objs m ∧ m .tmp = none ∧
  Post P W σ env m H (evo F o env objs) fun l objs' => ∀ H' m', Rel P σ H' env objs' m' → m' .tmp = none → Step m H m' H' → Q l H'
theorem poC {o : Option Expr} {t t' : TO} (h : PO X o t) (k : ∀ σ H Q, t' σ H Q → t σ H Q) : PO X o t' := ⟨fun pins s σ H Q I q => h.run pins s σ H Q I (k σ H Q q)⟩
theorem o_none : PO X none (rdP P F W .none) := poC po_none fun σ H Q ⟨env, objs, m, rel, tm, h⟩ => h H m rel tm Step.refl
theorem intOf_some {d : D} {k : Int} (ek : intOf d = some k) : d = .int k := by
  unfold intOf at ek
  split at ek
  · cases ek; rfl
  · cases ek
theorem o_some (ha : PE X a (rd P F W pa)) : PO X (some a) (rdP P F W (.some pa)) := by
  refine poC (po_some ha) fun σ H Q ⟨env, objs, m, rel, tm, h⟩ => ?_
  refine rd_seq rel tm h fun x H1 m1 d objs1 rel1 tm1 s1 r1 h1 => ?_
  obtain ⟨k, ek, g⟩ := Post.liftB h1
  cases intOf_some ek
  exact ⟨k, r1.intI, g H1 m1 rel1 tm1 s1⟩
theorem rdP_seq {σ : L2.St} {env : Env} {m : Mp} {H : Hp} {objs : Objs} {o : Oe} {α : Type} {f : Option Int → M α} {G : α → Objs → Prop} {Q : Option Int → Hp → Prop} (rel : Rel P σ H env objs m) (tm : m .tmp = none)
    (h : Post P W σ env m H (M.bind (evo F o env) f objs) G)
    (k : ∀ b H1 m1 objs1, Rel P σ H1 env objs1 m1 → m1 .tmp = none → Step m H m1 H1 → Post P W σ env m1 H1 (f b objs1) G → Q b H1) : rdP P F W o σ H Q := by
  refine ⟨env, objs, m, rel, tm, ?_⟩
  cases e : evo F o env objs with
  | none =>
    rw [M.bind_none e] at h
    exact h
  | some r =>
    cases r with
    | ok d o =>
      rw [M.bind_ok e] at h
      exact fun H' m' rel' tm' s => k d H' m' o rel' tm' s (Post.later (m := m) (H := H) s h)
    | ex c o =>
      rw [M.bind_ex e] at h
      exact h
theorem s_slice (fr : FrX X P) {lo hi : Option Expr} {plo phi : Oe} {p2 : Pos} (ha : PE X a (rdO P F W pa)) (hl : PO X lo (rdP P F W plo)) (hh : PO X hi (rdP P F W phi)) : PE X (.Subscript a (.Slice lo hi none p2) pos) (rd P F W (.slice pa plo phi)) := by
  refine peC (pe_slice (sl_data fr) ha hl hh) fun σ H Q ⟨env, objs, m, rel, tm, h⟩ => ?_
  refine rd_seq rel tm h fun x H1 m1 d objs1 rel1 tm1 s1 r1 h1 => rdP_seq rel1 tm1 h1 fun l H2 m2 objs2 rel2 tm2 s2 h2 => rdP_seq rel2 tm2 h2 fun u H3 m3 objs3 rel3 tm3 s3 h3 => ?_
  obtain ⟨z, ez, g⟩ := Post.lift h3
  exact ⟨σ, env, objs3, m3, d, z, rel3, (r1.step s2).step s3, ez, fun v H' k r => g v H' m3 (rel3.keeps k) tm3 (((s1.trans s2).trans s3).trans k.step) r⟩
end
end Tn
set_option Elab.async false
set_option linter.all false
set_option maxRecDepth 100000
set_option maxHeartbeats 4000000
namespace Tn
open PySem PySem.Spec PyProof.Rows L2
section
variable {X : Cx} {P : Par} {F : Nat → List D → M D} {W : Nat → Hp → Prop} {e a b c : Expr} {p pa pb pc : E} {pos : Pos} {rest : List Expr}
theorem ints_of : ∀ {ds : List D} {ns : List Int}, intsOf ds = some ns → ds = ns.map .int
  | [], ns, h => by
    have : ([] : List Int) = ns := by simpa [intsOf] using h
    subst this
    rfl
  | d :: ds, ns, h => by
    unfold intsOf at h
    rw [List.mapM_cons] at h
    obtain ⟨n, h1, h2⟩ := Option.bind_eq_some_iff.mp h
    obtain ⟨ms, h3, h4⟩ := Option.bind_eq_some_iff.mp h2
    have h5 : n :: ms = ns := by simpa using h4
    subst h5
    rw [intOf_some h1, ints_of (show intsOf ds = some ms from h3)]
    rfl
theorem bools_of : ∀ {ds : List D} {ns : List Bool}, boolsOf ds = some ns → ds = ns.map .bool
  | [], ns, h => by
    have : ([] : List Bool) = ns := by simpa [boolsOf] using h
    subst this
    rfl
  | d :: ds, ns, h => by
    unfold boolsOf at h
    rw [List.mapM_cons] at h
    obtain ⟨n, h1, h2⟩ := Option.bind_eq_some_iff.mp h
    obtain ⟨ms, h3, h4⟩ := Option.bind_eq_some_iff.mp h2
    have h5 : n :: ms = ns := by simpa using h4
    subst h5
    have : d = .bool n := by
      unfold boolOf at h1
      split at h1
      · cases h1; rfl
      · cases h1
    rw [this, bools_of (show boolsOf ds = some ms from h3)]
    rfl
theorem tups_of : ∀ {ds : List D} {ns : List (List Int)}, ds.mapM tupOf = some ns → ds = ns.map tup
  | [], ns, h => by
    have : ([] : List (List Int)) = ns := by simpa using h
    subst this
    rfl
  | d :: ds, ns, h => by
    rw [List.mapM_cons] at h
    obtain ⟨n, h1, h2⟩ := Option.bind_eq_some_iff.mp h
    obtain ⟨ms, h3, h4⟩ := Option.bind_eq_some_iff.mp h2
    have h5 : n :: ms = ns := by simpa using h4
    subst h5
    have : d = tup n := by
      unfold tupOf at h1
      split at h1
      · rw [ints_of h1]; rfl
      · cases h1
    rw [this, tups_of h3]
    rfl
def rBlt (P : Par) (b : Blt) : List V → Hp → VK → Prop := fun vs H Q => ∃ σ env objs m ds z, Rel P σ H env objs m ∧ AllR (RepT P σ env m H) vs ds ∧ bltD b ds = some z ∧ ∀ v H', Keeps H H' → Rep P m H' v z → Q v H'
theorem AllR.one {R : V → D → Prop} {vs : List V} {d : D} (h : AllR R vs [d]) : ∃ v, vs = [v] ∧ R v d := by
  cases h with
  | cons r t => cases t; exact ⟨_, rfl, r⟩
theorem AllR.two {R : V → D → Prop} {vs : List V} {d e : D} (h : AllR R vs [d, e]) : ∃ v w, vs = [v, w] ∧ R v d ∧ R w e := by
  cases h with
  | cons r t =>
    cases t with
    | cons r2 t2 => cases t2; exact ⟨_, _, rfl, r, r2⟩
/-- one argument: its items -/
theorem RepT.items {σ : L2.St} {env : Env} {objs : Objs} {m : Mp} {H : Hp} {v : V} {d : D} {ds : List D} (r : RepT P σ env m H v d) (rel : Rel P σ H env objs m) (h : itemsOf d = some ds) :
    ∃ (ad : Addr) (vs : List V), v = .ref ad ∧ RepAll P m H vs ds ∧ ((d = .list ds ∧ Rd H ad (.lst vs)) ∨ (d = .tuple ds ∧ H ad = some (.tup vs))) := by
  unfold itemsOf at h
  split at h
  · cases h
    obtain ⟨ad, vs, e, h1, t1⟩ := r.list rel
    exact ⟨ad, vs, e, t1, .inl ⟨rfl, h1⟩⟩
  · cases h
    obtain ⟨ad, vs, e, h1, t1⟩ := r.tuple
    exact ⟨ad, vs, e, t1, .inr ⟨rfl, h1⟩⟩
  · cases h
def rUn (P : Par) (f : D → Option D) : List V → Hp → VK → Prop := fun vs H Q => ∃ σ env objs m d v z, Rel P σ H env objs m ∧ vs = [v] ∧ RepT P σ env m H v d ∧ f d = some z ∧ ∀ v H', Keeps H H' → Rep P m H' v z → Q v H'
theorem CallR.un {f : Value} {b : Blt} {g : D → Option D} (hb : bltD b = un g) (h : CallR X f (rUn P g)) : CallR X f (rBlt P b) := by
  intro pins s σ' H vs us Q I r hh
  obtain ⟨σ, env, objs, m, ds, z, rel, ra, ez, q⟩ := hh
  rw [hb] at ez
  unfold Tn.un at ez
  split at ez
  · obtain ⟨v, e1, r1⟩ := ra.one
    exact h pins s σ' H vs us Q I r ⟨σ, env, objs, m, _, v, z, rel, e1, r1, ez, q⟩
  · cases ez
theorem RepT.scr {P : Par} {σ : L2.St} {env : Env} {m : Mp} {H : Hp} {v : V} {ds : List D} (h : RepT P σ env m H v (.dict [(.none, .list ds)])) : ∃ (a : Addr) (vs : List V), v = .ref a ∧ Scr P.K H a vs ∧ RepAll P m H vs ds := by
  have r := h.rep fun _ z => by cases z
  generalize hd : (PyData.dict [(.none, .list ds)] : D) = d at r
  cases r with
  | scr h9 t9 =>
    unfold scrD at hd
    injection hd with hd
    injection hd with hd _
    injection hd with _ hd
    injection hd with hd
    subst hd
    exact ⟨_, _, rfl, h9, t9⟩
  | obj h =>
    unfold Tn.obj at hd
    injection hd with hd
    injection hd with hd _
    injection hd with hd _
    cases hd
  | _ => cases hd
theorem c_len (fr : FrX X P) : CallR X (.builtin "len") (rBlt P .len) := Tn.CallR.un rfl <| by
  intro pins s σ' H vs us Q I r h
  obtain ⟨σ, env, objs, m, d, v, z, rel, rfl, r1, ez, q⟩ := h
  unfold lenD at ez
  split at ez
  · cases ez
    obtain ⟨ad, ws, rfl, h1, t1⟩ := r1.list rel
    exact call_len_seq pins s σ' H _ us Q I r ⟨ad, ws, rfl, .inl (.inl h1), q _ H (fun _ _ z => z) (by rw [t1.len]; exact .int _)⟩
  · cases ez
    obtain ⟨ad, ws, rfl, h1, t1⟩ := r1.tuple
    exact call_len_seq pins s σ' H _ us Q I r ⟨ad, ws, rfl, .inr ((.inl (.inl h1))), q _ H (fun _ _ z => z) (by rw [t1.len]; exact .int _)⟩
  · cases ez
    obtain ⟨ad, ws, rfl, h1, t1⟩ := r1.scr
    exact call_len_seq pins s σ' H _ us Q I r ⟨ad, ws, rfl, .inl (fr.K ▸ h1.sq), q _ H (fun _ _ z => z) (by rw [t1.len]; exact .int _)⟩
  · split at ez
    · rename_i hl
      cases ez
      cases r1.strI
      exact call_len_str pins s σ' H _ us Q I r ⟨_, rfl, bigLe hl, q _ H (fun _ _ z => z) (.int _)⟩
    · cases ez
  · cases ez
theorem c_sum (fr : FrX X P) : CallR X (.builtin "sum") (rBlt P .sum) := Tn.CallR.un rfl <| by
  intro pins s σ' H vs us Q I r h
  obtain ⟨σ, env, objs, m, d, v, z, rel, rfl, r1, ez, q⟩ := h
  obtain ⟨ds, e1, e2⟩ := Option.bind_eq_some_iff.mp ez
  obtain ⟨ns, e3, e4⟩ := Option.map_eq_some_iff.mp e2
  subst e4
  obtain ⟨ad, ws, rfl, t1, h1⟩ := r1.items rel e1
  rw [ints_of e3] at t1
  have ew := t1.ints
  subst ew
  rcases h1 with ⟨_, h1⟩ | ⟨_, h1⟩
  · exact cr_sum fr.calm pins s σ' H _ us Q I r ⟨ad, ns, rfl, .inl h1, q _ H (fun _ _ z => z) (.int _)⟩
  · exact cr_sumT fr.calm pins s σ' H _ us Q I r ⟨ad, ns, rfl, (.inl (.inl h1)), q _ H (fun _ _ z => z) (.int _)⟩
theorem c_max (fr : FrX X P) : CallR X (.builtin "max") (rBlt P .max) := Tn.CallR.un rfl <| by
  intro pins s σ' H vs us Q I r h
  obtain ⟨σ, env, objs, m, d, v, z, rel, rfl, r1, ez, q⟩ := h
  obtain ⟨ds, e1, e2⟩ := Option.bind_eq_some_iff.mp ez
  obtain ⟨ns, e3, e4⟩ := Option.bind_eq_some_iff.mp e2
  obtain ⟨i, e5, e6⟩ := Option.map_eq_some_iff.mp e4
  subst e6
  obtain ⟨ad, ws, rfl, t1, h1⟩ := r1.items rel e1
  rw [ints_of e3] at t1
  have ew := t1.ints
  subst ew
  exact cr_maxA fr.calm fr.hu pins s σ' H _ us Q I r ⟨ad, ns, i, rfl, h1.elim (fun z => .inr (.inl z.2)) (fun z => .inl ((.inl (.inl z.2)))), e5, q _ H (fun _ _ z => z) (.int _)⟩
theorem c_min (fr : FrX X P) : CallR X (.builtin "min") (rBlt P .min) := Tn.CallR.un rfl <| by
  intro pins s σ' H vs us Q I r h
  obtain ⟨σ, env, objs, m, d, v, z, rel, rfl, r1, ez, q⟩ := h
  obtain ⟨ds, e1, e2⟩ := Option.bind_eq_some_iff.mp ez
  obtain ⟨ns, e3, e4⟩ := Option.bind_eq_some_iff.mp e2
  obtain ⟨i, e5, e6⟩ := Option.map_eq_some_iff.mp e4
  subst e6
  obtain ⟨ad, ws, rfl, t1, h1⟩ := r1.items rel e1
  rw [ints_of e3] at t1
  have ew := t1.ints
  subst ew
  exact cr_minA fr.calm fr.hu pins s σ' H _ us Q I r ⟨ad, ns, i, rfl, h1.elim (fun z => .inr (.inl z.2)) (fun z => .inl ((.inl (.inl z.2)))), e5, q _ H (fun _ _ z => z) (.int _)⟩
theorem c_all (fr : FrX X P) : CallR X (.builtin "all") (rBlt P .all) := Tn.CallR.un rfl <| by
  intro pins s σ' H vs us Q I r h
  obtain ⟨σ, env, objs, m, d, v, z, rel, rfl, r1, ez, q⟩ := h
  unfold allD at ez
  split at ez
  · obtain ⟨bs, e3, e4⟩ := Option.map_eq_some_iff.mp ez
    subst e4
    obtain ⟨ad, ws, rfl, h1, t1⟩ := r1.list rel
    rw [bools_of e3] at t1
    have ew := t1.bools
    subst ew
    exact cr_all fr.calm pins s σ' H _ us Q I r ⟨ad, bs, rfl, .inl h1, q _ H (fun _ _ z => z) (.bl _)⟩
  · cases ez
theorem c_any (fr : FrX X P) : CallR X (.builtin "any") (rBlt P .any) := Tn.CallR.un rfl <| by
  intro pins s σ' H vs us Q I r h
  obtain ⟨σ, env, objs, m, d, v, z, rel, rfl, r1, ez, q⟩ := h
  unfold anyD at ez
  split at ez
  · obtain ⟨bs, e3, e4⟩ := Option.map_eq_some_iff.mp ez
    subst e4
    obtain ⟨ad, ws, rfl, h1, t1⟩ := r1.list rel
    rw [bools_of e3] at t1
    have ew := t1.bools
    subst ew
    exact cr_any fr.calm pins s σ' H _ us Q I r ⟨ad, bs, rfl, .inl h1, q _ H (fun _ _ z => z) (.bl _)⟩
  · cases ez
theorem c_tuple (fr : FrX X P) : CallR X (.type "tuple") (rBlt P .tuple) := Tn.CallR.un rfl <| by
  intro pins s σ' H vs us Q I r h
  obtain ⟨σ, env, objs, m, d, v, z, rel, rfl, r1, ez, q⟩ := h
  obtain ⟨ds, e1, e2⟩ := Option.map_eq_some_iff.mp ez
  subst e2
  obtain ⟨ad, ws, rfl, t1, h1⟩ := r1.items rel e1
  rcases h1 with ⟨_, h1⟩ | ⟨_, h1⟩
  · exact call_tuple_of pins s σ' H _ us Q I r ⟨ad, ws, rfl, .inl ⟨.inl h1, fun l hl => q _ _ (keeps_upd hl) (Rep.newT hl t1)⟩⟩
  · exact call_tuple_of pins s σ' H _ us Q I r ⟨ad, ws, rfl, .inr ⟨(.inl (.inl h1)), q _ H (fun _ _ z => z) (.tup h1 t1)⟩⟩
theorem c_list (fr : FrX X P) : CallR X (.type "list") (rBlt P .list) := Tn.CallR.un rfl <| by
  intro pins s σ' H vs us Q I r h
  obtain ⟨σ, env, objs, m, d, v, z, rel, rfl, r1, ez, q⟩ := h
  obtain ⟨ds, e1, e2⟩ := Option.map_eq_some_iff.mp ez
  subst e2
  obtain ⟨ad, ws, rfl, t1, h1⟩ := r1.items rel e1
  exact call_list_of pins s σ' H _ us Q I r ⟨ad, ws, rfl, h1.elim (fun z => .inl (.inl z.2)) (fun z => .inr ((.inl (.inl z.2)))), fun l hl => q _ _ (keeps_upd hl) (Rep.newL rel.toRelO hl t1)⟩
theorem c_sorted (fr : FrX X P) : CallR X (.builtin "sorted") (rBlt P .sorted) := Tn.CallR.un rfl <| by
  intro pins s σ' H vs us Q I r h
  obtain ⟨σ, env, objs, m, d, v, z, rel, rfl, r1, ez, q⟩ := h
  unfold sortedD at ez
  split at ez
  · obtain ⟨ad, ws, rfl, h1, t1⟩ := r1.list rel
    unfold sortD at ez
    split at ez
    · rename_i ns e1
      cases ez
      rw [ints_of e1] at t1
      exact cr_sortL (P := P) (m := m) (enc := PyData.int) (PySem.W.dataLe_int (β := Int) id) alike_I (fun b => rfl) (fun b => by simp [PyData.depth]) fr.K fr.hu pins s σ' H _ us Q I r
        ⟨ad, ws, ns, rfl, h1, t1, .inr fun dd hd => by obtain ⟨i, _, rfl⟩ := List.mem_map.mp hd; exact ⟨(fun z => by cases z), (fun _ z => by cases z)⟩, fun l zs hl rz => q _ _ (keeps_upd hl) (Rep.newL rel.toRelO hl rz)⟩
    · split at ez
      · rename_i ts e1
        split at ez
        · rename_i hne
          cases ez
          rw [tups_of e1] at t1
          exact cr_sortL (P := P) (m := m) (enc := tup) dataLe_tup alike_T (fun b => sh_tup b 1) (fun b => by rw [depth_tup]; omega) fr.K fr.hu pins s σ' H _ us Q I r
            ⟨ad, ws, ts, rfl, h1, t1, .inl fun dd hd => by
              obtain ⟨t, ht, rfl⟩ := List.mem_map.mp hd
              have := List.all_eq_true.mp hne t ht
              cases t with
              | nil => cases this
              | cons x r => exact ⟨_, _, rfl⟩, fun l zs hl rz => q _ _ (keeps_upd hl) (Rep.newL rel.toRelO hl rz)⟩
        · cases ez
      · cases ez
  · cases ez
theorem c_abs (fr : FrX X P) : CallR X (.builtin "abs") (rBlt P .abs) := Tn.CallR.un rfl <| by
  intro pins s σ' H vs us Q I r h
  obtain ⟨σ, env, objs, m, d, v, z, rel, rfl, r1, ez, q⟩ := h
  unfold absD at ez
  split at ez
  · cases ez
    cases r1.intI
    exact call_abs pins s σ' H _ us Q I r ⟨_, rfl, q _ H (fun _ _ z => z) (.int _)⟩
  · cases ez
theorem c_int (fr : FrX X P) : CallR X (.type "int") (rBlt P .int) := Tn.CallR.un rfl <| by
  intro pins s σ' H vs us Q I r h
  obtain ⟨σ, env, objs, m, d, v, z, rel, rfl, r1, ez, q⟩ := h
  unfold intD at ez
  split at ez
  · cases ez
    cases r1.intI
    exact call_int1 pins s σ' H _ us Q I r (.inl ⟨_, rfl, q _ H (fun _ _ z => z) (.int _)⟩)
  · cases ez
    cases r1.boolI
    exact call_int1 pins s σ' H _ us Q I r (.inr ⟨_, rfl, q _ H (fun _ _ z => z) (.int _)⟩)
  · cases ez
theorem c_min2 (fr : FrX X P) : CallR X (.builtin "min") (rBlt P .min2) := by
  intro pins s σ' H vs us Q I r h
  obtain ⟨σ, env, objs, m, ds, z, rel, ra, ez, q⟩ := h
  replace ez : two (ints2 fun i j => some (if j < i then j else i)) ds = some z := ez
  unfold two at ez
  split at ez
  · obtain ⟨v, w, rfl, r1, r2⟩ := ra.two
    obtain ⟨i, j, k, rfl, rfl, h1, rfl⟩ := ints2_some ez
    cases h1
    cases r1.intI
    cases r2.intI
    exact call_min2 fr.calm pins s σ' H _ us Q I r ⟨i, j, rfl, q _ H (fun _ _ z => z) (.int _)⟩
  · cases ez
theorem c_max2 (fr : FrX X P) : CallR X (.builtin "max") (rBlt P .max2) := by
  intro pins s σ' H vs us Q I r h
  obtain ⟨σ, env, objs, m, ds, z, rel, ra, ez, q⟩ := h
  replace ez : two (ints2 fun i j => some (if j > i then j else i)) ds = some z := ez
  unfold two at ez
  split at ez
  · obtain ⟨v, w, rfl, r1, r2⟩ := ra.two
    obtain ⟨i, j, k, rfl, rfl, h1, rfl⟩ := ints2_some ez
    cases h1
    cases r1.intI
    cases r2.intI
    exact call_max2 fr.calm pins s σ' H _ us Q I r ⟨i, j, rfl, q _ H (fun _ _ z => z) (.int _)⟩
  · cases ez
/-- which built-in a name is, by how many arguments -/
inductive BV where
  | fn (s : String)
  | ty (s : String)
def bltOf (x : Str) (n : Nat) : Option Blt :=
  if n = 1 then
    if x = "len" then some .len else if x = "sum" then some .sum else if x = "max" then some .max else if x = "min" then some .min else if x = "all" then some .all else if x = "any" then some .any
    else if x = "tuple" then some .tuple else if x = "list" then some .list else if x = "sorted" then some .sorted else if x = "abs" then some .abs else if x = "int" then some .int else none
  else if n = 2 then if x = "max" then some .max2 else if x = "min" then some .min2 else none
  else none
theorem s_blt (fr : FrX X P) {x : Str} {np : Pos} {b : Blt} {e : Expr} {es : List Expr} {ps : Es} (h : bltOf x (e :: es).length = some b) (hg : Gl X x) (hm : X.mg x = none) (ok : (e :: es).all okE = true)
    (ha : PA X (e :: es) (rdA P F W (RepT P) ps)) : PE X (.Call (.Name x np) (e :: es) [] pos) (rd P F W (.blt b ps)) := by
  obtain ⟨ok1, ok2⟩ := Bool.and_eq_true_iff.mp (show (okE e && es.all okE) = true from ok)
  have fin : ∀ {t : TE}, (∀ σ H Q, t σ H Q ↔ tCB (rBlt P b) (rdA P F W (RepT P) ps) σ H Q) → PE X (.Call (.Name x np) (e :: es) [] pos) t → PE X (.Call (.Name x np) (e :: es) [] pos) (rd P F W (.blt b ps)) := fun {t} ht hp => by
    refine peC hp fun σ H Q ⟨env, objs, m, rel, tm, h⟩ => (ht σ H Q).mpr ?_
    refine rdA_seq rel tm h fun xs H1 m1 ds objs1 rel1 tm1 s1 r1 h1 => ?_
    obtain ⟨z, ez, g⟩ := Post.lift h1
    exact ⟨σ, env, objs1, m1, ds, z, rel1, r1, ez, fun v H' k r => g v H' m1 (rel1.keeps k) tm1 (s1.trans k.step) r⟩
  have goB : ∀ {id : String}, CallR X (.builtin id) (rBlt P b) → bootBuiltins x = some (.builtin id) → (x ≠ "__name__") → ((x == ("__debug__" : Str)) = false) → PE X (.Call (.Name x np) (e :: es) [] pos) (rd P F W (.blt b ps)) := fun hc hv h1 h2 =>
    fin (fun _ _ _ => Iff.rfl) (pe_callB hc hg hm hv ha h1 h2 (star_cons ok1) (back_star ok2))
  have goT : ∀ {id : String}, CallR X (.type id) (rBlt P b) → bootBuiltins x = some (.type id) → (x ≠ "__name__") → ((x == ("__debug__" : Str)) = false) → PE X (.Call (.Name x np) (e :: es) [] pos) (rd P F W (.blt b ps)) := fun hc hv h1 h2 =>
    fin (fun _ _ _ => Iff.rfl) (pe_callTy hc hg hm hv ha h1 h2 (star_cons ok1) (back_star ok2))
  unfold bltOf at h
  split at h
  · split at h
    · rename_i q; subst q; cases h; exact goB (c_len fr) (by decide +kernel) (by decide) (by decide)
    split at h
    · rename_i q; subst q; cases h; exact goB (c_sum fr) (by decide +kernel) (by decide) (by decide)
    split at h
    · rename_i q; subst q; cases h; exact goB (c_max fr) (by decide +kernel) (by decide) (by decide)
    split at h
    · rename_i q; subst q; cases h; exact goB (c_min fr) (by decide +kernel) (by decide) (by decide)
    split at h
    · rename_i q; subst q; cases h; exact goB (c_all fr) (by decide +kernel) (by decide) (by decide)
    split at h
    · rename_i q; subst q; cases h; exact goB (c_any fr) (by decide +kernel) (by decide) (by decide)
    split at h
    · rename_i q; subst q; cases h; exact goT (c_tuple fr) (by decide +kernel) (by decide) (by decide)
    split at h
    · rename_i q; subst q; cases h; exact goT (c_list fr) (by decide +kernel) (by decide) (by decide)
    split at h
    · rename_i q; subst q; cases h; exact goB (c_sorted fr) (by decide +kernel) (by decide) (by decide)
    split at h
    · rename_i q; subst q; cases h; exact goB (c_abs fr) (by decide +kernel) (by decide) (by decide)
    split at h
    · rename_i q; subst q; cases h; exact goT (c_int fr) (by decide +kernel) (by decide) (by decide)
    · cases h
  · split at h
    · split at h
      · rename_i q; subst q; cases h; exact goB (c_max2 fr) (by decide +kernel) (by decide) (by decide)
      split at h
      · rename_i q; subst q; cases h; exact goB (c_min2 fr) (by decide +kernel) (by decide) (by decide)
      · cases h
    · cases h
end
end Tn
set_option Elab.async false
set_option linter.all false
set_option maxRecDepth 100000
set_option maxHeartbeats 4000000
namespace Tn
open PySem PySem.Spec PyProof.Rows L2
section
variable {X : Cx} {P : Par} {F : Nat → List D → M D} {W : Nat → Hp → Prop} {e a b c : Expr} {p pa pb pc : E} {pos : Pos} {rest : List Expr}
/-- list(x): new -/
theorem f_list (fr : FrX X P) {x : Str} {np : Pos} {e : Expr} (hx : x = "list") (hg : Gl X x) (hm : X.mg x = none) (ok : okE e = true) (ha : PE X e (rdO P F W p)) : PE X (.Call (.Name x np) [e] [] pos) (rdF P F W (.blt .list (.cons p .nil))) := by
  subst hx
  have cr : CallR X (.type "list") (fun vs H Q => ∃ σ env objs m d ds v, Rel P σ H env objs m ∧ vs = [v] ∧ RepT P σ env m H v d ∧ itemsOf d = some ds ∧ ∀ q ws, H q = none → RepAll P m H ws ds → Q (.ref q) (upd H q (.lst ws))) := by
    intro pins s σ' H vs us Q I r h
    obtain ⟨σ, env, objs, m, d, ds, v, rel, rfl, r1, e1, q⟩ := h
    obtain ⟨ad, ws, rfl, t1, h1⟩ := r1.items rel e1
    exact call_list_of pins s σ' H _ us Q I r ⟨ad, ws, rfl, h1.elim (fun z => .inl (.inl z.2)) (fun z => .inr ((.inl (.inl z.2)))), fun l hl => q l ws hl t1⟩
  refine peC (pe_callTy cr hg hm (by decide +kernel) (pa_cons ha pa_nil (star_cons ok)) (by decide) (by decide) (star_cons ok) rfl) fun σ H Q ⟨env, objs, m, rel, tm, h⟩ => ?_
  have h' : Post P W σ env m H (M.bind (ev F p env) (fun d => M.lift ((itemsOf d).map PyData.list)) objs) (fun d objs' => ∃ ds, d = .list ds ∧ ∀ a ws H' m', Rel P σ H' env objs' m' → m' .tmp = some a → Step m H m' H' → H' a = some (.lst ws) → RepAll P m' H' ws ds → Q (.ref a) H') := by
    have e0 : ev F (.blt .list (.cons p .nil)) env = M.bind (ev F p env) (fun d => M.lift ((itemsOf d).map PyData.list)) := by
      show M.bind (M.bind (ev F p env) fun x => M.bind (M.pure []) fun xs => M.pure (x :: xs)) (fun ds => M.lift (bltD .list ds)) = _
      rw [M.bind_assoc]
      rfl
    rw [e0] at h
    exact h
  refine rd_seq rel tm h' fun x H1 m1 d objs1 rel1 tm1 s1 r1 h1 => ?_
  obtain ⟨z, ez, g⟩ := Post.lift h1
  obtain ⟨ds, e1, e2⟩ := Option.map_eq_some_iff.mp ez
  subst e2
  exact ⟨σ, env, objs1, m1, d, ds, x, rel1, rfl, r1, e1, fun q ws hq ra => fresh_done rel1 tm1 s1 g hq ra⟩
/-! ### isinstance -/
def tyName : Ty → String
  | .int => "int"
  | .bool => "bool"
  | .str => "str"
  | .tuple => "tuple"
  | .list => "list"
def tyOf (x : Str) : Option Ty := if x = "int" then some .int else if x = "bool" then some .bool else if x = "str" then some .str else if x = "tuple" then some .tuple else if x = "list" then some .list else none
theorem rd_list_ty {K : PySem.W.Frag} {H : Hp} {a : Addr} {vs : List V} (h : Rd H a (.lst vs)) : TyX K H (.ref a) (.type "list") := by
  rcases h with h | ⟨o, h⟩
  · exact .base (.lst h)
  · exact .base (.frz h)
theorem sqT_ty {K : PySem.W.Frag} {H : Hp} {a : Addr} {vs : List V} (h : SqT K H a vs) : TyX K H (.ref a) (.type "tuple") := by
  rcases h with (h | ⟨o, h⟩) | ⟨o, its, n, h1, h2, _⟩
  · exact .base (.tup h)
  · exact .fTuple h
  · exact .kTuple h1 h2
theorem c_isi (fr : FrX X P) (t : Ty) : CallR X (.builtin "isinstance") (fun vs H Q => ∃ m d v z, vs = [v, .ty (tyName t)] ∧ Rep P m H v d ∧ isiD t d = some z ∧ Q (.bl z) H) := by
  intro pins s σ' H vs us Q I r h
  obtain ⟨m, d, v, z, rfl, r1, ez, q⟩ := h
  have go : ∀ {T : String} {b : Bool}, TyX X.K H v (.type T) → PySem.W.kitOne X.K (.type T) (.type (tyName t)) = some b → b = z → wpAny (model X.prog X.w) X.A (call (.builtin "isinstance") us) (EP X pins σ' Q) X.xe s := fun {T b} h1 h2 h3 =>
    call_isi pins s σ' H _ us Q I r ⟨v, .ty (tyName t), .type T, .type (tyName t), b, rfl, .ty _, h1, h2, h3 ▸ q⟩
  cases r1 with
  | non => cases t <;> (cases ez; exact go (.base .non) (kit_ty (by decide +kernel)) rfl)
  | bl b => cases t <;> (cases ez; exact go (.base (.bl b)) (kit_ty (by decide +kernel)) rfl)
  | int i => cases t <;> (cases ez; exact go (.base (.int i)) (kit_ty (by decide +kernel)) rfl)
  | str x => cases t <;> (cases ez; exact go (.base (.str x)) (kit_ty (by decide +kernel)) rfl)
  | lst h1 _ => cases t <;> (cases ez; exact go (rd_list_ty h1.1) (kit_ty (by decide +kernel)) rfl)
  | tup h1 _ => cases t <;> (cases ez; exact go (sqT_ty (.inl (.inl h1))) (kit_ty (by decide +kernel)) rfl)
  | obj _ => cases t <;> cases ez
  | scr _ _ => cases t <;> cases ez
theorem s_isi (fr : FrX X P) {np tp : Pos} {x : Str} {t : Ty} {e : Expr} (ht : tyOf x = some t) (hg : Gl X "isinstance") (hm : X.mg "isinstance" = none) (hg2 : Gl X x) (hm2 : X.mg x = none) (ok : okE e = true) (ha : PE X e (rd P F W p)) :
    PE X (.Call (.Name "isinstance" np) [e, .Name x tp] [] pos) (rd P F W (.isi t p)) := by
  have ex : PE X (.Name x tp) (tC (.ty (tyName t))) := by
    unfold tyOf at ht
    split at ht
    · rename_i q; subst q; cases ht; exact pe_bltn hg2 hm2 (by decide +kernel) rfl (by decide) (by decide)
    split at ht
    · rename_i q; subst q; cases ht; exact pe_bltn hg2 hm2 (by decide +kernel) rfl (by decide) (by decide)
    split at ht
    · rename_i q; subst q; cases ht; exact pe_bltn hg2 hm2 (by decide +kernel) rfl (by decide) (by decide)
    split at ht
    · rename_i q; subst q; cases ht; exact pe_bltn hg2 hm2 (by decide +kernel) rfl (by decide) (by decide)
    split at ht
    · rename_i q; subst q; cases ht; exact pe_bltn hg2 hm2 (by decide +kernel) rfl (by decide) (by decide)
    · cases ht
  refine peC (pe_callB (c_isi fr t) hg hm (by decide +kernel) (pa_cons ha (pa_cons ex pa_nil (star_cons rfl)) (star_cons ok)) (by decide) (by decide) (star_cons ok) (by rw [back_any]; rfl)) fun σ H Q ⟨env, objs, m, rel, tm, h⟩ => ?_
  refine rd_seq rel tm h fun x H1 m1 d objs1 rel1 tm1 s1 r1 h1 => ?_
  obtain ⟨z, ez, g⟩ := Post.liftB h1
  exact ⟨m1, d, x, z, rfl, r1, ez, g _ H1 m1 rel1 tm1 s1 (.bl _)⟩
end
/-! ### a call of a def of one's own -/
/-- how an exception of number c looks -/
structure Exs where
  cls : Nat → Value
def spD (K : PySem.W.Frag) (kinds : List (List Str)) (ex : Nat → Value) (f : List D → M D) : Sp := fun vs H Q E => ∃ (O : Addr → Prop) (objs : Objs) (m : Mp) (ds : List D), RelO ⟨K, O, kinds⟩ H objs m ∧ (∀ i, m (.sl i) = none) ∧ m .tmp = none ∧ RepAll ⟨K, O, kinds⟩ m H vs ds ∧
  match f ds objs with
  | none => False
  | some (.ok d objs') => ∀ v H' m', RelO ⟨K, O, kinds⟩ H' objs' m' → (∀ i, m' (.sl i) = none) → m' .tmp = none → Step m H m' H' → Rep ⟨K, O, kinds⟩ m' H' v d → Q v H'
  | some (.ex c objs') => ∀ H' m' dx, RelO ⟨K, O, kinds⟩ H' objs' m' → (∀ i, m' (.sl i) = none) → m' .tmp = none → Step m H m' H' → E (ex c) dx H'
/-- the owners that a callee sees -/
def mob (m : Mp) : Mp := fun k => match k with
  | .ob _ => m k
  | .fl _ _ => m k
  | _ => none
/-- behind the call -/
def mback (m m' : Mp) : Mp := fun k => match k with
  | .ob _ => m' k
  | .fl _ _ => m' k
  | _ => m k
section
variable {P : Par} {σ : L2.St} {H H' : Hp} {env : Env} {objs objs' : Objs} {m m' : Mp}
def Pin (P : Par) (m : Mp) : Par := ⟨P.K, fun a => P.O a ∨ ∃ i, m (.sl i) = some a, P.kinds⟩
theorem mob_src {k : Ky} {a : Addr} (h : mob m k = some a) : m k = some a ∧ ∀ i, k ≠ .sl i := by
  cases k with
  | sl i => cases h
  | ob n => exact ⟨h, fun i z => by cases z⟩
  | fl n j => exact ⟨h, fun i z => by cases z⟩
  | tmp => cases h
theorem av_in (tm : m .tmp = none) {a : Addr} : AV (Pin P m) (mob m) a ↔ AV P m a := by
  constructor
  · rintro ((h | ⟨i, h⟩) | ⟨k, h⟩)
    · exact .inl h
    · exact .inr ⟨_, h⟩
    · exact .inr ⟨k, (mob_src h).1⟩
  · rintro (h | ⟨k, h⟩)
    · exact .inl (.inl h)
    · cases k with
      | sl i => exact .inl (.inr ⟨i, h⟩)
      | ob n => exact .inr ⟨.ob n, h⟩
      | fl n j => exact .inr ⟨.fl n j, h⟩
      | tmp => rw [tm] at h; cases h
theorem Rep.inn (tm : m .tmp = none) {v : V} {d : D} (r : Rep P m H v d) : Rep (Pin P m) (mob m) H v d := Rep.less (P := P) (m := m) (P' := Pin P m) (m' := mob m) rfl (fun _ h => (av_in tm).mp h) (fun _ _ h => h) r
theorem RepAll.inn (tm : m .tmp = none) {v : List V} {d : List D} (r : RepAll P m H v d) : RepAll (Pin P m) (mob m) H v d := RepAll.less (P := P) (m := m) (P' := Pin P m) (m' := mob m) rfl (fun _ h => (av_in tm).mp h) (fun _ _ h => h) r
theorem RelO.inn (R : RelO P H objs m) (tm : m .tmp = none) : RelO (Pin P m) H objs (mob m) := by
  refine ⟨fun k k' a e e' => R.inj k k' a (mob_src e).1 (mob_src e').1, fun k a e => ?_, fun k a e => R.alive k a (mob_src e).1, fun a e => ?_, fun n s e => ?_, fun n e => R.obn n e⟩
  · obtain ⟨e1, e2⟩ := mob_src e
    rintro (z | ⟨i, z⟩)
    · exact R.dis k a e1 z
    · exact e2 i (R.inj _ _ _ e1 z)
  · rcases e with e | ⟨i, e⟩
    · exact R.oal a e
    · obtain ⟨o, h, _⟩ := R.alive _ a e
      exact ⟨o, h⟩
  · obtain ⟨a, ks, vs, h1, h2, h3, h4, h5, h6⟩ := R.obs n s e
    refine ⟨a, ks, vs, h1, h2, h3, h4, h5, fun j c hc => ?_⟩
    have h7 := h6 j c hc
    cases c with
    | v d => obtain ⟨v, e1, r⟩ := h7; exact ⟨v, e1, r.inn tm⟩
    | own xs => obtain ⟨b, ws, e1, e2, e3, r⟩ := h7; exact ⟨b, ws, e1, e2, e3, r.inn tm⟩
    | dic kvs => exact h7
/-- behind a call -/
theorem call_back (R : Rel P σ H env objs m) (tm : m .tmp = none) (R' : RelO (Pin P m) H' objs' m') (hs : ∀ i, m' (.sl i) = none) (ht : m' .tmp = none) (s : Step (mob m) H m' H') :
    Rel P σ H' env objs' (mback m m') ∧ mback m m' .tmp = none ∧ Step m H (mback m m') H' ∧ (∀ v d, Rep (Pin P m) m' H' v d → Rep P (mback m m') H' v d) := by
  have src : ∀ k a, mback m m' k = some a → (m' k = some a ∧ ∀ i, k ≠ .sl i) ∨ ∃ i, k = .sl i ∧ m k = some a := fun k a e => by
    cases k with
    | sl i => exact .inr ⟨i, rfl, e⟩
    | ob n => exact .inl ⟨e, fun i z => by cases z⟩
    | fl n j => exact .inl ⟨e, fun i z => by cases z⟩
    | tmp =>
      have e : m .tmp = some a := e
      rw [tm] at e; cases e
  have bk : ∀ k a, m' k = some a → mback m m' k = some a := fun k a e => by
    cases k with
    | sl i => rw [hs] at e; cases e
    | ob n => exact e
    | fl n j => exact e
    | tmp => rw [ht] at e; cases e
  have own : ∀ i a o, m (.sl i) = some a → H a = some o → H' a = some o := fun i a o e h => s.keep a o h fun k e' => by
    obtain ⟨e1, e2⟩ := mob_src e'
    exact e2 i (R.inj _ _ _ e1 e)
  have st : Step m H (mback m m') H' := by
    refine ⟨fun a o h n => s.keep a o h fun k e => n k (mob_src e).1, fun a o h n => s.fix a o h n, fun k a e => ?_, fun k a e => bk _ _ (s.ob k a e)⟩
    rcases src k a e with ⟨e1, _⟩ | ⟨i, rfl, e1⟩
    · rcases s.new k a e1 with ⟨k', e2⟩ | e2
      · exact .inl ⟨k', (mob_src e2).1⟩
      · exact .inr e2
    · exact .inl ⟨_, e1⟩
  have av : ∀ a, AV P (mback m m') a → AV (Pin P m) m' a := by
    rintro a (h | ⟨k, h⟩)
    · exact .inl (.inl h)
    · rcases src k a h with ⟨e1, _⟩ | ⟨i, rfl, e1⟩
      · exact .inr ⟨k, e1⟩
      · exact .inl (.inr ⟨i, e1⟩)
  have rep : ∀ v d, Rep (Pin P m) m' H' v d → Rep P (mback m m') H' v d := fun v d r => Rep.less (P := Pin P m) (m := m') (P' := P) (m' := mback m m') rfl av (fun k a e => bk _ _ e) r
  have repA : ∀ vs ds, RepAll (Pin P m) m' H' vs ds → RepAll P (mback m m') H' vs ds := fun vs ds r => RepAll.less (P := Pin P m) (m := m') (P' := P) (m' := mback m m') rfl av (fun k a e => bk _ _ e) r
  refine ⟨⟨⟨fun k k' a e e' => ?_, fun k a e => ?_, fun k a e => ?_, fun a e => ?_, fun n s' e => ?_, fun n e => ?_⟩, R.len, fun i c e => ?_⟩, tm, st, rep⟩
  · rcases src k a e with ⟨e1, _⟩ | ⟨i, rfl, e1⟩
    · rcases src k' a e' with ⟨e2, _⟩ | ⟨i', rfl, e2⟩
      · exact R'.inj _ _ _ e1 e2
      · exact absurd (.inr ⟨i', e2⟩) (R'.dis k a e1)
    · rcases src k' a e' with ⟨e2, _⟩ | ⟨i', rfl, e2⟩
      · exact absurd (.inr ⟨i, e1⟩) (R'.dis k' a e2)
      · exact R.inj _ _ _ e1 e2
  · rcases src k a e with ⟨e1, _⟩ | ⟨i, rfl, e1⟩
    · exact fun z => R'.dis k a e1 (.inl z)
    · exact R.dis _ a e1
  · rcases src k a e with ⟨e1, _⟩ | ⟨i, rfl, e1⟩
    · exact R'.alive k a e1
    · obtain ⟨o, h1, h2⟩ := R.alive _ a e1
      exact ⟨o, own i a o e1 h1, h2⟩
  · exact R'.oal a (.inl e)
  · obtain ⟨a, ks, vs, h1, h2, h3, h4, h5, h6⟩ := R'.obs n s' e
    refine ⟨a, ks, vs, bk _ _ h1, h2, h3, h4, h5, fun j c hc => ?_⟩
    have h7 := h6 j c hc
    cases c with
    | v d => obtain ⟨v, e1, r⟩ := h7; exact ⟨v, e1, rep _ _ r⟩
    | own xs => obtain ⟨b, ws, e1, e2, e3, r⟩ := h7; exact ⟨b, ws, bk _ _ e1, e2, e3, repA _ _ r⟩
    | dic kvs => exact h7
  · exact R'.obn n e
  · have h7 := R.slot i c e
    cases c with
    | v d => obtain ⟨v, e1, r⟩ := h7; exact ⟨v, e1, r.step st⟩
    | own xs => obtain ⟨b, ws, e1, e2, e3, r⟩ := h7; exact ⟨b, ws, e1, e2, own i b _ e1 e3, r.step st⟩
    | dic kvs => obtain ⟨b, ws, e1, e2, e3, e4, r⟩ := h7; exact ⟨b, ws, e1, e2, own i b _ e1 e3, e4, r.step st⟩
end
section
variable {X : Cx} {P : Par} {F : Nat → List D → M D} {W : Nat → Hp → Prop} {pos : Pos}
/-- what is wanted of exceptions -/
def EW (ex : Nat → Value) (W : Nat → Hp → Prop) : XK := fun cls _ H' => ∃ c, cls = ex c ∧ W c H'
theorem sp_of {ex : Nat → Value} {i : Nat} {σ : L2.St} {H : Hp} {env : Env} {objs : Objs} {m : Mp} {ds : List D} {vs : List V} {G : D → Objs → Prop} {Q : VK} (rel : Rel P σ H env objs m) (tm : m .tmp = none) (ra : RepAll P m H vs ds)
    (h : Post P W σ env m H (F i ds objs) G) (k : ∀ v H' m' d objs', Rel P σ H' env objs' m' → m' .tmp = none → Step m H m' H' → Rep P m' H' v d → G d objs' → Q v H') :
    spD P.K P.kinds ex (F i) vs H Q (EW ex W) := by
  refine ⟨(Pin P m).O, objs, mob m, ds, rel.toRelO.inn tm, fun _ => rfl, rfl, ra.inn tm, ?_⟩
  unfold Post at h
  cases e : F i ds objs with
  | none => rw [e] at h; exact h
  | some r =>
    rw [e] at h
    cases r with
    | ok d o =>
      intro v H' m' R' hs ht s r
      obtain ⟨a1, a2, a3, a4⟩ := call_back rel tm R' hs ht s
      exact k v H' _ d o a1 a2 a3 (a4 _ _ r) h
    | ex c o =>
      intro H' m' dx R' hs ht s
      obtain ⟨a1, a2, a3, a4⟩ := call_back rel tm R' hs ht s
      exact ⟨c, rfl, h H' _ a1 a3⟩
theorem s_call (fr : FrX X P) {ex : Nat → Value} {CX : CXT} {k i : Nat} {f : Addr} {fd : FuncData} {ns : List Str} {x : Str} {np : Pos} {e : Expr} {es : List Expr} {ps : Es}
    (FO : FnOk X.prog X.w X.K X.mg X.base CX k f fd ns (spD P.K P.kinds ex (F i))) (hr : Room k X.A) (hg : Gl X x) (hm : X.mg x = some (.ref f)) (hk : PySem.W.keepIn X.K (.ref f) = true) (hb : Binds X.K fd ns []) (hx : Passes CX X (EW ex W))
    (hd : (x == ("__debug__" : Str)) = false) (ok : (e :: es).all okE = true) (ha : PA X (e :: es) (rdA P F W (RV P) ps)) : PE X (.Call (.Name x np) (e :: es) [] pos) (rd P F W (.call i ps)) := by
  obtain ⟨ok1, ok2⟩ := Bool.and_eq_true_iff.mp (show (okE e && es.all okE) = true from ok)
  refine peC (pe_call FO hr hg hm hk hb .nil hx ha hd (star_cons ok1) (back_star ok2)) fun σ H Q ⟨env, objs, m, rel, tm, h⟩ => ?_
  refine rdA_seq rel tm h fun xs H1 m1 ds objs1 rel1 tm1 s1 r1 h1 => ?_
  show spD P.K P.kinds ex (F i) (xs ++ []) H1 Q (EW ex W)
  rw [List.append_nil]
  exact sp_of rel1 tm1 r1.all h1 fun v H' m' d o rel' tm' s' rr g => g v H' m' rel' tm' (s1.trans s') rr
end
end Tn
set_option Elab.async false
set_option linter.all false
set_option maxRecDepth 100000
set_option maxHeartbeats 4000000
namespace Tn
open PySem PySem.Spec PyProof.Rows L2
section
variable {P : Par} {m m' : Mp} {H H' : Hp} {σ : L2.St} {env : Env} {objs : Objs}
/-- an object of one's own is written -/
theorem step_upd {q : Ky} {b : Addr} {o o' : HO} (e : m q = some b) (h : H b = some o) (mu : Mu o) : Step m H m (upd H b o') := by
  refine ⟨fun a x h1 n => ?_, fun a x h1 n => ?_, fun k a z => .inl ⟨k, z⟩, fun _ _ z => z⟩
  · rw [upd_ne (fun z : a = b => n q (z ▸ e))]
    exact h1
  · have : a ≠ b := fun z => by
      subst z
      rw [h] at h1
      cases h1
      exact n mu
    rw [upd_ne this]
    exact h1
theorem relO_upd (R : RelO P H objs m) {q : Ky} {b : Addr} {o o' : HO} (e : m q = some b) (h : H b = some o) (mu : Mu o) (mu' : Mu o') {objs' : Objs} (hlen : objs'.length = objs.length)
    (ho : ∀ k s, objs'[k]? = some s → (objs[k]? = some s ∧ q ≠ .ob k ∧ (∀ j, q ≠ .fl k j)) ∨ ObjR P m (upd H b o') k s) : RelO P (upd H b o') objs' m := by
  have st := step_upd (o' := o') e h mu
  have other : ∀ q' a x, m q' = some a → q' ≠ q → H a = some x → upd H b o' a = some x := fun q' a x e' n hx => by
    rw [upd_ne (fun z : a = b => n (R.inj _ _ _ e' (z ▸ e)))]
    exact hx
  refine ⟨R.inj, R.dis, fun k a z => ?_, fun a z => ?_, fun k s z => ?_, fun k z => R.obn k (hlen ▸ z)⟩
  · by_cases hk : a = b
    · subst hk
      exact ⟨o', upd_same, mu'⟩
    · rw [upd_ne hk]
      exact R.alive k a z
  · rw [upd_ne (fun w : a = b => R.dis q b e (w ▸ z))]
    exact R.oal a z
  · rcases ho k s z with ⟨h1, h2, h3⟩ | h1
    · obtain ⟨a, ks, vs, e1, e2, e3, e4, e5, e6⟩ := R.obs k s h1
      refine ⟨a, ks, vs, e1, e2, e3, e4, other _ _ _ e1 (fun w => h2 w.symm) e5, fun j c hc => ?_⟩
      have h7 := e6 j c hc
      cases c with
      | v d => obtain ⟨v, f1, r⟩ := h7; exact ⟨v, f1, r.step st⟩
      | own xs => obtain ⟨b', ws, f1, f2, f3, r⟩ := h7; exact ⟨b', ws, f1, f2, other _ _ _ f1 (fun w => h3 j w.symm) f3, r.step st⟩
      | dic kvs => exact h7
    · exact h1
theorem slotR_upd (R : RelO P H objs m) {q : Ky} {b : Addr} {o o' : HO} (e : m q = some b) (h : H b = some o) (mu : Mu o) {i : Nat} {c : Cell} (hi : q ≠ .sl i) (s : SlotR P m H σ i c) : SlotR P m (upd H b o') σ i c := by
  have st := step_upd (o' := o') e h mu
  have other : ∀ q' a x, m q' = some a → q' ≠ q → H a = some x → upd H b o' a = some x := fun q' a x e' n hx => by
    rw [upd_ne (fun z : a = b => n (R.inj _ _ _ e' (z ▸ e)))]
    exact hx
  cases c with
  | v d => obtain ⟨v, f1, r⟩ := s; exact ⟨v, f1, r.step st⟩
  | own xs => obtain ⟨b', ws, f1, f2, f3, r⟩ := s; exact ⟨b', ws, f1, f2, other _ _ _ f1 (fun w => hi w.symm) f3, r.step st⟩
  | dic kvs => obtain ⟨b', ws, f1, f2, f3, f4, r⟩ := s; exact ⟨b', ws, f1, f2, other _ _ _ f1 (fun w => hi w.symm) f3, f4, r.step st⟩
theorem zip_look : ∀ {ks : List Str} {vs : List V} {j : Nat} {x : Str} {v : V}, ks.Nodup → ks[j]? = some x → vs[j]? = some v → valV (zipK ks vs) (Sum.inr x) = some v
  | [], _, _, _, _, _, h, _ => by simp at h
  | _ :: _, [], _, _, _, _, _, h => by simp at h
  | k :: ks, w :: vs, 0, x, v, nd, h1, h2 => by
    simp at h1 h2
    subst h1 h2
    simp [zipK, valV]
  | k :: ks, w :: vs, j + 1, x, v, nd, h1, h2 => by
    have ih := zip_look (ks := ks) (vs := vs) (j := j) (List.nodup_cons.mp nd).2 (by simpa using h1) (by simpa using h2)
    have hne : k ≠ x := fun z => (List.nodup_cons.mp nd).1 (z ▸ List.mem_of_getElem? (by simpa using h1))
    unfold valV zipK at *
    rw [List.zipWith_cons_cons, List.find?_cons]
    have : decide ((Sum.inr k : Key) = Sum.inr x) = false := decide_eq_false fun z => hne (Sum.inr.inj z)
    rw [this]
    exact ih
theorem zip_mem : ∀ {ks : List Str} {vs : List V} {j : Nat} {x : Str}, ks.length = vs.length → ks[j]? = some x → (zipK ks vs).any (fun kv => decide (kv.1 = Sum.inr x)) = true
  | [], _, _, _, _, h => by simp at h
  | _ :: _, [], _, _, h, _ => by simp at h
  | k :: ks, w :: vs, 0, x, _, h => by
    simp at h
    subst h
    simp [zipK]
  | k :: ks, w :: vs, j + 1, x, hl, h => by
    have ih := zip_mem (ks := ks) (vs := vs) (j := j) (x := x) (by simpa using hl) (by simpa using h)
    unfold zipK at *
    rw [List.zipWith_cons_cons, List.any_cons, ih, Bool.or_true]
theorem zip_put : ∀ {ks : List Str} {vs : List V} {j : Nat} {x : Str} (v : V), ks.Nodup → ks[j]? = some x →
    (zipK ks vs).map (fun kv => if kv.1 = Sum.inr x then (kv.1, v) else kv) = zipK ks (vs.set j v)
  | [], _, _, _, _, _, h => by simp at h
  | _ :: _, [], _, _, _, _, _ => by simp [zipK]
  | k :: ks, w :: vs, 0, x, v, nd, h => by
    simp at h
    subst h
    have hid : ∀ {ks : List Str} {vs : List V}, k ∉ ks → (zipK ks vs).map (fun kv => if kv.1 = Sum.inr k then (kv.1, v) else kv) = zipK ks vs := by
      intro ks
      induction ks with
      | nil => intro vs _; simp [zipK]
      | cons k' ks ih =>
        intro vs hn
        cases vs with
        | nil => simp [zipK]
        | cons w' vs =>
          have h1 : k' ≠ k := fun z => hn (z ▸ List.mem_cons_self)
          have h2 := ih (vs := vs) fun z => hn (List.mem_cons_of_mem _ z)
          unfold zipK at *
          rw [List.zipWith_cons_cons, List.map_cons, h2, if_neg (fun z => h1 (Sum.inr.inj z))]
    have h3 := hid (vs := vs) (List.nodup_cons.mp nd).1
    unfold zipK at *
    rw [List.zipWith_cons_cons, List.map_cons, h3]
    simp
  | k :: ks, w :: vs, j + 1, x, v, nd, h => by
    have ih := zip_put (ks := ks) (vs := vs) (j := j) (x := x) v (List.nodup_cons.mp nd).2 (by simpa using h)
    have hne : k ≠ x := fun z => (List.nodup_cons.mp nd).1 (z ▸ List.mem_of_getElem? (by simpa using h))
    unfold zipK at *
    rw [List.zipWith_cons_cons, List.map_cons, ih, if_neg (fun z => hne (Sum.inr.inj z)), List.set_cons_succ, List.zipWith_cons_cons]
theorem zip_len {ks : List Str} {vs : List V} (h : ks.length = vs.length) : (zipK ks vs).length = ks.length := by
  unfold zipK
  rw [List.length_zipWith, h, Nat.min_self]
/-- an object's value -/
theorem obj_of {d : D} {k : Nat} (h : objAt d = some k) : d = obj k := by
  unfold objAt at h
  split at h
  · rename_i i
    split at h
    · rename_i h0
      cases h
      unfold obj
      rw [Int.toNat_of_nonneg h0]
    · cases h
  · cases h
theorem Rep.objK {v : V} {k : Nat} (r : Rep P m H v (Tn.obj k)) : ∃ a, v = .ref a ∧ m (.ob k) = some a := by
  generalize hd : Tn.obj k = d at r
  cases r with
  | obj h =>
    rename_i a k'
    unfold Tn.obj at hd
    injection hd with hd
    injection hd with h1 _
    injection h1 with h2 _
    injection h2 with h3
    have : k = k' := by omega
    subst this
    exact ⟨a, rfl, h⟩
  | _ => cases hd
end
section
variable {X : Cx} {P : Par} {F : Nat → List D → M D} {W : Nat → Hp → Prop} {e a b c : Expr} {p pa pb pc : E} {pos : Pos}
/-- what an object's field is -/
theorem field_at {σ : L2.St} {env : Env} {m : Mp} {H : Hp} {objs : Objs} {v : V} {d : D} {k kind fld : Nat} {s : OState} {c : Cell} (rel : RelO P H objs m) (r : Rep P m H v d) (hk : objAt d = some k) (hs : objs[k]? = some s) (hkind : s.kind = kind) (hc : s.fs[fld]? = some c) {ks : List Str} {x : Str} (hks : P.kinds[kind]? = some ks) (nd : ks.Nodup) (hx : ks[fld]? = some x) :
    ∃ (ad : Addr) (vs : List V) (w : V), v = .ref ad ∧ m (.ob k) = some ad ∧ ks.length = s.fs.length ∧ vs.length = s.fs.length ∧ H ad = some (.dK (zipK ks vs)) ∧ vs[fld]? = some w ∧ valV (zipK ks vs) (Sum.inr x) = some w ∧ FieldR P m H vs k fld c ∧ (∀ j c, s.fs[j]? = some c → FieldR P m H vs k j c) := by
  have := obj_of hk
  subst this
  obtain ⟨ad, rfl, h0⟩ := r.objK
  obtain ⟨a', ks', vs, e1, e2, e3, e4, e5, e6⟩ := rel.obs k s hs
  rw [h0] at e1
  cases e1
  subst hkind
  rw [hks] at e2
  cases e2
  have hlt : fld < vs.length := by
    rw [e4]
    exact (List.getElem?_eq_some_iff.mp hc).1
  have hw : vs[fld]? = some vs[fld] := List.getElem?_eq_getElem hlt
  exact ⟨ad, vs, vs[fld], rfl, h0, e3, e4, e5, hw, zip_look nd hx hw, e6 fld c hc, e6⟩
theorem nosl {i : Expr} (h : okE i = true) : NoSl i := plainIx_of h
theorem getO_post {σ : L2.St} {env : Env} {m : Mp} {H : Hp} {objs : Objs} {G : D → Objs → Prop} {kind fld : Nat} {d : D} (h : Post P W σ env m H (getO kind fld d objs) G) :
    ∃ k s x, objAt d = some k ∧ objs[k]? = some s ∧ s.kind = kind ∧ s.fs[fld]? = some (.v x) ∧ G x objs := by
  unfold getO at h
  split at h
  · exact h.elim
  · rename_i k hk
    split at h
    · exact h.elim
    · rename_i s hs
      split at h
      · rename_i hkind
        split at h
        · rename_i x hx
          exact ⟨k, s, x, hk, hs, hkind, hx, h⟩
        · exact h.elim
      · exact h.elim
theorem s_getF (fr : FrX X P) {kind fld : Nat} {ks : List Str} {x : Str} {j : Nat} {p2 : Pos} (hks : P.kinds[kind]? = some ks) (nd : ks.Nodup) (hx : ks[fld]? = some x) (ha : PE X a (rd P F W pa)) :
    PE X (.Subscript a (.Constant (.str x) j p2) pos) (rd P F W (.getF kind fld pa)) := by
  refine peC (pe_dget (by have := fr.hu; omega) ha pe_str (nosl rfl)) fun σ H Q ⟨env, objs, m, rel, tm, h⟩ => ?_
  refine rd_seq rel tm h fun v H1 m1 d objs1 rel1 tm1 s1 r1 h1 => ?_
  obtain ⟨k, s, z, e1, e2, e3, e4, g⟩ := getO_post h1
  obtain ⟨ad, vs, w, rfl, f1, f2, f3, f4, f5, f6, f7, f8⟩ := field_at (σ := σ) (env := env) rel1.toRelO r1 e1 e2 e3 e4 hks nd hx
  obtain ⟨w', f9, f10⟩ := f7
  rw [f5] at f9
  cases f9
  have dg := DGet.k (k := Sum.inr x) f4
  rw [f6] at dg
  exact ⟨ad, w, rfl, dg, g w H1 m1 rel1 tm1 s1 f10⟩
theorem neO_post {σ : L2.St} {env : Env} {m : Mp} {H : Hp} {objs : Objs} {G : D → Objs → Prop} {kind fld : Nat} {d : D} (h : Post P W σ env m H (neO kind fld d objs) G) :
    ∃ k s xs, objAt d = some k ∧ objs[k]? = some s ∧ s.kind = kind ∧ s.fs[fld]? = some (.own xs) ∧ xs.all (shN 7) = true ∧ G (.bool (!xs.isEmpty)) objs := by
  unfold neO at h
  split at h
  · exact h.elim
  · rename_i k hk
    split at h
    · exact h.elim
    · rename_i s hs
      split at h
      · rename_i hkind
        split at h
        · rename_i xs hx
          split at h
          · rename_i hsh
            exact ⟨k, s, xs, hk, hs, hkind, hx, hsh, h⟩
          · exact h.elim
        · exact h.elim
      · exact h.elim
theorem s_neF (fr : FrX X P) {kind fld : Nat} {ks : List Str} {x : Str} {j : Nat} {p2 p3 p4 : Pos} (hks : P.kinds[kind]? = some ks) (nd : ks.Nodup) (hx : ks[fld]? = some x) (ha : PE X a (rd P F W pa)) :
    PE X (.Compare (.Subscript a (.Constant (.str x) j p2) p3) [.NotEq] [.List [] p4] pos) (rd P F W (.neF kind fld pa)) := by
  refine peC (pe_cmpR (op_neD (by have := fr.hu; omega)) (pe_dget (by have := fr.hu; omega) ha pe_str (nosl rfl)) (pe_lst pa_nil) rfl) fun σ H Q ⟨env, objs, m, rel, tm, h⟩ => ?_
  refine rd_seq rel tm h fun v H1 m1 d objs1 rel1 tm1 s1 r1 h1 => ?_
  obtain ⟨k, s, xs, e1, e2, e3, e4, hsh, g⟩ := neO_post h1
  obtain ⟨ad, vs, w, rfl, f1, f2, f3, f4, f5, f6, f7, f8⟩ := field_at (σ := σ) (env := env) rel1.toRelO r1 e1 e2 e3 e4 hks nd hx
  obtain ⟨bd, ws, f9, f10, f11, f12⟩ := f7
  rw [f5] at f10
  cases f10
  have dg := DGet.k (k := Sum.inr x) f4
  rw [f6] at dg
  refine ⟨ad, _, rfl, dg, Nat.zero_le _, fun q hq => ?_⟩
  have kp : Keeps H1 (upd H1 q (.lst [])) := keeps_upd hq
  have hl : sh (.list xs) = true := by simpa [sh, shN] using hsh
  refine ⟨.list xs, .list [], ?_, .lst (.inl (.inl upd_same)) .nil, sh_shaped hl, by decide +kernel, ?_⟩
  · exact fr.K ▸ Dp.lst (.inl (.inl (kp _ _ f11))) ((f12.step kp.step).dp 7 (by simpa using hsh))
  · have e0 : (!PyData.eqv (.list xs) (.list [])) = !xs.isEmpty := by cases xs <;> simp [PyData.eqv, PyData.eqvAll]
    rw [e0]
    exact g _ _ m1 (rel1.keeps kp) tm1 (s1.trans kp.step) (.bl _)
theorem t_neF (fr : FrX X P) {kind fld : Nat} {ks : List Str} {x : Str} {j : Nat} {p2 p3 p4 : Pos} (hks : P.kinds[kind]? = some ks) (nd : ks.Nodup) (hx : ks[fld]? = some x) (ha : PE X a (rd P F W pa)) :
    PT X (.Compare (.Subscript a (.Constant (.str x) j p2) p3) [.NotEq] [.List [] p4] pos) (rdT P F W (.neF kind fld pa)) := by
  refine ptC (pt_cmpR (op_neD (by have := fr.hu; omega)) (pe_dget (by have := fr.hu; omega) ha pe_str (nosl rfl)) (pe_lst pa_nil) rfl) fun σ H Q ⟨env, objs, m, rel, tm, h⟩ => ?_
  have e0 : (M.bind (ev F (.neF kind fld pa) env) fun d => M.lift (truD d)) = M.bind (ev F pa env) fun x => M.bind (neO kind fld x) fun d => M.lift (truD d) := M.bind_assoc _ _ _
  rw [e0] at h
  refine rd_seq rel tm h fun v H1 m1 d objs1 rel1 tm1 s1 r1 h1 => ?_
  have h2 : Post P W σ env m1 H1 (neO kind fld d objs1) (fun z o => ∃ b, z = .bool b ∧ ∀ H' m', Rel P σ H' env o m' → m' .tmp = none → Step m H m' H' → Q b H') := by
    cases e : neO kind fld d objs1 with
    | none => rw [M.bind_none e] at h1; exact h1
    | some r =>
      cases r with
      | ex c o => rw [M.bind_ex e] at h1; exact h1
      | ok z o =>
        rw [M.bind_ok e] at h1
        obtain ⟨b, hb, g⟩ := Post.lift h1
        have hz : ∃ b', z = .bool b' := by
          have q : Post P (fun _ _ => True) σ env m1 H1 (neO kind fld d objs1) (fun z _ => ∃ b', z = .bool b') := by
            unfold neO
            unfold neO at e
            split
            · rename_i hk; rw [hk] at e; cases e
            · rename_i k hk
              rw [hk] at e
              simp only at e ⊢
              split
              · rename_i hs; rw [hs] at e; cases e
              · rename_i s hs
                rw [hs] at e
                simp only at e ⊢
                split
                · rename_i hkind
                  rw [if_pos hkind] at e
                  split
                  · rename_i xs hx
                    rw [hx] at e
                    simp only at e ⊢
                    split
                    · exact ⟨_, rfl⟩
                    · rename_i hsh; rw [if_neg hsh] at e; cases e
                  · rename_i hx
                    split at e
                    · rename_i xs hx'; exact absurd hx' (hx xs)
                    · cases e
                · rename_i hkind; rw [if_neg hkind] at e; cases e
          rw [e] at q
          exact q
        obtain ⟨b', rfl⟩ := hz
        cases hb
        exact ⟨b, rfl, g⟩
  obtain ⟨k, s, xs, e1, e2, e3, e4, hsh, bb, hb, g⟩ := neO_post h2
  cases hb
  obtain ⟨ad, vs, w, rfl, f1, f2, f3, f4, f5, f6, f7, f8⟩ := field_at (σ := σ) (env := env) rel1.toRelO r1 e1 e2 e3 e4 hks nd hx
  obtain ⟨bd, ws, f9, f10, f11, f12⟩ := f7
  rw [f5] at f10
  cases f10
  have dg := DGet.k (k := Sum.inr x) f4
  rw [f6] at dg
  refine ⟨ad, _, rfl, dg, Nat.zero_le _, fun q hq => ?_⟩
  have kp : Keeps H1 (upd H1 q (.lst [])) := keeps_upd hq
  have hl : sh (.list xs) = true := by simpa [sh, shN] using hsh
  refine ⟨.list xs, .list [], ?_, .lst (.inl (.inl upd_same)) .nil, sh_shaped hl, by decide +kernel, _, rfl, ?_⟩
  · exact fr.K ▸ Dp.lst (.inl (.inl (kp _ _ f11))) ((f12.step kp.step).dp 7 (by simpa using hsh))
  · have e0 : (!PyData.eqv (.list xs) (.list [])) = !xs.isEmpty := by cases xs <;> simp [PyData.eqv, PyData.eqvAll]
    rw [e0]
    exact g _ m1 (rel1.keeps kp) tm1 (s1.trans kp.step)
end
end Tn
set_option Elab.async false
set_option linter.all false
set_option maxRecDepth 100000
set_option maxHeartbeats 4000000
namespace Tn
open PySem PySem.Spec PyProof.Rows L2
section
variable {P : Par} {m m' : Mp} {H H' : Hp} {σ : L2.St} {env : Env} {objs : Objs}
/-- a field's own list is written -/
theorem rel_fl (R : Rel P σ H env objs m) {k j : Nat} {b : Addr} {o o' : HO} (e : m (.fl k j) = some b) (h : H b = some o) (mu : Mu o) (mu' : Mu o') {s : OState} {ws' : List V} {xs' : List D}
    (hs : objs[k]? = some s) (ho : o' = .lst ws') (hr : RepAll P m (upd H b o') ws' xs') (hj : ∃ xs, s.fs[j]? = some (.own xs)) :
    Rel P σ (upd H b o') env (objs.set k { s with fs := s.fs.set j (.own xs') }) m := by
  have st := step_upd (o' := o') e h mu
  have other : ∀ q' a x, m q' = some a → q' ≠ .fl k j → H a = some x → upd H b o' a = some x := fun q' a x e' n hx => by
    rw [upd_ne (fun z : a = b => n (R.inj _ _ _ e' (z ▸ e)))]
    exact hx
  have hkl : k < objs.length := (List.getElem?_eq_some_iff.mp hs).1
  obtain ⟨xs0, hj⟩ := hj
  have hjl : j < s.fs.length := (List.getElem?_eq_some_iff.mp hj).1
  have O : RelO P (upd H b o') (objs.set k { s with fs := s.fs.set j (.own xs') }) m := by
    refine relO_upd R.toRelO e h mu mu' (by rw [List.length_set]) fun k2 s2 z => ?_
    by_cases hk : k = k2
    · subst hk
      rw [List.getElem?_set_self hkl] at z
      cases z
      right
      obtain ⟨a, ks, vs, e1, e2, e3, e4, e5, e6⟩ := R.obs k s hs
      refine ⟨a, ks, vs, e1, e2, by rw [List.length_set]; exact e3, by rw [List.length_set]; exact e4, other _ _ _ e1 (fun z => by cases z) e5, fun j2 c hc => ?_⟩
      by_cases hj2 : j = j2
      · subst hj2
        rw [List.getElem?_set_self hjl] at hc
        cases hc
        obtain ⟨b2, ws, f1, f2, f3, f4⟩ := e6 j _ hj
        rw [e] at f1
        cases f1
        exact ⟨b, ws', e, f2, by rw [← ho]; exact upd_same, hr⟩
      · rw [List.getElem?_set_ne hj2] at hc
        have h7 := e6 j2 c hc
        cases c with
        | v d => obtain ⟨v, f1, r⟩ := h7; exact ⟨v, f1, r.step st⟩
        | own xs => obtain ⟨b', ws, f1, f2, f3, r⟩ := h7; exact ⟨b', ws, f1, f2, other _ _ _ f1 (fun w => hj2 (by cases w; rfl)) f3, r.step st⟩
        | dic kvs => exact h7
    · rw [List.getElem?_set_ne hk] at z
      exact .inl ⟨z, (fun w => by cases w), fun j2 w => hk (by cases w; rfl)⟩
  exact ⟨O, R.len, fun i c z => slotR_upd R.toRelO e h mu (fun w => by cases w) (R.slot i c z)⟩
end
section
variable {X : Cx} {P : Par} {F : Nat → List D → M D} {W : Nat → Hp → Prop} {e a b c : Expr} {p pa pb pc : E} {pos : Pos}
theorem popO_post {σ : L2.St} {env : Env} {m : Mp} {H : Hp} {objs : Objs} {G : D → Objs → Prop} {kind fld : Nat} {d : D} (h : Post P W σ env m H (popO kind fld d objs) G) :
    ∃ k s x xs, objAt d = some k ∧ objs[k]? = some s ∧ s.kind = kind ∧ s.fs[fld]? = some (.own (x :: xs)) ∧ G x (objs.set k { s with fs := s.fs.set fld (.own xs) }) := by
  unfold popO at h
  split at h
  · exact h.elim
  · rename_i k hk
    split at h
    · exact h.elim
    · rename_i s hs
      split at h
      · rename_i hkind
        split at h
        · rename_i x xs hx
          exact ⟨k, s, x, xs, hk, hs, hkind, hx, h⟩
        · exact h.elim
      · exact h.elim
theorem few1 {e : Expr} {cpos : Pos} {env : PySem.Env} (ok : okE e = true) : ((backTo cpos (starEach [e] env)).all (fun x => !x.1) && (backToKw cpos (keywordEach [] env)).all (fun x => x.1.isSome)
      && decide (([e] : List Expr).length + ([] : List Keyword).length + (if ([] : List Keyword).isEmpty then 0 else 1) < 30)) = true := by
  rw [star_cons ok]
  rfl
theorem s_popF (fr : FrX X P) {kind fld : Nat} {ks : List Str} {x : Str} {j j2 : Nat} {p2 p3 p4 p5 : Pos} (hks : P.kinds[kind]? = some ks) (nd : ks.Nodup) (hx : ks[fld]? = some x) (ha : PE X a (rd P F W pa)) (hl : (p4.endLine == pos.line) = true) :
    PE X (.Call (.Attribute (.Subscript a (.Constant (.str x) j p2) p3) "pop" p4) [.Constant (.int 0) j2 p5] [] pos) (rd P F W (.popF kind fld pa)) := by
  refine peC (pe_bm PySem.F.plainAttrs_list PySem.F.slot_list_pop PySem.F.type_list_pop mt_popAt (pe_dget (by have := fr.hu; omega) ha pe_str (nosl rfl)) (pa_cons pe_int pa_nil) rfl rfl hl rfl rfl) fun σ H Q ⟨env, objs, m, rel, tm, h⟩ => ?_
  refine rd_seq rel tm h fun v H1 m1 d objs1 rel1 tm1 s1 r1 h1 => ?_
  obtain ⟨k, s, x0, xs, e1, e2, e3, e4, g⟩ := popO_post h1
  obtain ⟨ad, vs, w, rfl, f1, f2, f3, f4, f5, f6, f7, f8⟩ := field_at (σ := σ) (env := env) rel1.toRelO r1 e1 e2 e3 e4 hks nd hx
  obtain ⟨bd, ws, f9, f10, f11, f12⟩ := f7
  rw [f5] at f10
  cases f10
  have dg := DGet.k (k := Sum.inr x) f4
  rw [f6] at dg
  cases f12 with
  | cons r0 rs =>
    rename_i y ys
    refine ⟨ad, _, rfl, dg, ?_⟩
    refine ⟨?_, bd, y :: ys, 0, 0, y, rfl, rfl, f11, by omega, by omega, by simp [seqIndex?], rfl, ?_⟩
    · exact .inl ⟨rfl, _, .inl (.inl f11)⟩
    · have st := step_upd (o' := .lst ys) f9 f11 trivial
      exact g y _ m1 (rel_fl (o' := .lst ys) rel1 f9 f11 trivial trivial e2 rfl (rs.step st) ⟨_, e4⟩) tm1 (s1.trans st) (r0.step st)
/-! ### a dict by tuples of numbers -/
theorem inl_inj : ∀ {a b : List Int}, a.map (Sum.inl : Int → Key) = b.map Sum.inl → a = b
  | [], [], _ => rfl
  | [], _ :: _, h => by simp at h
  | _ :: _, [], h => by simp at h
  | x :: a, y :: b, h => by
    rw [List.map_cons, List.map_cons] at h
    injection h with h1 h2
    rw [Sum.inl.inj h1, inl_inj h2]
theorem dic_look {P : Par} {m : Mp} {H : Hp} (k : List Int) : ∀ {kws : List (List Key × V)} {kvs : List (List Int × D)}, kws.map (·.1) = kvs.map (fun p => p.1.map Sum.inl) → RepAll P m H (kws.map (·.2)) (kvs.map (·.2)) →
    match lookD kvs k with
    | some d => ∃ v, valV kws (k.map Sum.inl) = some v ∧ Rep P m H v d
    | none => valV kws (k.map Sum.inl) = none
  | [], [], _, _ => rfl
  | [], _ :: _, e, _ => by simp at e
  | _ :: _, [], e, _ => by simp at e
  | (kk, w) :: kws, (n, d) :: kvs, e, r => by
    rw [List.map_cons, List.map_cons] at e r
    injection e with e1 e2
    have e1 : kk = n.map Sum.inl := e1
    subst e1
    cases r with
    | cons r0 rs =>
      by_cases h : n = k
      · subst h
        have : lookD ((n, d) :: kvs) n = some d := by simp [lookD]
        rw [this]
        exact ⟨w, valV_pos rfl, r0⟩
      · have : lookD ((n, d) :: kvs) k = lookD kvs k := by simp [lookD, List.find?_cons, h]
        rw [this, valV_neg (fun z => h (inl_inj z))]
        exact dic_look k e2 rs
theorem dic_any (k : List Int) : ∀ {kws : List (List Key × V)} {kvs : List (List Int × D)}, kws.map (·.1) = kvs.map (fun p => p.1.map Sum.inl) →
    (kws.any fun kv => decide (kv.1 = k.map Sum.inl)) = (kvs.any fun kv => decide (kv.1 = k))
  | [], [], _ => rfl
  | [], _ :: _, e => by simp at e
  | _ :: _, [], e => by simp at e
  | (kk, w) :: kws, (n, d) :: kvs, e => by
    rw [List.map_cons, List.map_cons] at e
    injection e with e1 e2
    have e1 : kk = n.map Sum.inl := e1
    subst e1
    rw [List.any_cons, List.any_cons, dic_any k e2]
    congr 1
    by_cases h : n = k
    · subst h; simp
    · rw [decide_eq_false h, decide_eq_false (fun z => h (inl_inj z))]
theorem dic_put {P : Par} {m : Mp} {H : Hp} (k : List Int) {v : V} {d : D} (r : Rep P m H v d) {kws : List (List Key × V)} {kvs : List (List Int × D)} (e : kws.map (·.1) = kvs.map (fun p => p.1.map Sum.inl)) (ra : RepAll P m H (kws.map (·.2)) (kvs.map (·.2))) :
    (putK kws (k.map Sum.inl) v).map (·.1) = (putD kvs k d).map (fun p => p.1.map Sum.inl) ∧ RepAll P m H ((putK kws (k.map Sum.inl) v).map (·.2)) ((putD kvs k d).map (·.2)) := by
  unfold putK putD
  rw [dic_any k e]
  split
  · have go : ∀ {kws : List (List Key × V)} {kvs : List (List Int × D)}, kws.map (·.1) = kvs.map (fun p => p.1.map Sum.inl) → RepAll P m H (kws.map (·.2)) (kvs.map (·.2)) →
        (kws.map (fun kv => if kv.1 = k.map Sum.inl then (kv.1, v) else kv)).map (·.1) = (kvs.map fun kv => if kv.1 = k then (k, d) else kv).map (fun p => p.1.map Sum.inl) ∧
        RepAll P m H ((kws.map (fun kv => if kv.1 = k.map Sum.inl then (kv.1, v) else kv)).map (·.2)) ((kvs.map fun kv => if kv.1 = k then (k, d) else kv).map (·.2)) := by
      intro kws
      induction kws with
      | nil => intro kvs e ra; cases kvs with
        | nil => exact ⟨rfl, .nil⟩
        | cons _ _ => simp at e
      | cons x kws ih =>
        intro kvs e ra
        cases kvs with
        | nil => simp at e
        | cons y kvs =>
          obtain ⟨kk, w⟩ := x
          obtain ⟨n, d'⟩ := y
          rw [List.map_cons, List.map_cons] at e ra
          injection e with e1 e2
          have e1 : kk = n.map Sum.inl := e1
          subst e1
          cases ra with
          | cons r0 rs =>
            obtain ⟨i1, i2⟩ := ih e2 rs
            by_cases h : n = k
            · subst h
              rw [List.map_cons, List.map_cons, List.map_cons, List.map_cons, List.map_cons, List.map_cons, if_pos rfl, if_pos rfl]
              exact ⟨by rw [i1], .cons r i2⟩
            · have h' : ¬ n.map (Sum.inl : Int → Key) = k.map Sum.inl := fun z => h (inl_inj z)
              simp only [List.map_cons, if_neg h, if_neg h']
              exact ⟨by rw [i1], .cons r0 i2⟩
    exact go e ra
  · rw [List.map_append, List.map_append, List.map_append, List.map_append, e]
    exact ⟨rfl, ra.app (.cons r .nil)⟩
theorem post_getD {σ : L2.St} {env : Env} {m : Mp} {H : Hp} {objs : Objs} {α : Type} {f : List (List Int × D) → M α} {G : α → Objs → Prop} {i : Nat} (h : Post P W σ env m H (M.bind (getD env i) f objs) G) :
    ∃ kvs, env[i]? = some (some (.dic kvs)) ∧ Post P W σ env m H (f kvs objs) G := by
  unfold getD at h
  split at h
  · rename_i kvs e
    exact ⟨kvs, e, h⟩
  · exact h.elim
theorem tupOf_some {d : D} {ns : List Int} (h : tupOf d = some ns) : d = .tuple (ns.map .int) := by
  unfold tupOf at h
  split at h
  · rw [ints_of h]
  · cases h
theorem Rep.key {m : Mp} {H : Hp} {v : V} {ns : List Int} (r : Rep P m H v (.tuple (ns.map .int))) : ∃ b, v = .ref b ∧ H b = some (.tup ((ns.map (Sum.inl : Int → Key)).map kV)) := by
  obtain ⟨b, vs, rfl, h, t⟩ := Rep.tuple r
  have := t.ints
  subst this
  exact ⟨b, rfl, by rw [kV_ints]; exact h⟩
theorem s_dget (fr : FrX X P) {i : Nat} {x : Str} {np p4 : Pos} {ek ed : Expr} {pk pd : E} (hN : X.N[i]? = some x) (hv : Vis X.env.scope x) (hd : (x == ("__debug__" : Str)) = false) (hcd : (x == ("__classdict__" : Str)) = false)
    (ok : okE ek = true) (ok2 : okE ed = true) (hk : PE X ek (rd P F W pk)) (hdf : PE X ed (rd P F W pd)) (hl : (p4.endLine == pos.line) = true) :
    PE X (.Call (.Attribute (.Name x np) "get" p4) [ek, ed] [] pos) (rd P F W (.dget i pk pd)) := by
  refine peC (pe_dget2 (by have := fr.hu; omega) (pe_var hN hv hd hcd) hk hdf ⟨rfl, by rw [star_cons ok, star_cons ok2]; rfl, hl, by rw [star_cons ok, star_cons ok2]; rfl⟩) fun σ H Q ⟨env, objs, m, rel, tm, h⟩ => ?_
  obtain ⟨kvs, hs, h⟩ := post_getD h
  obtain ⟨ad, kws, g1, g2, g3, g4, g5⟩ := rel.slot i _ hs
  refine ⟨_, g2, ad, rfl, .inr ⟨kws, .inl g3⟩, ?_⟩
  refine rd_seq rel tm h fun y H1 m1 d objs1 rel1 tm1 s1 r1 h1 => rd_seq rel1 tm1 h1 fun z H2 m2 e objs2 rel2 tm2 s2 r2 h2 => ?_
  obtain ⟨ns, ek, g⟩ := Post.liftB h2
  have hd := tupOf_some ek
  subst hd
  obtain ⟨b, rfl, hb⟩ := (r1.step s2).key
  obtain ⟨ad', kws2, g1', g2', g3', g4', g5'⟩ := rel2.slot i _ hs
  rw [g2] at g2'
  cases g2'
  refine ⟨_, DGet.t g3' hb, ?_⟩
  have lk := dic_look ns g4' g5'
  have g : ∀ v H' m', Rel P σ H' env objs2 m' → m' .tmp = none → Step m H m' H' → Rep P m' H' v ((lookD kvs ns).getD e) → Q v H' := g
  cases hl : lookD kvs ns with
  | some d' =>
    rw [hl] at lk g
    obtain ⟨v, h1, h2⟩ := lk
    rw [h1]
    exact g v H2 m2 rel2 tm2 (s1.trans s2) h2
  | none =>
    rw [hl] at lk g
    have lk : valV kws2 (ns.map Sum.inl) = none := lk
    rw [lk]
    exact g z H2 m2 rel2 tm2 (s1.trans s2) r2
theorem s_dix (fr : FrX X P) {i : Nat} {x : Str} {np : Pos} {ek : Expr} {pk : E} (hN : X.N[i]? = some x) (hv : Vis X.env.scope x) (hd : (x == ("__debug__" : Str)) = false) (hcd : (x == ("__classdict__" : Str)) = false)
    (ok : okE ek = true) (hk : PE X ek (rd P F W pk)) : PE X (.Subscript (.Name x np) ek pos) (rd P F W (.dix i pk)) := by
  refine peC (pe_dget (by have := fr.hu; omega) (pe_var hN hv hd hcd) hk (nosl ok)) fun σ H Q ⟨env, objs, m, rel, tm, h⟩ => ?_
  obtain ⟨kvs, hs, h⟩ := post_getD h
  obtain ⟨ad, kws, g1, g2, g3, g4, g5⟩ := rel.slot i _ hs
  refine ⟨_, g2, ?_⟩
  refine rd_seq rel tm h fun y H1 m1 d objs1 rel1 tm1 s1 r1 h1 => ?_
  obtain ⟨ns, ek, h2⟩ := Post.liftB h1
  obtain ⟨d', el, g⟩ := Post.lift h2
  have hd := tupOf_some ek
  subst hd
  obtain ⟨b, rfl, hb⟩ := r1.key
  obtain ⟨ad', kws2, g1', g2', g3', g4', g5'⟩ := rel1.slot i _ hs
  rw [g2] at g2'
  cases g2'
  have lk := dic_look ns g4' g5'
  rw [el] at lk
  obtain ⟨v, h1, h2⟩ := lk
  have dg := DGet.t g3' hb
  rw [h1] at dg
  exact ⟨ad, v, rfl, dg, g v H1 m1 rel1 tm1 s1 h2⟩
theorem f_dsorted (fr : FrX X P) {i : Nat} {x : Str} {np fp : Pos} (hg : Gl X "sorted") (hm : X.mg "sorted" = none) (hN : X.N[i]? = some x) (hv : Vis X.env.scope x) (hd : (x == ("__debug__" : Str)) = false) (hcd : (x == ("__classdict__" : Str)) = false) :
    PE X (.Call (.Name "sorted" fp) [.Name x np] [] pos) (rdF P F W (.dsorted i)) := by
  have cr : CallR X (.builtin "sorted") (fun vs H Q => ∃ (m : Mp) (a : Addr) (kws : List (List Key × V)) (ks : List (List Int)), vs = [.ref a] ∧ H a = some (.dT kws) ∧ kws.map (·.1) = ks.map (fun k => k.map Sum.inl) ∧ (∀ k ∈ ks, k ≠ []) ∧
      ∀ p zs, H p = none → RepAll P m H zs ((ks.mergeSort lexLe).map tup) → Q (.ref p) (upd H p (.lst zs))) := by
    intro pins s σ' H vs us Q I r ⟨m, h⟩
    exact cr_sortDT (P := P) (m := m) fr.calm fr.K fr.hu pins s σ' H vs us Q I r h
  refine peC (pe_callB (id := "sorted") cr hg hm (by decide +kernel) (pa_cons (pe_var hN hv hd hcd) pa_nil (star_cons rfl)) (by decide) (by decide) (star_cons rfl) rfl) fun σ H Q ⟨env, objs, m, rel, tm, h⟩ => ?_
  obtain ⟨kvs, hs, h⟩ := post_getD h
  split at h
  · rename_i hne
    obtain ⟨ad, kws, g1, g2, g3, g4, g5⟩ := rel.slot i _ hs
    have hne := Bool.and_eq_true_iff.mp hne
    refine ⟨_, g2, m, ad, kws, kvs.map (·.1), rfl, g3, by rw [g4, List.map_map]; rfl, fun k hk z => ?_, fun q zs hq rz => fresh_done rel tm Step.refl h hq rz⟩
    obtain ⟨kv, h1, h2⟩ := List.mem_map.mp hk
    have := List.all_eq_true.mp hne.1 kv h1
    subst h2
    rw [z] at this
    cases this
  · exact h.elim
theorem lists_dsorted {i : Nat} : Lists F (.dsorted i) := by
  intro env objs d o h
  obtain ⟨kvs, o1, _, h2⟩ := M.bind_some h
  split at h2
  · cases h2; exact ⟨_, rfl⟩
  · cases h2
end
end Tn
set_option Elab.async false
set_option linter.all false
set_option maxRecDepth 100000
set_option maxHeartbeats 4000000
namespace Tn
open PySem PySem.Spec PyProof.Rows L2
/-- a reading of what is walked: b, one's own lists too -/
def RB (P : Par) (b : Bool) : RR := fun σ env m H v d => Rep P m H v d ∨ (b = true ∧ RepT P σ env m H v d)
/-- how an iterator walks these -/
def Walks (P : Par) (b : Bool) (σ : L2.St) (env : Env) (m : Mp) (H : Hp) (J : L2.It) (ds : List D) : Prop :=
  ∀ (P2 : Par) (σ2 : L2.St) (env2 : Env) (objs2 : Objs) (m2 : Mp) (H2 : Hp), P2.K = P.K → Rel P2 σ2 H2 env2 objs2 m2 → (∀ v d, RB P b σ env m H v d → RepT P2 σ2 env2 m2 H2 v d) →
    ∀ i, (ds.length ≤ i → J.stop i H2) ∧ ∀ d, ds[i]? = some d → J.go i H2 ∧ ∀ x H3, J.yld i H2 x H3 → Keeps H2 H3 ∧ Rep P2 m2 H3 x d
section
variable {P : Par} {m m' : Mp} {H H' : Hp} {σ : L2.St} {env : Env} {objs : Objs} {b : Bool}
theorem RB.t {v : V} {d : D} (r : RB P b σ env m H v d) : RepT P σ env m H v d := r.elim .inl (·.2)
theorem RB.step (s : Step m H m' H') {v : V} {d : D} (r : RB P b σ env m H v d) : RB P b σ env m' H' v d := r.elim (fun r => .inl (r.step s)) fun r => .inr ⟨r.1, r.2.step s⟩
theorem RB.later {σ2 : L2.St} {env2 : Env} (s : Step m H m' H') (hb : b = true → ∀ (i : Nat) (xs : List D), env[i]? = some (some (.own xs)) → env2[i]? = some (some (.own xs)) ∧ σ2[i]? = σ[i]?) {v : V} {d : D} (r : RB P b σ env m H v d) : RepT P σ2 env2 m' H' v d := by
  rcases r with r | ⟨h, r | ⟨i, xs, e1, e2, e3⟩⟩
  · exact .inl (r.step s)
  · exact .inl (r.step s)
  · obtain ⟨h1, h2⟩ := hb h i xs e2
    exact .inr ⟨i, xs, by rw [h2]; exact e1, h1, e3⟩
theorem sqT_of {K : PySem.W.Frag} {a : Addr} {vs : List V} (h : H a = some (.tup vs)) : SqT K H a vs := .inl (.inl h)
theorem walk_list {K : PySem.W.Frag} {a : Addr} {ds : List D} (r : RB P b σ env m H (.ref a) (.list ds)) : Walks P b σ env m H (Itl K a) ds := by
  intro P2 σ2 env2 objs2 m2 H2 hKK rel hk i
  obtain ⟨a', vs, e, h1, t1⟩ := (hk _ _ r).list rel
  cases e
  have hq : SqL K H2 a vs := .inl h1
  refine ⟨fun hi => ⟨vs, hq, by rw [t1.len]; exact hi⟩, fun d hd => ?_⟩
  obtain ⟨v, h2, h3⟩ := t1.get hd
  refine ⟨⟨vs, v, hq, h2⟩, fun x H3 hy => ?_⟩
  obtain ⟨rfl, hy⟩ := hy
  have := hy vs hq
  rw [h2] at this
  cases this
  exact ⟨fun _ _ z => z, h3⟩
theorem walk_scr {a : Addr} {ds : List D} (r : RB P b σ env m H (.ref a) (.dict [(.none, .list ds)])) : Walks P b σ env m H (Itl P.K a) ds := by
  intro P2 σ2 env2 objs2 m2 H2 hKK rel hk i
  obtain ⟨a', vs, e, h1, t1⟩ := (hk _ _ r).scr
  cases e
  have hq : SqL P.K H2 a vs := hKK ▸ h1.sq
  refine ⟨fun hi => ⟨vs, hq, by rw [t1.len]; exact hi⟩, fun d hd => ?_⟩
  obtain ⟨v, h2, h3⟩ := t1.get hd
  refine ⟨⟨vs, v, hq, h2⟩, fun x H3 hy => ?_⟩
  obtain ⟨rfl, hy⟩ := hy
  have := hy vs hq
  rw [h2] at this
  cases this
  exact ⟨fun _ _ z => z, h3⟩
theorem walk_tup {K : PySem.W.Frag} {a : Addr} {ds : List D} (r : RB P b σ env m H (.ref a) (.tuple ds)) : Walks P b σ env m H (Itt K a) ds := by
  intro P2 σ2 env2 objs2 m2 H2 hKK rel hk i
  obtain ⟨a', vs, e, h1, t1⟩ := (hk _ _ r).tuple
  cases e
  have hq : SqT K H2 a vs := sqT_of h1
  refine ⟨fun hi => ⟨vs, hq, by rw [t1.len]; exact hi⟩, fun d hd => ?_⟩
  obtain ⟨v, h2, h3⟩ := t1.get hd
  refine ⟨⟨vs, v, hq, h2⟩, fun x H3 hy => ?_⟩
  obtain ⟨rfl, hy⟩ := hy
  have := hy vs hq
  rw [h2] at this
  cases this
  exact ⟨fun _ _ z => z, h3⟩
theorem rngL_len (lo : Int) (n : Nat) : (rngL lo n).length = n := by simp [rngL]
theorem rngL_get {lo : Int} {n i : Nat} {d : D} (h : (rngL lo n)[i]? = some d) : i < n ∧ d = .int (lo + (i : Nat)) := by
  unfold rngL at h
  rw [List.getElem?_map] at h
  obtain ⟨k, h1, h2⟩ := Option.map_eq_some_iff.mp h
  obtain ⟨h3, h4⟩ := List.getElem?_eq_some_iff.mp h1
  rw [List.getElem_range] at h4
  rw [List.length_range] at h3
  subst h4
  exact ⟨h3, h2.symm⟩
theorem walk_rng (lo : Int) (n : Nat) : Walks P b σ env m H (Itr lo n) (rngL lo n) := by
  intro P2 σ2 env2 objs2 m2 H2 hKK rel hk i
  refine ⟨fun hi => by rw [rngL_len] at hi; exact hi, fun d hd => ?_⟩
  obtain ⟨h1, rfl⟩ := rngL_get hd
  refine ⟨h1, fun x H3 hy => ?_⟩
  obtain ⟨rfl, rfl⟩ := hy
  exact ⟨fun _ _ z => z, .int _⟩
theorem zipL_len (xs ys : List D) : (zipL xs ys).length = min xs.length ys.length := by simp [zipL]
theorem zipL_get {xs ys : List D} {i : Nat} {d : D} (h : (zipL xs ys)[i]? = some d) : ∃ x y, xs[i]? = some x ∧ ys[i]? = some y ∧ d = .tuple [x, y] := by
  unfold zipL at h
  rw [List.getElem?_zipWith] at h
  cases h1 : xs[i]? with
  | none => rw [h1] at h; cases h
  | some x =>
    cases h2 : ys[i]? with
    | none => rw [h1, h2] at h; cases h
    | some y => rw [h1, h2] at h; exact ⟨x, y, rfl, rfl, (Option.some.inj h).symm⟩
theorem rep_pair {T : Addr} {x y : V} {dx dy : D} (hT : H T = none) (r1 : Rep P m H x dx) (r2 : Rep P m H y dy) : Keeps H (upd H T (.tup [x, y])) ∧ Rep P m (upd H T (.tup [x, y])) (.ref T) (.tuple [dx, dy]) :=
  ⟨keeps_upd hT, Rep.newT hT (.cons r1 (.cons r2 .nil))⟩
theorem walk_zipL {K : PySem.W.Frag} {a c : Addr} {ds es : List D} (r : RB P b σ env m H (.ref a) (.list ds)) (r' : RB P b σ env m H (.ref c) (.list es)) : Walks P b σ env m H (Itz K a c) (zipL ds es) := by
  intro P2 σ2 env2 objs2 m2 H2 hKK rel hk i
  obtain ⟨a', vs, e, h1, t1⟩ := (hk _ _ r).list rel
  cases e
  obtain ⟨a', ws, e, h1', t1'⟩ := (hk _ _ r').list rel
  cases e
  have hq : SqL K H2 a vs := .inl h1
  have hq' : SqL K H2 c ws := .inl h1'
  refine ⟨fun hi => ⟨vs, ws, hq, hq', ?_⟩, fun d hd => ?_⟩
  · rw [zipL_len] at hi
    rw [t1.len, t1'.len]
    omega
  · obtain ⟨dx, dy, h2, h3, rfl⟩ := zipL_get hd
    obtain ⟨v, h4, h5⟩ := t1.get h2
    obtain ⟨w, h6, h7⟩ := t1'.get h3
    refine ⟨⟨vs, ws, v, w, hq, hq', h4, h6⟩, fun x H3 hy => ?_⟩
    obtain ⟨T, x', y', rfl, hT, rfl, hy1, hy2⟩ := hy
    have e1 := hy1 vs hq
    have e2 := hy2 ws hq'
    rw [h4] at e1
    rw [h6] at e2
    cases e1
    cases e2
    exact rep_pair hT h5 h7
theorem walk_zipT {K : PySem.W.Frag} {a c : Addr} {ds es : List D} (r : RB P b σ env m H (.ref a) (.tuple ds)) (r' : RB P b σ env m H (.ref c) (.tuple es)) : Walks P b σ env m H (RZ.ItzT K a c) (zipL ds es) := by
  intro P2 σ2 env2 objs2 m2 H2 hKK rel hk i
  obtain ⟨a', vs, e, h1, t1⟩ := (hk _ _ r).tuple
  cases e
  obtain ⟨a', ws, e, h1', t1'⟩ := (hk _ _ r').tuple
  cases e
  have hq : SqT K H2 a vs := sqT_of h1
  have hq' : SqT K H2 c ws := sqT_of h1'
  refine ⟨fun hi => ⟨vs, ws, hq, hq', ?_⟩, fun d hd => ?_⟩
  · rw [zipL_len] at hi
    rw [t1.len, t1'.len]
    omega
  · obtain ⟨dx, dy, h2, h3, rfl⟩ := zipL_get hd
    obtain ⟨v, h4, h5⟩ := t1.get h2
    obtain ⟨w, h6, h7⟩ := t1'.get h3
    refine ⟨⟨vs, ws, v, w, hq, hq', h4, h6⟩, fun x H3 hy => ?_⟩
    obtain ⟨T, x', y', rfl, hT, rfl, hy1, hy2⟩ := hy
    have e1 := hy1 vs hq
    have e2 := hy2 ws hq'
    rw [h4] at e1
    rw [h6] at e2
    cases e1
    cases e2
    exact rep_pair hT h5 h7
theorem enumL_len : ∀ (xs : List D) (n : Nat), (enumL n xs).length = xs.length
  | [], _ => rfl
  | _ :: xs, n => congrArg Nat.succ (enumL_len xs (n + 1))
theorem enumL_get : ∀ {xs : List D} {n i : Nat} {d : D}, (enumL n xs)[i]? = some d → ∃ x, xs[i]? = some x ∧ d = .tuple [.int ((n + i : Nat) : Int), x]
  | [], _, _, _, h => by simp [enumL] at h
  | x :: xs, n, 0, d, h => by
    simp [enumL] at h
    exact ⟨x, rfl, h.symm⟩
  | x :: xs, n, i + 1, d, h => by
    obtain ⟨y, h1, h2⟩ := enumL_get (xs := xs) (n := n + 1) (i := i) (d := d) (by simpa [enumL] using h)
    refine ⟨y, by simpa using h1, ?_⟩
    rw [h2]
    congr 4
    omega
theorem walk_enum {K : PySem.W.Frag} {a : Addr} {ds : List D} (r : RB P b σ env m H (.ref a) (.list ds)) : Walks P b σ env m H (Ite K a) (enumL 0 ds) := by
  intro P2 σ2 env2 objs2 m2 H2 hKK rel hk i
  obtain ⟨a', vs, e, h1, t1⟩ := (hk _ _ r).list rel
  cases e
  have hq : SqL K H2 a vs := .inl h1
  refine ⟨fun hi => ⟨vs, hq, by rw [t1.len]; rw [enumL_len] at hi; exact hi⟩, fun d hd => ?_⟩
  obtain ⟨dx, h2, rfl⟩ := enumL_get hd
  obtain ⟨v, h3, h4⟩ := t1.get h2
  refine ⟨⟨vs, v, hq, h3⟩, fun x H3 hy => ?_⟩
  obtain ⟨T, x', rfl, hT, rfl, hy⟩ := hy
  have := hy vs hq
  rw [h3] at this
  cases this
  have e0 : ((0 + i : Nat) : Int) = (i : Nat) := by omega
  rw [e0]
  exact rep_pair hT (.int _) h4
end
/-- what is walked, read -/
def rdI (P : Par) (F : Nat → List D → M D) (W : Nat → Hp → Prop) (b : Bool) (it : Tn.It) : TI := fun σ H R => ∃ env objs m, Rel P σ H env objs m ∧ m .tmp = none ∧
  Post P W σ env m H (iters F it env objs) fun ds objs' => ∀ J H' m', Rel P σ H' env objs' m' → m' .tmp = none → Step m H m' H' → Walks P b σ env m' H' J ds → R J H'
section
variable {X : Cx} {P : Par} {F : Nat → List D → M D} {W : Nat → Hp → Prop} {e a c tg : Expr} {p pa pb pc : E} {pos np : Pos} {b : Bool}
theorem piC {it : Expr} {t t' : TI} (h : PI X tg it t) (k : ∀ σ H R, t' σ H R → t σ H R) : PI X tg it t' := ⟨fun pins s σ H R I q => h.run pins s σ H R I (k σ H R q)⟩
def iAny (K : PySem.W.Frag) (tl : TE) : TI := fun σ H R => tl σ H fun x H1 => ∃ a, x = .ref a ∧ (((∃ xs, SqL K H1 a xs) ∧ R (Itl K a) H1) ∨ ((∃ xs, SqT K H1 a xs) ∧ R (Itt K a) H1))
theorem pi_any {l : Expr} {tl : TE} (hl : PE X l tl) : PI X tg l (iAny X.K tl) := by
  refine ⟨fun pins s σ H R I h => ?_⟩
  refine thn (hl.run pins s σ H _ I h) fun v s1 ⟨x, H1, I1, r1, q1⟩ => ?_
  obtain ⟨a, e, q1⟩ := q1
  subst e
  have go : ∀ {t : TE} {i : TI}, (∀ (σ : L2.St) (Q : VK) (H : Hp), t σ H Q = Q (.ref a) H) → True := fun _ => trivial
  rcases q1 with ⟨⟨xs, hq⟩, q⟩ | ⟨⟨xs, hq⟩, q⟩
  · cases r1
    obtain ⟨its, rv, p, hz⟩ := I1.list hq
    refine wpAny_pyIter_list p.isList ?_
    refine ⟨s1.heap.objs.size, [s1.heap.objs.size], _, _, H1, rfl, I1.kept (t' := s1.toks) fun b o e => Heap.get?_push_of_some _ e, turn_list a _, ⟨_, Heap.get?_push_size _ rfl, rfl, rfl⟩, fun b hb => ?_, q⟩
    have e : b = s1.heap.objs.size := by simpa using hb
    subst e
    exact I1.fpOk (Nat.le_refl _) (I1.hok.fresh (Nat.le_refl _))
  · cases r1
    obtain ⟨its, rv, p, hz⟩ := I1.tuple hq
    refine wpAny_pyIter_tuple (show s1.heap.IsTuple a its.toArray from p) ?_
    refine ⟨s1.heap.objs.size, [s1.heap.objs.size], _, _, H1, rfl, I1.kept (t' := s1.toks) fun b o e => Heap.get?_push_of_some _ e, turn_tuple a _, ⟨_, Heap.get?_push_size _ rfl, rfl, rfl⟩, fun b hb => ?_, q⟩
    have e : b = s1.heap.objs.size := by simpa using hb
    subst e
    exact I1.fpOk (Nat.le_refl _) (I1.hok.fresh (Nat.le_refl _))
theorem rb_of {σ : L2.St} {env : Env} {m : Mp} {H : Hp} {v : V} {d : D} {b : Bool} (r : RB P b σ env m H v d) : RB P b σ env m H v d := r
/-- a reading for a walk -/
abbrev rdB (P : Par) (F : Nat → List D → M D) (W : Nat → Hp → Prop) (b : Bool) : E → TE := rdR P F W (RB P b)
theorem rd_b (h : PE X e (rd P F W p)) : PE X e (rdB P F W b p) := peC h fun σ H Q ⟨env, objs, m, rel, tm, h⟩ => ⟨env, objs, m, rel, tm, h.imp fun d o g v H' m' r' t' s' rr => g v H' m' r' t' s' (.inl rr)⟩
theorem rdO_b (h : PE X e (rdO P F W p)) : PE X e (rdB P F W true p) := peC h fun σ H Q ⟨env, objs, m, rel, tm, h⟩ => ⟨env, objs, m, rel, tm, h.imp fun d o g v H' m' r' t' s' rr => g v H' m' r' t' s' (.inr ⟨rfl, rr⟩)⟩
theorem items_some {d : D} {ds : List D} (h : itemsS d = some ds) : d = .list ds ∨ d = .tuple ds ∨ d = .dict [(.none, .list ds)] := by
  unfold itemsS at h
  split at h
  · cases h; exact .inl rfl
  · cases h; exact .inr (.inl rfl)
  · cases h; exact .inr (.inr rfl)
  · cases h
theorem i_seq (fr : FrX X P) (ha : PE X a (rdB P F W b pa)) : PI X tg a (rdI P F W b (.seq pa)) := by
  refine piC (pi_any ha) fun σ H R ⟨env, objs, m, rel, tm, h⟩ => ?_
  refine rd_seq rel tm h fun v H1 m1 d objs1 rel1 tm1 s1 r1 h1 => ?_
  obtain ⟨ds, ek, g⟩ := Post.lift h1
  rcases items_some ek with rfl | rfl | rfl
  · obtain ⟨ad, vs, rfl, h1, t1⟩ := r1.t.list rel1
    exact ⟨ad, rfl, .inl ⟨⟨vs, .inl h1⟩, g _ H1 m1 rel1 tm1 s1 (walk_list r1)⟩⟩
  · obtain ⟨ad, vs, rfl, h1, t1⟩ := r1.t.tuple
    exact ⟨ad, rfl, .inr ⟨⟨vs, sqT_of h1⟩, g _ H1 m1 rel1 tm1 s1 (walk_tup r1)⟩⟩
  · obtain ⟨ad, vs, rfl, h1, t1⟩ := r1.t.scr
    exact ⟨ad, rfl, .inl ⟨⟨vs, fr.K ▸ h1.sq⟩, g _ H1 m1 rel1 tm1 s1 (fr.K ▸ walk_scr r1)⟩⟩
theorem i_rng1 (fr : FrX X P) (hg : Gl X "range") (hm : X.mg "range" = none) (ok : okE a = true) (ha : PE X a (rd P F W pa)) : PI X tg (.Call (.Name "range" np) [a] [] pos) (rdI P F W b (.rng1 pa)) := by
  refine piC (pi_range1 hg hm (pa_cons ha pa_nil (star_cons ok)) (by rw [star_cons ok]; rfl)) fun σ H R ⟨env, objs, m, rel, tm, h⟩ => ?_
  refine rd_seq rel tm h fun v H1 m1 d objs1 rel1 tm1 s1 r1 h1 => ?_
  obtain ⟨j, ek, h2⟩ := Post.liftB h1
  cases intOf_some ek
  split at h2
  · rename_i hj
    have hj1 := hj.1
    have hj2 := hj.2
    have hbg : (big : Int) = 16777216 := rfl
    exact ⟨j, by rw [r1.intI], by omega, by omega, h2 _ H1 m1 rel1 tm1 s1 (walk_rng 0 _)⟩
  · exact h2.elim
theorem i_rng2 (fr : FrX X P) (hg : Gl X "range") (hm : X.mg "range" = none) (ok : okE a = true) (ok2 : okE c = true) (ha : PE X a (rd P F W pa)) (hc : PE X c (rd P F W pc)) : PI X tg (.Call (.Name "range" np) [a, c] [] pos) (rdI P F W b (.rng2 pa pc)) := by
  refine piC (pi_range2 hg hm (pa_cons ha (pa_cons hc pa_nil (star_cons ok2)) (star_cons ok)) (by rw [star_cons ok, star_cons ok2]; rfl) (by rw [star_cons ok2]; rfl)) fun σ H R ⟨env, objs, m, rel, tm, h⟩ => ?_
  refine rd_seq rel tm h fun v H1 m1 d objs1 rel1 tm1 s1 r1 h1 => rd_seq rel1 tm1 h1 fun w H2 m2 e objs2 rel2 tm2 s2 r2 h2 => ?_
  obtain ⟨i, ei, h3⟩ := Post.liftB h2
  obtain ⟨j, ej, h4⟩ := Post.liftB h3
  cases intOf_some ei
  cases intOf_some ej
  split at h4
  · rename_i hj
    obtain ⟨hj1, hj2, hj3, hj4, hj5⟩ := hj
    have hbg : (big : Int) = 16777216 := rfl
    exact ⟨i, j, by rw [r1.intI, r2.intI], ⟨by omega, by omega, by omega, by omega⟩, h4 _ H2 m2 rel2 tm2 (s1.trans s2) (walk_rng i _)⟩
  · exact h4.elim
theorem i_zip (fr : FrX X P) {elts : List Expr} {kk : Nat} {tp : Pos} (hg : Gl X "zip") (hm : X.mg "zip" = none) (ok : okE a = true) (ok2 : okE c = true) (ha : PE X a (rdB P F W b pa)) (hc : PE X c (rdB P F W b pc)) :
    PI X (.Tuple elts kk tp) (.Call (.Name "zip" np) [a, c] [] pos) (rdI P F W b (.zip2 pa pc)) := by
  refine piC (RZ.pi_zipA hg hm (pa_cons ha (pa_cons hc pa_nil (star_cons ok2)) (star_cons ok)) (star_cons ok) (by rw [star_cons ok2]; rfl)) fun σ H R ⟨env, objs, m, rel, tm, h⟩ => ?_
  refine rd_seq rel tm h fun v H1 m1 d objs1 rel1 tm1 s1 r1 h1 => rd_seq rel1 tm1 h1 fun w H2 m2 e objs2 rel2 tm2 s2 r2 h2 => ?_
  obtain ⟨ds, ek, g⟩ := Post.lift h2
  replace r1 := r1.step s2
  unfold zipD at ek
  split at ek
  · cases ek
    obtain ⟨ad, vs, rfl, h1, t1⟩ := r1.t.list rel2
    obtain ⟨bd, ws, rfl, h1', t1'⟩ := r2.t.list rel2
    exact ⟨ad, bd, vs, ws, rfl, .inl ⟨.inl h1, .inl h1', g _ H2 m2 rel2 tm2 (s1.trans s2) (walk_zipL r1 r2)⟩⟩
  · cases ek
    obtain ⟨ad, vs, rfl, h1, t1⟩ := r1.t.tuple
    obtain ⟨bd, ws, rfl, h1', t1'⟩ := r2.t.tuple
    exact ⟨ad, bd, vs, ws, rfl, .inr ⟨sqT_of h1, sqT_of h1', g _ H2 m2 rel2 tm2 (s1.trans s2) (walk_zipT r1 r2)⟩⟩
  · cases ek
theorem i_enum (fr : FrX X P) {elts : List Expr} {kk : Nat} {tp : Pos} (hg : Gl X "enumerate") (hm : X.mg "enumerate" = none) (ok : okE a = true) (ha : PE X a (rdB P F W b pa)) :
    PI X (.Tuple elts kk tp) (.Call (.Name "enumerate" np) [a] [] pos) (rdI P F W b (.enum pa)) := by
  refine piC (pi_enum hg hm (pa_cons ha pa_nil (star_cons ok)) (by rw [star_cons ok]; rfl)) fun σ H R ⟨env, objs, m, rel, tm, h⟩ => ?_
  refine rd_seq rel tm h fun v H1 m1 d objs1 rel1 tm1 s1 r1 h1 => ?_
  obtain ⟨ds, ek, g⟩ := Post.lift h1
  unfold enumD at ek
  split at ek
  · cases ek
    obtain ⟨ad, vs, rfl, h1, t1⟩ := r1.t.list rel1
    exact ⟨ad, vs, rfl, .inl h1, g _ H1 m1 rel1 tm1 s1 (walk_enum r1)⟩
  · cases ek
end
end Tn
set_option Elab.async false
set_option linter.all false
set_option maxRecDepth 100000
set_option maxHeartbeats 4000000
namespace Tn
open PySem PySem.Spec PyProof.Rows L2
/-! ### targets -/
def rdG (P : Par) (tg : Tg) : TG := fun v σ H Q => ∃ env objs m d env', Rel P σ H env objs m ∧ Rep P m H v d ∧ asg tg d env = some env' ∧
  ∀ σ', Rel P σ' H env' objs m → (∀ j, j ∉ ixs tg → σ'[j]? = σ[j]? ∧ env'[j]? = env[j]?) → Q σ' H
def rdGs (P : Par) (tg : Tgs) : TGs := fun vs σ H Q => ∃ env objs m ds env', Rel P σ H env objs m ∧ RepAll P m H vs ds ∧ asgs tg ds env = some env' ∧
  ∀ σ', Rel P σ' H env' objs m → (∀ j, j ∉ ixss tg → σ'[j]? = σ[j]? ∧ env'[j]? = env[j]?) → Q σ' H
section
variable {X : Cx} {P : Par} {pos : Pos}
theorem pgC {tg : Expr} {t t' : TG} (h : PG X tg t) (k : ∀ v σ H Q, t' v σ H Q → t v σ H Q) : PG X tg t' := ⟨fun pins s σ H v u Q I r q => h.run pins s σ H v u Q I r (k v σ H Q q)⟩
theorem pgsC {tg : List Expr} {t t' : TGs} (h : PGs X tg t) (k : ∀ v σ H Q, t' v σ H Q → t v σ H Q) : PGs X tg t' := ⟨fun pins s σ H v u Q I r q => h.run pins s σ H v u Q I r (k v σ H Q q)⟩
theorem rel_set {σ : L2.St} {H : Hp} {env : Env} {objs : Objs} {m : Mp} (R : Rel P σ H env objs m) {i : Nat} {v : V} {d : D} (r : Rep P m H v d) : Rel P (σ.set i (some v)) H (env.set i (some (.v d))) objs m := by
  refine ⟨R.toRelO, by rw [List.length_set, List.length_set]; exact R.len, fun j c e => ?_⟩
  by_cases hj : i = j
  · subst hj
    have hl : i < env.length := by
      have := (List.getElem?_eq_some_iff.mp e).1
      rwa [List.length_set] at this
    rw [List.getElem?_set_self hl] at e
    cases e
    exact ⟨v, by rw [List.getElem?_set_self (by rw [R.len]; exact hl)], r⟩
  · rw [List.getElem?_set_ne hj] at e
    have h := R.slot j c e
    cases c with
    | v d => obtain ⟨w, e1, r⟩ := h; exact ⟨w, by rw [List.getElem?_set_ne hj]; exact e1, r⟩
    | own xs => obtain ⟨a, ws, e1, e2, e3, r⟩ := h; exact ⟨a, ws, e1, by rw [List.getElem?_set_ne hj]; exact e2, e3, r⟩
    | dic kvs => obtain ⟨a, ws, e1, e2, e3, e4, r⟩ := h; exact ⟨a, ws, e1, by rw [List.getElem?_set_ne hj]; exact e2, e3, e4, r⟩
theorem g_name (fr : FrX X P) {i : Nat} {x : Str} (hi : X.N[i]? = some x) (hx : Loc X.env.scope x) (hf : X.fn x = true ∨ X.env.scope.names.lookup x = some .local) : PG X (.Name x pos) (rdG P (.nm i)) := by
  refine pgC (pg_name fr.nd hi hx hf) fun v σ H Q ⟨env, objs, m, d, env', rel, r, ea, k⟩ => ?_
  unfold asg at ea
  split at ea
  · cases ea
    exact k _ (rel_set rel r) fun j hj => by
      have : i ≠ j := fun z => hj (by simp [ixs, z])
      rw [List.getElem?_set_ne this, List.getElem?_set_ne this]
      exact ⟨rfl, rfl⟩
  · cases ea
theorem gs_nil : PGs X [] (rdGs P .nil) := by
  refine pgsC pgs_nil fun vs σ H Q ⟨env, objs, m, ds, env', rel, r, ea, k⟩ => ?_
  unfold asgs at ea
  split at ea
  · cases ea
    cases r
    exact ⟨rfl, k σ rel fun _ _ => ⟨rfl, rfl⟩⟩
  · rename_i h
    cases h
  · cases ea
theorem gs_cons {e : Expr} {es : List Expr} {t : Tg} {ts : Tgs} (h1 : PG X e (rdG P t)) (h2 : PGs X es (rdGs P ts)) (hs : (assignEach (e :: es) X.env).map (·.2) = assign e X.env :: (assignEach es X.env).map (·.2)) : PGs X (e :: es) (rdGs P (.cons t ts)) := by
  refine pgsC (pgs_cons h1 h2 hs) fun vs σ H Q ⟨env, objs, m, ds, env', rel, r, ea, k⟩ => ?_
  cases ds with
  | nil => unfold asgs at ea; cases ea
  | cons d ds =>
    unfold asgs at ea
    obtain ⟨e1, h3, h4⟩ := Option.bind_eq_some_iff.mp ea
    cases r with
    | cons r0 rs =>
      refine ⟨_, _, rfl, env, objs, m, d, e1, rel, r0, h3, fun σ1 rel1 o1 => ⟨e1, objs, m, ds, env', rel1, rs, h4, fun σ2 rel2 o2 => k σ2 rel2 fun j hj => ?_⟩⟩
      have hj1 : j ∉ ixs t := fun z => hj (by simp [ixss, z])
      have hj2 : j ∉ ixss ts := fun z => hj (by simp [ixss, z])
      exact ⟨(o2 j hj2).1.trans (o1 j hj1).1, (o2 j hj2).2.trans (o1 j hj1).2⟩
theorem g_tup (fr : FrX X P) {es : List Expr} {k : Nat} {ts : Tgs} (h : PGs X es (rdGs P ts)) (hst : (assignEach es X.env).findIdx? (·.1) = none) (hl : ∀ env ds env', asgs ts ds env = some env' → ds.length = (assignEach es X.env).length) : PG X (.Tuple es k pos) (rdG P (.tp ts)) := by
  refine pgC (pg_tup fr.calm h rfl hst) fun v σ H Q ⟨env, objs, m, d, env', rel, r, ea, k⟩ => ?_
  unfold asg at ea
  split at ea
  · rename_i ds
    obtain ⟨a, vs, rfl, h1, t1⟩ := r.tuple
    exact ⟨a, vs, rfl, sqT_of h1, t1.len.trans (hl _ _ _ ea), env, objs, m, ds, env', rel, t1, ea, k⟩
  · cases ea
end
mutual
theorem asg_len : ∀ (t : Tg) (d : PyData) (env env' : Env), asg t d env = some env' → env'.length = env.length
  | .nm i, d, env, env', h => by
    unfold asg at h
    split at h
    · cases h; rw [List.length_set]
    · cases h
  | .tp ts, d, env, env', h => by
    unfold asg at h
    split at h
    · exact asgs_len ts _ env env' h
    · cases h
theorem asgs_len : ∀ (t : Tgs) (d : List PyData) (env env' : Env), asgs t d env = some env' → env'.length = env.length
  | .nil, d, env, env', h => by
    cases d with
    | nil => unfold asgs at h; cases h; rfl
    | cons _ _ => unfold asgs at h; cases h
  | .cons t ts, d, env, env', h => by
    cases d with
    | nil => unfold asgs at h; cases h
    | cons d ds =>
      unfold asgs at h
      obtain ⟨e1, h3, h4⟩ := Option.bind_eq_some_iff.mp h
      exact (asgs_len ts _ e1 env' h4).trans (asg_len t _ env e1 h3)
end
/-! ### names put aside -/
section
variable {P : Par} {m m' : Mp} {H H' : Hp} {σ σ2 : L2.St} {env env2 : Env} {objs objs2 : Objs} {vs : List Nat}
theorem wipeE_len (env : Env) : ∀ vs : List Nat, (wipeE env vs).length = env.length
  | [] => rfl
  | v :: vs => by unfold wipeE; rw [List.length_set, wipeE_len env vs]
theorem wipeE_some {env : Env} {i : Nat} {x : Cell} : ∀ {vs : List Nat}, (wipeE env vs)[i]? = some (some x) → env[i]? = some (some x) ∧ i ∉ vs
  | [], h => ⟨h, by simp⟩
  | v :: vs, h => by
    unfold wipeE at h
    by_cases e : v = i
    · subst e
      rw [List.getElem?_set_self'] at h
      cases q : (wipeE env vs)[v]? with
      | none => rw [q] at h; simp at h
      | some y => rw [q] at h; simp at h
    · rw [List.getElem?_set_ne e] at h
      obtain ⟨h1, h2⟩ := wipeE_some h
      exact ⟨h1, by simp [h2]; exact fun z => e z.symm⟩
theorem wipeE_out {env : Env} {i : Nat} : ∀ {vs : List Nat}, i ∉ vs → (wipeE env vs)[i]? = env[i]?
  | [], _ => rfl
  | v :: vs, h => by
    have h1 : v ≠ i := fun e => h (by rw [e]; exact List.mem_cons_self)
    have h2 : i ∉ vs := fun e => h (List.mem_cons_of_mem _ e)
    unfold wipeE
    rw [List.getElem?_set_ne h1, wipeE_out h2]
theorem wipe_in {σ : L2.St} {i : Nat} : ∀ {vs : List Nat}, i ∈ vs → i < σ.length → (wipe σ vs)[i]? = some none
  | [], h, _ => by simp at h
  | v :: vs, h, hl => by
    unfold wipe
    by_cases e : v = i
    · subst e
      rw [List.getElem?_set_self (by rw [wipe_length]; exact hl)]
    · rw [List.getElem?_set_ne e]
      exact wipe_in (by rcases List.mem_cons.mp h with z | z; exact absurd z.symm e; exact z) hl
theorem wipe_eq {σ σ2 : L2.St} {vs : List Nat} (hl : σ2.length = σ.length) (h : ∀ j, j ∉ vs → σ2[j]? = σ[j]?) : wipe σ2 vs = wipe σ vs := by
  apply List.ext_getElem?
  intro j
  by_cases hj : j ∈ vs
  · by_cases hlt : j < σ.length
    · rw [wipe_in hj hlt, wipe_in hj (by omega)]
    · rw [List.getElem?_eq_none (by rw [wipe_length]; omega), List.getElem?_eq_none (by rw [wipe_length]; omega)]
  · rw [wipe_out hj, wipe_out hj]
    exact h j hj
theorem slotR_of {i : Nat} {c : Cell} (h : σ2[i]? = σ[i]?) (s : SlotR P m H σ i c) : SlotR P m H σ2 i c := by
  cases c with
  | v d => obtain ⟨w, e1, r⟩ := s; exact ⟨w, by rw [h]; exact e1, r⟩
  | own xs => obtain ⟨a, ws, e1, e2, e3, r⟩ := s; exact ⟨a, ws, e1, by rw [h]; exact e2, e3, r⟩
  | dic kvs => obtain ⟨a, ws, e1, e2, e3, e4, r⟩ := s; exact ⟨a, ws, e1, by rw [h]; exact e2, e3, e4, r⟩
theorem rel_wipe (R : Rel P σ H env objs m) (vs : List Nat) : Rel P (wipe σ vs) H (wipeE env vs) objs m :=
  ⟨R.toRelO, by rw [wipe_length, wipeE_len]; exact R.len, fun i c e => by
    obtain ⟨h1, h2⟩ := wipeE_some e
    exact slotR_of (wipe_out h2) (R.slot i c h1)⟩
/-- behind a turn -/
theorem rel_back (R : Rel P σ H env objs m) (st : Step m H m' H') (cl : clearE env vs = true) (R2 : Rel P σ2 H' env2 objs2 m') (h : ∀ j, j ∉ vs → σ2[j]? = σ[j]? ∧ env2[j]? = env[j]?) : Rel P σ H' env objs2 m' := by
  refine ⟨R2.toRelO, R.len, fun i c e => ?_⟩
  by_cases hi : i ∈ vs
  · have := List.all_eq_true.mp cl i hi
    have h7 := R.slot i c e
    cases c with
    | v d => obtain ⟨w, e1, r⟩ := h7; exact ⟨w, e1, r.step st⟩
    | own xs => rw [e] at this; cases this
    | dic kvs => rw [e] at this; cases this
  · exact slotR_of (h i hi).1.symm (R2.slot i c (by rw [(h i hi).2]; exact e))
/-! ### a list in the making, put out of sight -/
def PD (P : Par) (D : Addr) : Par := ⟨P.K, fun a => P.O a ∨ a = D, P.kinds⟩
theorem av_pd {D : Addr} (tm : m .tmp = none) {a : Addr} : AV (PD P D) m a ↔ AV P (mset m .tmp (some D)) a := by
  constructor
  · rintro ((h | h) | ⟨k, h⟩)
    · exact .inl h
    · subst h; exact .inr ⟨.tmp, mset_same⟩
    · refine .inr ⟨k, ?_⟩
      rw [mset_ne (fun z => by subst z; rw [tm] at h; cases h)]
      exact h
  · rintro (h | ⟨k, h⟩)
    · exact .inl (.inl h)
    · by_cases hk : k = .tmp
      · subst hk
        rw [mset_same] at h
        cases h
        exact .inl (.inr rfl)
      · rw [mset_ne hk] at h
        exact .inr ⟨k, h⟩
theorem mset_tmp {D : Addr} {k : Ky} {a : Addr} (tm : m .tmp = none) (h : m k = some a) : mset m .tmp (some D) k = some a := by
  rw [mset_ne (fun z => by subst z; rw [tm] at h; cases h)]
  exact h
theorem Rep.pd {D : Addr} (tm : m .tmp = none) {v : V} {d : PyData} (r : Rep P (mset m .tmp (some D)) H v d) : Rep (PD P D) m H v d :=
  Rep.less (P := P) (m := mset m .tmp (some D)) (P' := PD P D) (m' := m) rfl (fun _ h => (av_pd tm).mp h) (fun k a h => by rw [mset_ne (by intro z; cases z)] at h; exact h) r
theorem RepAll.pd {D : Addr} (tm : m .tmp = none) {v : List V} {d : List PyData} (r : RepAll P (mset m .tmp (some D)) H v d) : RepAll (PD P D) m H v d :=
  RepAll.less (P := P) (m := mset m .tmp (some D)) (P' := PD P D) (m' := m) rfl (fun _ h => (av_pd tm).mp h) (fun k a h => by rw [mset_ne (by intro z; cases z)] at h; exact h) r
theorem Rep.unpd {D : Addr} (tm : m .tmp = none) {v : V} {d : PyData} (r : Rep (PD P D) m H v d) : Rep P (mset m .tmp (some D)) H v d :=
  Rep.less (P := PD P D) (m := m) (P' := P) (m' := mset m .tmp (some D)) rfl (fun _ h => (av_pd tm).mpr h) (fun k a h => mset_tmp tm h) r
theorem RepAll.unpd {D : Addr} (tm : m .tmp = none) {v : List V} {d : List PyData} (r : RepAll (PD P D) m H v d) : RepAll P (mset m .tmp (some D)) H v d :=
  RepAll.less (P := PD P D) (m := m) (P' := P) (m' := mset m .tmp (some D)) rfl (fun _ h => (av_pd tm).mpr h) (fun k a h => mset_tmp tm h) r
theorem mset_src {D : Addr} {k : Ky} {a : Addr} (h : mset m .tmp (some D) k = some a) : (k = .tmp ∧ a = D) ∨ m k = some a := by
  by_cases hk : k = .tmp
  · subst hk; rw [mset_same] at h; cases h; exact .inl ⟨rfl, rfl⟩
  · rw [mset_ne hk] at h; exact .inr h
theorem rel_in {D : Addr} (tm : m .tmp = none) (R : Rel P σ H env objs (mset m .tmp (some D))) : Rel (PD P D) σ H env objs m := by
  refine ⟨⟨fun k k' a e e' => R.inj k k' a (mset_tmp tm e) (mset_tmp tm e'), fun k a e => ?_, fun k a e => R.alive k a (mset_tmp tm e), fun a e => ?_, fun n s e => ?_, fun n e => ?_⟩, R.len, fun i c e => ?_⟩
  · rintro (z | z)
    · exact R.dis k a (mset_tmp tm e) z
    · subst z
      have := R.inj k .tmp a (mset_tmp tm e) mset_same
      subst this
      rw [tm] at e; cases e
  · rcases e with e | e
    · exact R.oal a e
    · subst e
      obtain ⟨o, h, _⟩ := R.alive .tmp a mset_same
      exact ⟨o, h⟩
  · obtain ⟨a, ks, ws, h1, h2, h3, h4, h5, h6⟩ := R.obs n s e
    rw [mset_ne (by intro z; cases z)] at h1
    refine ⟨a, ks, ws, h1, h2, h3, h4, h5, fun j c hc => ?_⟩
    have h7 := h6 j c hc
    cases c with
    | v d => obtain ⟨v, e1, r⟩ := h7; exact ⟨v, e1, r.pd tm⟩
    | own xs => obtain ⟨b, ws, e1, e2, e3, r⟩ := h7; exact ⟨b, ws, by rw [mset_ne (by intro z; cases z)] at e1; exact e1, e2, e3, r.pd tm⟩
    | dic kvs => exact h7
  · have := R.obn n e
    rwa [mset_ne (by intro z; cases z)] at this
  · have h7 := R.slot i c e
    cases c with
    | v d => obtain ⟨v, e1, r⟩ := h7; exact ⟨v, e1, r.pd tm⟩
    | own xs => obtain ⟨b, ws, e1, e2, e3, r⟩ := h7; exact ⟨b, ws, by rw [mset_ne (by intro z; cases z)] at e1; exact e1, e2, e3, r.pd tm⟩
    | dic kvs => obtain ⟨b, ws, e1, e2, e3, e4, r⟩ := h7; exact ⟨b, ws, by rw [mset_ne (by intro z; cases z)] at e1; exact e1, e2, e3, e4, r.pd tm⟩
theorem rel_out {D : Addr} (tm : m .tmp = none) (R : Rel (PD P D) σ H env objs m) {o : HO} (hD : H D = some o) (mu : Mu o) (nO : ¬ P.O D) : Rel P σ H env objs (mset m .tmp (some D)) := by
  have nd : ∀ k a, m k = some a → a ≠ D := fun k a e z => R.dis k a e (.inr z)
  refine ⟨⟨fun k k' a e e' => ?_, fun k a e => ?_, fun k a e => ?_, fun a e => R.oal a (.inl e), fun n s e => ?_, fun n e => ?_⟩, R.len, fun i c e => ?_⟩
  · rcases mset_src e with ⟨rfl, rfl⟩ | e1
    · rcases mset_src e' with ⟨rfl, h⟩ | e2
      · rfl
      · exact absurd rfl (nd _ _ e2)
    · rcases mset_src e' with ⟨rfl, rfl⟩ | e2
      · exact absurd rfl (nd _ _ e1)
      · exact R.inj _ _ _ e1 e2
  · rcases mset_src e with ⟨rfl, rfl⟩ | e1
    · exact nO
    · exact fun z => R.dis k a e1 (.inl z)
  · rcases mset_src e with ⟨rfl, rfl⟩ | e1
    · exact ⟨o, hD, mu⟩
    · exact R.alive k a e1
  · obtain ⟨a, ks, ws, h1, h2, h3, h4, h5, h6⟩ := R.obs n s e
    refine ⟨a, ks, ws, mset_tmp tm h1, h2, h3, h4, h5, fun j c hc => ?_⟩
    have h7 := h6 j c hc
    cases c with
    | v d => obtain ⟨v, e1, r⟩ := h7; exact ⟨v, e1, r.unpd tm⟩
    | own xs => obtain ⟨b, ws, e1, e2, e3, r⟩ := h7; exact ⟨b, ws, mset_tmp tm e1, e2, e3, r.unpd tm⟩
    | dic kvs => exact h7
  · rw [mset_ne (by intro z; cases z)]
    exact R.obn n e
  · have h7 := R.slot i c e
    cases c with
    | v d => obtain ⟨v, e1, r⟩ := h7; exact ⟨v, e1, r.unpd tm⟩
    | own xs => obtain ⟨b, ws, e1, e2, e3, r⟩ := h7; exact ⟨b, ws, mset_tmp tm e1, e2, e3, r.unpd tm⟩
    | dic kvs => obtain ⟨b, ws, e1, e2, e3, e4, r⟩ := h7; exact ⟨b, ws, mset_tmp tm e1, e2, e3, e4, r.unpd tm⟩
theorem step_pd {D : Addr} (tm : m .tmp = none) (tm' : m' .tmp = none) (s : Step m H m' H') : Step (mset m .tmp (some D)) H (mset m' .tmp (some D)) H' := by
  refine ⟨fun a o h n => s.keep a o h fun k e => n k (mset_tmp tm e), s.fix, fun k a e => ?_, fun k a e => ?_⟩
  · rcases mset_src e with ⟨rfl, rfl⟩ | e1
    · exact .inl ⟨.tmp, mset_same⟩
    · rcases s.new k a e1 with ⟨k', h⟩ | h
      · exact .inl ⟨k', mset_tmp tm h⟩
      · exact .inr h
  · rw [mset_ne (by intro z; cases z)] at e ⊢
    exact s.ob k a e
/-- a list in the making grows -/
theorem rel_grow {D : Addr} {ws ws' : List V} (tm : m .tmp = none) (R : Rel P σ H env objs (mset m .tmp (some D))) (hD : H D = some (.lst ws)) : Rel P σ (upd H D (.lst ws')) env objs (mset m .tmp (some D)) ∧ Step (mset m .tmp (some D)) H (mset m .tmp (some D)) (upd H D (.lst ws')) := by
  have hk : mset m .tmp (some D) .tmp = some D := mset_same
  have st := step_upd (o' := .lst ws') hk hD trivial
  refine ⟨⟨relO_upd R.toRelO (o' := .lst ws') hk hD trivial trivial rfl fun k s h => .inl ⟨h, (by intro z; cases z), fun j => by intro z; cases z⟩, R.len, fun i c e => slotR_upd R.toRelO hk hD trivial (by intro z; cases z) (R.slot i c e)⟩, st⟩
end
end Tn
set_option Elab.async false
set_option linter.all false
set_option maxRecDepth 100000
set_option maxHeartbeats 4000000
namespace Tn
open PySem PySem.Spec PyProof.Rows L2
def rdC (P : Par) (F : Nat → List D → M D) (W : Nat → Hp → Prop) (c : Oe) : TT := fun σ H Q => ∃ env objs m, Rel P σ H env objs m ∧ m .tmp = none ∧
  Post P W σ env m H (evc F c env objs) fun b objs' => ∀ H' m', Rel P σ H' env objs' m' → m' .tmp = none → Step m H m' H' → Q b H'
section
variable {X : Cx} {P : Par} {F : Nat → List D → M D} {W : Nat → Hp → Prop} {pos : Pos}
theorem pg_ex {ι : Type} {tg : Expr} {t : ι → TG} (h : ∀ i, PG X tg (t i)) : PG X tg (fun v σ H Q => ∃ i, t i v σ H Q) := ⟨fun pins s σ H v u Q I r ⟨i, q⟩ => (h i).run pins s σ H v u Q I r q⟩
theorem pe_ex {ι : Type} {e : Expr} {t : ι → TE} (h : ∀ i, PE X e (t i)) : PE X e (fun σ H Q => ∃ i, t i σ H Q) := ⟨fun pins s σ H Q I ⟨i, q⟩ => (h i).run pins s σ H Q I q⟩
theorem pts_ex {ι : Type} {e : List Expr} {t : ι → TT} (h : ∀ i, PTs X e (t i)) : PTs X e (fun σ H Q => ∃ i, t i σ H Q) := ⟨fun pins s σ H Q I ⟨i, q⟩ => (h i).run pins s σ H Q I q⟩
theorem pi_ex {ι : Type} {e tg : Expr} {t : ι → TI} (h : ∀ i, PI X tg e (t i)) : PI X tg e (fun σ H Q => ∃ i, t i σ H Q) := ⟨fun pins s σ H Q I ⟨i, q⟩ => (h i).run pins s σ H Q I q⟩
theorem c_none : PTs X [] (rdC P F W .none) := ⟨fun pins s σ H Q I ⟨env, objs, m, rel, tm, h⟩ => pts_nil.run pins s σ H Q I (h H m rel tm Step.refl)⟩
theorem c_some {c : Expr} {p : E} (h : PT X c (rdT P F W p)) : PTs X [c] (rdC P F W (.some p)) := ⟨fun pins s σ H Q I q => (pts_one h).run pins s σ H Q I q⟩
theorem Post.noex {α : Type} {σ : L2.St} {env : Env} {m : Mp} {H : Hp} {objs : Objs} {β : Type} {x : M α} {f : α → M β} {G : β → Objs → Prop} (h : Post P W σ env m H (M.bind (M.noex x) f objs) G) : ∃ a o, x objs = some (.ok a o) ∧ Post P W σ env m H (f a o) G := by
  unfold M.noex M.bind at h
  cases e : x objs with
  | none => simp only [e] at h; exact h.elim
  | some r =>
    cases r with
    | ok a o => simp only [e] at h; exact ⟨a, o, rfl, h⟩
    | ex c o => simp only [e] at h; exact h.elim
theorem Post.guard {σ : L2.St} {env : Env} {m : Mp} {H : Hp} {objs : Objs} {β : Type} {b : Bool} {f : Unit → M β} {G : β → Objs → Prop} (h : Post P W σ env m H (M.bind (guardB b) f objs) G) : b = true ∧ Post P W σ env m H (f () objs) G := by
  cases b with
  | true => exact ⟨rfl, h⟩
  | false => exact h.elim
theorem M.bind_guard {β : Type} {b : Bool} {f : Unit → M β} {o o' : Objs} {r : β} (h : M.bind (guardB b) f o = some (.ok r o')) : b = true ∧ f () o = some (.ok r o') := by
  cases b with
  | true => exact ⟨rfl, h⟩
  | false => cases h
theorem M.bind_lift {α β : Type} {x : Option α} {f : α → M β} {o o' : Objs} {r : β} (h : M.bind (M.lift x) f o = some (.ok r o')) : ∃ a, x = some a ∧ f a o = some (.ok r o') := by
  cases x with
  | none => cases h
  | some a => exact ⟨a, rfl, h⟩
theorem rdI_seq {b : Bool} {it : Tn.It} {α : Type} {f : List D → M α} {σ : L2.St} {env : Env} {m : Mp} {H : Hp} {objs : Objs} {G : α → Objs → Prop} {R : L2.It → Hp → Prop} (rel : Rel P σ H env objs m) (tm : m .tmp = none)
    (h : Post P W σ env m H (M.bind (iters F it env) f objs) G)
    (k : ∀ J H1 m1 ds objs1, Rel P σ H1 env objs1 m1 → m1 .tmp = none → Step m H m1 H1 → Walks P b σ env m1 H1 J ds → Post P W σ env m1 H1 (f ds objs1) G → R J H1) : rdI P F W b it σ H R := by
  refine ⟨env, objs, m, rel, tm, ?_⟩
  cases e : iters F it env objs with
  | none => rw [M.bind_none e] at h; exact h
  | some r =>
    cases r with
    | ok d o =>
      rw [M.bind_ok e] at h
      exact fun J H' m' rel' tm' s w => k J H' m' d o rel' tm' s w (Post.later (m := m) (H := H) s h)
    | ex c o => rw [M.bind_ex e] at h; exact h
/-- what one turn gives, what is gathered so far -/
structure CompI (P : Par) (σ : L2.St) (env : Env) (D : Addr) (m1 : Mp) (H1 : Hp) (objs' : Objs) (acc : List PyData) (H : Hp) : Prop where
  ex : ∃ (m' : Mp) (ws : List V), m' .tmp = none ∧ Rel P σ H env objs' (mset m' .tmp (some D)) ∧ H D = some (.lst ws) ∧ RepAll P (mset m' .tmp (some D)) H ws acc ∧
    Step (mset m1 .tmp (some D)) (upd H1 D (.lst [])) (mset m' .tmp (some D)) H
theorem comp_start {σ : L2.St} {env : Env} {D : Addr} {m1 : Mp} {H1 : Hp} {objs1 : Objs} (rel : Rel P σ H1 env objs1 m1) (tm : m1 .tmp = none) (hD : H1 D = none) : CompI P σ env D m1 H1 objs1 [] (upd H1 D (.lst [])) := by
  have hm : ∀ k, k ≠ Ky.tmp → mset m1 .tmp (some D) k = m1 k := fun k hk => mset_ne hk
  have ht : ∀ a, mset m1 .tmp (some D) .tmp = some a → (H1 a = none ∧ ∃ o, upd H1 D (.lst []) a = some o ∧ Mu o) ∨ m1 .tmp = some a := fun a z => by
    rw [mset_same] at z
    cases z
    exact .inl ⟨hD, _, upd_same, trivial⟩
  exact ⟨m1, [], tm, rel.more (keeps_upd hD) hm ht, upd_same, .nil, Step.refl⟩
theorem comp_step0 {σ : L2.St} {env : Env} {D : Addr} {m1 : Mp} {H1 : Hp} {objs1 : Objs} (rel : RelO P H1 objs1 m1) (tm : m1 .tmp = none) (hD : H1 D = none) : Step m1 H1 (mset m1 .tmp (some D)) (upd H1 D (.lst [])) :=
  step_more rel (keeps_upd hD) (fun k hk => mset_ne hk) fun a z => by
    rw [mset_same] at z
    cases z
    exact .inl ⟨hD, _, upd_same, trivial⟩
theorem comp_grow {σ : L2.St} {env : Env} {D : Addr} {m1 m2 : Mp} {H1 H2 : Hp} {objs2 : Objs} {acc : List PyData} {y : V} {d : PyData} {ws : List V} (tm : m2 .tmp = none) (R : Rel P σ H2 env objs2 (mset m2 .tmp (some D))) (hD : H2 D = some (.lst ws)) (ra : RepAll P (mset m2 .tmp (some D)) H2 ws acc)
    (st : Step (mset m1 .tmp (some D)) (upd H1 D (.lst [])) (mset m2 .tmp (some D)) H2) (r : Rep P (mset m2 .tmp (some D)) H2 y d) : CompI P σ env D m1 H1 objs2 (acc ++ [d]) (upd H2 D (.lst (ws ++ [y]))) := by
  obtain ⟨R2, s2⟩ := rel_grow (ws' := ws ++ [y]) tm R hD
  exact ⟨m2, ws ++ [y], tm, R2, upd_same, (ra.app (.cons r .nil)).step s2, st.trans s2⟩
theorem wipe_wipe {σ σ2 : L2.St} {vs : List Nat} (hl : σ2.length = σ.length) (h : ∀ j, j ∉ vs → σ2[j]? = (wipe σ vs)[j]?) : wipe σ2 vs = wipe σ vs :=
  wipe_eq hl fun j hj => (h j hj).trans (wipe_out hj)
theorem comp_imp {p : E} {tgI : Tg} {it : Tn.It} {c : Oe} {vs : List Nat} (hsub : ∀ j, j ∈ ixs tgI → j ∈ vs) : ∀ σ H Q, rdF P F W (.comp vs p tgI it c) σ H Q →
    tLc (rdI P F W true it) (fun v σ H Q => ∃ D, rdG (PD P D) tgI v σ H Q) (fun σ H Q => ∃ D, rdC (PD P D) F (fun _ _ => False) c σ H Q) (fun σ H Q => ∃ D, rd (PD P D) F (fun _ _ => False) p σ H Q) vs σ H Q := by
  intro σ H Q ⟨env, objs, m, rel, tm, h⟩
  refine rdI_seq rel tm h fun J H1 m1 ds objs1 rel1 tm1 s1 wk h1 => ?_
  intro D hD
  obtain ⟨cl, h2⟩ := Post.guard h1
  obtain ⟨R, oF, hc, h3⟩ := Post.noex h2
  have hbig : R.length ≤ big := by
    by_cases q : R.length ≤ big
    · exact q
    · rw [if_neg q] at h3; exact h3.elim
  rw [if_pos hbig] at h3
  obtain ⟨ds', e', g⟩ := h3
  cases e'
  have nO : ¬ P.O D := rel1.toRelO.freeO hD
  generalize hf : (fun d => M.bind (M.lift (asg tgI d (wipeE env vs))) fun e => M.bind (evc F c e) fun t => if t = true then M.bind (ev F p e) fun y => M.pure (some y) else M.pure none) = f at hc
  refine ⟨fun i k H => k = ds.length - i ∧ i ≤ ds.length ∧ ∃ objs' acc rest, CompI P σ env D m1 H1 objs' acc H ∧ collect f (ds.drop i) objs' = some (.ok rest oF) ∧ acc ++ rest = R, ⟨ds.length, by simp, Nat.zero_le _, objs1, [], R, comp_start rel1 tm1 hD, hc, rfl⟩, ?_⟩
  rintro i k H2 ⟨rfl, hi, objs2, acc, rest, ⟨m2, ws, tm2, rel2, hD2, ra2, st2⟩, hc2, hR⟩
  have stp : Step m1 H1 (mset m2 .tmp (some D)) H2 := (comp_step0 (σ := σ) (env := env) rel1.toRelO tm1 hD).trans st2
  have wk2 := wk P σ env objs2 _ H2 rfl rel2 (fun v d r => r.t.step stp) i
  by_cases hlt : i < ds.length
  · have hd : ds[i]? = some ds[i] := List.getElem?_eq_getElem hlt
    obtain ⟨hgo, hy⟩ := wk2.2 _ hd
    rw [List.drop_eq_getElem_cons hlt] at hc2
    have hc2 : M.bind (f ds[i]) (fun y => M.bind (collect f (ds.drop (i + 1))) fun ys => M.pure (oc y ys)) objs2 = some (.ok rest oF) := hc2
    obtain ⟨y, o3, hfd, hc3⟩ := M.bind_some hc2
    obtain ⟨ys, o4, hc4, hc5⟩ := M.bind_some hc3
    have ho : o4 = oF := by cases hc5; rfl
    subst ho
    have hrest : rest = (oc y ys) := by cases hc5; rfl
    clear hc5 hc3 hc2
    refine .inr ⟨hgo, fun H' => i + 1 ≤ ds.length ∧ ∃ objs' acc rest, CompI P σ env D m1 H1 objs' acc H' ∧ collect f (ds.drop (i + 1)) objs' = some (.ok rest o4) ∧ acc ++ rest = R, fun H' hn => ⟨_, by omega, rfl, hn⟩, fun x H3 hyl => ?_⟩
    obtain ⟨kp, rx⟩ := hy x H3 hyl
    have rel3 := rel2.keeps kp
    have ra3 := ra2.step kp.step
    have st3 := st2.trans kp.step
    rw [← hf] at hfd
    obtain ⟨env', ea, hfd⟩ := M.bind_lift hfd
    refine ⟨D, wipeE env vs, objs2, m2, ds[i], env', rel_in tm2 (rel_wipe rel3 vs), rx.pd tm2, ea, fun σ2 relA hfr => ?_⟩
    have hl2 : σ2.length = σ.length := by
      have h1 := relA.len
      have h2 := rel1.len
      rw [h1, h2]
      exact (asg_len tgI _ _ _ ea).trans (wipeE_len env vs)
    have fr2 : ∀ j, j ∉ vs → σ2[j]? = σ[j]? ∧ env'[j]? = env[j]? := fun j hj => by
      obtain ⟨h1, h2⟩ := hfr j fun z => hj (hsub j z)
      exact ⟨h1.trans (wipe_out hj), h2.trans (wipeE_out hj)⟩
    refine ⟨wipe_eq hl2 fun j hj => (fr2 j hj).1, D, env', objs2, m2, relA, tm2, ?_⟩
    obtain ⟨t, oT, hT, hfd⟩ := M.bind_some hfd
    rw [hT]
    intro H4 m4 rel4 tm4 s4
    have hD4 : H4 D = some (.lst ws) := s4.keep D _ (kp _ _ hD2) fun k e => relA.dis k D e (.inr rfl)
    have sp4 := step_pd (D := D) tm2 tm4 s4
    cases t with
    | false =>
      have : y = none ∧ o3 = oT := by cases hfd; exact ⟨rfl, rfl⟩
      obtain ⟨rfl, rfl⟩ := this
      rw [if_neg (by simp)]
      refine ⟨hlt, o3, acc, ys, ⟨m4, ws, tm4, ?_, hD4, ra3.step sp4, st3.trans sp4⟩, hc4, by rw [← hR, hrest]; rfl⟩
      exact rel_back rel3 sp4 cl (rel_out tm4 rel4 hD4 trivial nO) fr2
    | true =>
      rw [if_pos rfl] at hfd ⊢
      obtain ⟨d, o5, hE, hfd⟩ := M.bind_some hfd
      have : y = some d ∧ o3 = o5 := by cases hfd; exact ⟨rfl, rfl⟩
      obtain ⟨rfl, rfl⟩ := this
      refine ⟨D, env', oT, m4, rel4, tm4, ?_⟩
      show Post _ _ _ _ _ _ (ev F p env' oT) _
      rw [hE]
      intro v H5 m5 rel5 tm5 s5 rv
      have hD5 : H5 D = some (.lst ws) := s5.keep D _ hD4 fun k e => rel4.dis k D e (.inr rfl)
      have sp5 := step_pd (D := D) tm4 tm5 s5
      have hal : acc.length < big := by
        have e1 : R.length = acc.length + rest.length := by rw [← hR, List.length_append]
        have e2 : rest.length = ys.length + 1 := by rw [hrest]; rfl
        omega
      refine ⟨ws, hD5, by rw [ra3.len]; exact Nat.lt_of_lt_of_le hal (Nat.le_of_eq big_line), hlt, o3, acc ++ [d], ys, ?_, hc4, by rw [← hR, hrest]; simp [oc]⟩
      have relB := rel_back rel3 (sp4.trans sp5) cl (rel_out tm5 rel5 hD5 trivial nO) fr2
      exact comp_grow tm5 relB hD5 ((ra3.step sp4).step sp5) ((st3.trans sp4).trans sp5) (rv.unpd tm5)
  · have e : i = ds.length := by omega
    subst e
    refine .inl ⟨wk2.1 (Nat.le_refl _), ?_⟩
    have hrest : rest = [] ∧ objs2 = oF := by
      rw [List.drop_length] at hc2
      cases hc2
      exact ⟨rfl, rfl⟩
    obtain ⟨rfl, rfl⟩ := hrest
    rw [List.append_nil] at hR
    subst hR
    exact g D ws H2 _ rel2 mset_same (s1.trans stp) hD2 ra2
theorem f_comp (fr : FrX X P) {elt tg iter : Expr} {ifs : List Expr} {scope : Scope} {own : List (Str × Nat)} {p : E} {tgI : Tg} {it : Tn.It} {c : Oe} (hi : PI X tg iter (rdI P F W true it)) (ok : BlkOk X.N X.env.scope scope own)
    (hg : ∀ (D : Addr) (s : Shared) (H : Hp) (C : Addr) (cl : List (Str × Addr)) (fp : List Addr), PG (X.blk s H scope (compEnvC scope cl C X.env) fp) tg (rdG (PD P D) tgI))
    (ht : ∀ (D : Addr) (s : Shared) (H : Hp) (C : Addr) (cl : List (Str × Addr)) (fp : List Addr), PTs (X.blk s H scope (compEnvC scope cl C X.env) fp) ifs (rdC (PD P D) F (fun _ _ => False) c))
    (he : ∀ (D : Addr) (s : Shared) (H : Hp) (C : Addr) (cl : List (Str × Addr)) (fp : List Addr), PE (X.blk s H scope (compEnvC scope cl C X.env) fp) elt (rd (PD P D) F (fun _ _ => False) p))
    (hsub : ∀ j, j ∈ ixs tgI → j ∈ own.map (·.2)) (hs : ∀ x, foldedSetIterable iter X.env x = pure x) : PE X (.ListComp elt [⟨tg, iter, ifs, 0⟩] scope pos) (rdF P F W (.comp (own.map (·.2)) p tgI it c)) :=
  peC (pe_lc fr.calm fr.nd hi ok (fun s H C cl fp => pg_ex fun D => hg D s H C cl fp) (fun s H C cl fp => pts_ex fun D => ht D s H C cl fp) (fun s H C cl fp => pe_ex fun D => he D s H C cl fp) hs) (comp_imp hsub)
theorem psC {st : Stmt} {t t' : TS} (h : PS X st t) (k : ∀ D σ H, t' D σ H → t D σ H) : PS X st t' := ⟨fun pins s σ H D I q => h.run pins s σ H D I (k D σ H q)⟩
theorem pssC {st : List Stmt} {t t' : TS} (h : PSs X st t) (k : ∀ D σ H, t' D σ H → t D σ H) : PSs X st t' := ⟨fun pins s σ H D I q => h.run pins s σ H D I (k D σ H q)⟩
/-- name = [..] where the model stores within the comprehension -/
theorem set_comp (fr : FrX X P) {i : Nat} {y : Str} {py spos : Pos} {elt tg iter : Expr} {ifs : List Expr} {scope : Scope} {own : List (Str × Nat)} {p : E} {tgI : Tg} {it : Tn.It} {c : Oe} (hy : X.N[i]? = some y) (hyl : X.env.scope.names.lookup y = some .local)
    (hsw : swapsWith (.ListComp elt [⟨tg, iter, ifs, 0⟩] scope pos) (some (.Name y py)) spos.line X.env = pure true) (hi : PI X tg iter (rdI P F W true it)) (ok : BlkOk X.N X.env.scope scope own)
    (hg : ∀ (D : Addr) (s : Shared) (H : Hp) (C : Addr) (cl : List (Str × Addr)) (fp : List Addr), PG (X.blk s H scope (compEnvC scope cl C X.env) fp) tg (rdG (PD P D) tgI))
    (ht : ∀ (D : Addr) (s : Shared) (H : Hp) (C : Addr) (cl : List (Str × Addr)) (fp : List Addr), PTs (X.blk s H scope (compEnvC scope cl C X.env) fp) ifs (rdC (PD P D) F (fun _ _ => False) c))
    (he : ∀ (D : Addr) (s : Shared) (H : Hp) (C : Addr) (cl : List (Str × Addr)) (fp : List Addr), PE (X.blk s H scope (compEnvC scope cl C X.env) fp) elt (rd (PD P D) F (fun _ _ => False) p))
    (hsub : ∀ j, j ∈ ixs tgI → j ∈ own.map (·.2)) (hs : ∀ x, foldedSetIterable iter X.env x = pure x) :
    PS X (.Assign [.Name y py] (.ListComp elt [⟨tg, iter, ifs, 0⟩] scope pos) spos) (tAsg (rdF P F W (.comp (own.map (·.2)) p tgI it c)) (gName i)) :=
  psC (ps_setLc fr.calm fr.nd hy hyl hsw hi ok (fun s H C cl fp => pg_ex fun D => hg D s H C cl fp) (fun s H C cl fp => pts_ex fun D => ht D s H C cl fp) (fun s H C cl fp => pe_ex fun D => he D s H C cl fp) hs) fun D σ H q => comp_imp hsub _ _ _ q
end
end Tn
set_option Elab.async false
set_option linter.all false
set_option maxRecDepth 100000
set_option maxHeartbeats 4000000
namespace Tn
open PySem PySem.Spec PyProof.Rows L2
section
variable {X : Cx} {P : Par} {F : Nat → List D → M D} {W : Nat → Hp → Prop} {pos : Pos}
theorem ite_tr {a b : Prop} (h : a) : (if (true = true) then a else b) := by
  rw [if_pos rfl]
  exact h
theorem comp2_imp {p : E} {tgI tgI1 : Tg} {it it1 : Tn.It} {vs vs1 : List Nat} (hsub : ∀ j, j ∈ ixs tgI → j ∈ vs) (hsub1 : ∀ j, j ∈ ixs tgI1 → j ∈ vs1) (hv : ∀ i ∈ vs1, i ∈ vs) : ∀ σ H Q, rdF P F W (.comp2 vs vs1 p tgI it tgI1 it1) σ H Q →
    tLc2 (rdI P F W true it) (fun v σ H Q => ∃ D, rdG (PD P D) tgI v σ H Q) tYes (fun σ H R => ∃ D, rdI (PD P D) F (fun _ _ => False) true it1 σ H R) (fun v σ H Q => ∃ D, rdG (PD P D) tgI1 v σ H Q) tYes
      (fun σ H Q => ∃ D, rd (PD P D) F (fun _ _ => False) p σ H Q) vs vs1 σ H Q := by
  intro σ H Q ⟨env, objs, m, rel, tm, h⟩
  refine rdI_seq rel tm h fun J H1 m1 ds objs1 rel1 tm1 s1 wk h1 => ?_
  intro D hD
  obtain ⟨cl, h2⟩ := Post.guard h1
  obtain ⟨R, oF, hc, h3⟩ := Post.noex h2
  have hbig : R.length ≤ big := by
    by_cases q : R.length ≤ big
    · exact q
    · rw [if_neg q] at h3; exact h3.elim
  rw [if_pos hbig] at h3
  obtain ⟨ds', e', g⟩ := h3
  cases e'
  have nO : ¬ P.O D := rel1.toRelO.freeO hD
  generalize hf : (fun d => M.bind (M.lift (asg tgI d (wipeE env vs))) fun e => M.bind (iters F it1 e) fun ds1 => M.bind (guardB (clearE e vs1)) fun _ =>
      collect (fun d1 => M.bind (M.lift (asg tgI1 d1 (wipeE e vs1))) fun e1 => M.bind (ev F p e1) fun y => M.pure (some y)) ds1) = f at hc
  refine ⟨fun i k H => k = ds.length - i ∧ i ≤ ds.length ∧ ∃ objs' acc rest, CompI P σ env D m1 H1 objs' acc H ∧ collect2 f (ds.drop i) objs' = some (.ok rest oF) ∧ acc ++ rest = R, ⟨ds.length, by simp, Nat.zero_le _, objs1, [], R, comp_start rel1 tm1 hD, hc, rfl⟩, ?_⟩
  rintro i k H2 ⟨rfl, hi, objs2, acc, rest, ⟨m2, ws, tm2, rel2, hD2, ra2, st2⟩, hc2, hR⟩
  have stp : Step m1 H1 (mset m2 .tmp (some D)) H2 := (comp_step0 (σ := σ) (env := env) rel1.toRelO tm1 hD).trans st2
  have wk2 := wk P σ env objs2 _ H2 rfl rel2 (fun v d r => r.t.step stp) i
  by_cases hlt : i < ds.length
  · have hd : ds[i]? = some ds[i] := List.getElem?_eq_getElem hlt
    obtain ⟨hgo, hy⟩ := wk2.2 _ hd
    rw [List.drop_eq_getElem_cons hlt] at hc2
    have hc2 : M.bind (f ds[i]) (fun y => M.bind (collect2 f (ds.drop (i + 1))) fun ys => M.pure (y ++ ys)) objs2 = some (.ok rest oF) := hc2
    obtain ⟨y, o3, hfd, hc3⟩ := M.bind_some hc2
    obtain ⟨ys, o4, hc4, hc5⟩ := M.bind_some hc3
    have ho : o4 = oF := by cases hc5; rfl
    subst ho
    have hrest : rest = y ++ ys := by cases hc5; rfl
    clear hc5 hc3 hc2
    refine .inr ⟨hgo, fun H' => i + 1 ≤ ds.length ∧ ∃ objs' acc rest, CompI P σ env D m1 H1 objs' acc H' ∧ collect2 f (ds.drop (i + 1)) objs' = some (.ok rest o4) ∧ acc ++ rest = R, fun H' hn => ⟨_, by omega, rfl, hn⟩, fun x H3 hyl => ?_⟩
    obtain ⟨kp, rx⟩ := hy x H3 hyl
    have rel3 := rel2.keeps kp
    have ra3 := ra2.step kp.step
    have st3 := st2.trans kp.step
    rw [← hf] at hfd
    obtain ⟨env', ea, hfd⟩ := M.bind_lift hfd
    refine ⟨D, wipeE env vs, objs2, m2, ds[i], env', rel_in tm2 (rel_wipe rel3 vs), rx.pd tm2, ea, fun σ2 relA hfr => ?_⟩
    have hl2 : σ2.length = σ.length := by
      have h1 := relA.len
      have h2 := rel1.len
      rw [h1, h2]
      exact (asg_len tgI _ _ _ ea).trans (wipeE_len env vs)
    have fr2 : ∀ j, j ∉ vs → σ2[j]? = σ[j]? ∧ env'[j]? = env[j]? := fun j hj => by
      obtain ⟨h1, h2⟩ := hfr j fun z => hj (hsub j z)
      exact ⟨h1.trans (wipe_out hj), h2.trans (wipeE_out hj)⟩
    refine ⟨wipe_eq hl2 fun j hj => (fr2 j hj).1, ?_⟩
    obtain ⟨ds1, oI, hI, hfd⟩ := M.bind_some hfd
    obtain ⟨cl1, hfd⟩ := M.bind_guard hfd
    unfold tYes
    refine ite_tr ?_
    refine ⟨D, env', objs2, m2, relA, tm2, ?_⟩
    rw [hI]
    intro J1 H5 m5 rel5 tm5 s5 wk1
    have hD5 : H5 D = some (.lst ws) := s5.keep D _ (kp _ _ hD2) fun k e => relA.dis k D e (.inr rfl)
    have sp5 := step_pd (D := D) tm2 tm5 s5
    have rel5' := rel_out tm5 rel5 hD5 trivial nO
    generalize hg1 : (fun d1 => M.bind (M.lift (asg tgI1 d1 (wipeE env' vs1))) fun e1 => M.bind (ev F p e1) fun y => M.pure (some y)) = f1 at hfd
    refine ⟨fun j k H => k = ds1.length - j ∧ j ≤ ds1.length ∧ ∃ objs' acc' rest' m' ws', m' .tmp = none ∧ Rel P σ2 H env' objs' (mset m' .tmp (some D)) ∧ H D = some (.lst ws') ∧ RepAll P (mset m' .tmp (some D)) H ws' acc' ∧
        Step (mset m5 .tmp (some D)) H5 (mset m' .tmp (some D)) H ∧ collect f1 (ds1.drop j) objs' = some (.ok rest' o3) ∧ acc' ++ rest' = acc ++ y,
      ⟨ds1.length, by simp, Nat.zero_le _, oI, acc, y, m5, ws, tm5, rel5', hD5, ra3.step sp5, Step.refl, hfd, rfl⟩, ?_⟩
    rintro j k1 H6 ⟨rfl, hj, objs6, acc6, rest6, m6, ws6, tm6, rel6, hD6, ra6, st6, hc6, hR6⟩
    have wk3 := wk1 P σ2 env' objs6 _ H6 rfl rel6 (fun v d r => by
      rcases r.t with r | ⟨i, xs, e1, e2, e3⟩
      · exact .inl ((r.unpd tm5).step st6)
      · exact .inr ⟨i, xs, e1, e2, e3⟩) j
    by_cases hlt1 : j < ds1.length
    · have hd1 : ds1[j]? = some ds1[j] := List.getElem?_eq_getElem hlt1
      obtain ⟨hgo1, hy1⟩ := wk3.2 _ hd1
      rw [List.drop_eq_getElem_cons hlt1] at hc6
      have hc6 : M.bind (f1 ds1[j]) (fun y => M.bind (collect f1 (ds1.drop (j + 1))) fun ys => M.pure (oc y ys)) objs6 = some (.ok rest6 o3) := hc6
      obtain ⟨y1, o7, hfd1, hc7⟩ := M.bind_some hc6
      obtain ⟨ys1, o8, hc8, hc9⟩ := M.bind_some hc7
      have ho : o8 = o3 := by cases hc9; rfl
      subst ho
      have hrest1 : rest6 = oc y1 ys1 := by cases hc9; rfl
      clear hc9 hc7 hc6
      rw [← hg1] at hfd1
      obtain ⟨env7, ea1, hfd1⟩ := M.bind_lift hfd1
      obtain ⟨d, o9, hE, hfd1⟩ := M.bind_some hfd1
      have : y1 = some d ∧ o7 = o9 := by cases hfd1; exact ⟨rfl, rfl⟩
      obtain ⟨rfl, rfl⟩ := this
      refine .inr ⟨hgo1, fun H => j + 1 ≤ ds1.length ∧ ∃ objs' acc' rest' m' ws', m' .tmp = none ∧ Rel P σ2 H env' objs' (mset m' .tmp (some D)) ∧ H D = some (.lst ws') ∧ RepAll P (mset m' .tmp (some D)) H ws' acc' ∧
          Step (mset m5 .tmp (some D)) H5 (mset m' .tmp (some D)) H ∧ collect f1 (ds1.drop (j + 1)) objs' = some (.ok rest' o8) ∧ acc' ++ rest' = acc ++ y, fun H' hn => ⟨_, by omega, rfl, hn⟩, fun x1 H7 hyl1 => ?_⟩
      obtain ⟨kp1, rx1⟩ := hy1 x1 H7 hyl1
      have rel7 := rel6.keeps kp1
      refine ⟨D, wipeE env' vs1, objs6, m6, ds1[j], env7, rel_in tm6 (rel_wipe rel7 vs1), rx1.pd tm6, ea1, fun σ3 relB hfr1 => ?_⟩
      have hl3 : σ3.length = σ2.length := by
        have h1 := relB.len
        have h2 := rel6.len
        rw [h1, h2]
        exact (asg_len tgI1 _ _ _ ea1).trans (wipeE_len env' vs1)
      have fr3 : ∀ j, j ∉ vs1 → σ3[j]? = σ2[j]? ∧ env7[j]? = env'[j]? := fun j hj => by
        obtain ⟨h1, h2⟩ := hfr1 j fun z => hj (hsub1 j z)
        exact ⟨h1.trans (wipe_out hj), h2.trans (wipeE_out hj)⟩
      refine ⟨wipe_eq hl3 fun j hj => (fr3 j hj).1, ?_⟩
      refine ite_tr ?_
      refine ⟨D, env7, objs6, m6, relB, tm6, ?_⟩
      show Post _ _ _ _ _ _ (ev F p env7 objs6) _
      rw [hE]
      intro v H8 m8 rel8 tm8 s8 rv
      have hD8 : H8 D = some (.lst ws6) := s8.keep D _ (kp1 _ _ hD6) fun k e => relB.dis k D e (.inr rfl)
      have sp8 := step_pd (D := D) tm6 tm8 s8
      have hal : acc6.length < big := by
        have e1 : R.length = acc.length + rest.length := by rw [← hR, List.length_append]
        have e2 : rest.length = y.length + ys.length := by rw [hrest, List.length_append]
        have e3 : acc6.length + rest6.length = acc.length + y.length := by rw [← List.length_append, hR6, List.length_append]
        have e4 : rest6.length = ys1.length + 1 := by rw [hrest1]; rfl
        omega
      have ra8 := (ra6.step kp1.step).step sp8
      refine ⟨ws6, hD8, by rw [ra6.len]; exact Nat.lt_of_lt_of_le hal (Nat.le_of_eq big_line), hlt1, o7, acc6 ++ [d], ys1, m8, ws6 ++ [v], tm8, ?_⟩
      have relC := rel_back rel7 sp8 cl1 (rel_out tm8 rel8 hD8 trivial nO) fr3
      obtain ⟨R2, s2⟩ := rel_grow (ws' := ws6 ++ [v]) tm8 relC hD8
      exact ⟨R2, upd_same, (ra8.app (.cons (rv.unpd tm8) .nil)).step s2, ((st6.trans kp1.step).trans sp8).trans s2, hc8, by rw [← hR6, hrest1]; simp [oc]⟩
    · have e : j = ds1.length := by omega
      subst e
      refine .inl ⟨wk3.1 (Nat.le_refl _), hlt, ?_⟩
      have hrest6 : rest6 = [] ∧ objs6 = o3 := by
        rw [List.drop_length] at hc6
        cases hc6
        exact ⟨rfl, rfl⟩
      obtain ⟨rfl, rfl⟩ := hrest6
      rw [List.append_nil] at hR6
      subst hR6
      exact ⟨objs6, acc ++ y, ys, ⟨m6, ws6, tm6, rel_back rel3 (sp5.trans st6) cl rel6 fr2, hD6, ra6, (st3.trans sp5).trans st6⟩, hc4, by rw [← hR, hrest, List.append_assoc]⟩
  · have e : i = ds.length := by omega
    subst e
    refine .inl ⟨wk2.1 (Nat.le_refl _), ?_⟩
    have hrest : rest = [] ∧ objs2 = oF := by
      rw [List.drop_length] at hc2
      cases hc2
      exact ⟨rfl, rfl⟩
    obtain ⟨rfl, rfl⟩ := hrest
    rw [List.append_nil] at hR
    subst hR
    exact g D ws H2 _ rel2 mset_same (s1.trans stp) hD2 ra2
theorem f_comp2 (fr : FrX X P) {elt tg iter tg1 iter1 : Expr} {scope : Scope} {own : List (Str × Nat)} {vs1 : List Nat} {p : E} {tgI tgI1 : Tg} {it it1 : Tn.It} (hi : PI X tg iter (rdI P F W true it)) (ok : BlkOk X.N X.env.scope scope own) (hv : ∀ i ∈ vs1, i ∈ own.map (·.2))
    (hg : ∀ (D : Addr) (s : Shared) (H : Hp) (C : Addr) (cl : List (Str × Addr)) (fp : List Addr), PG (X.blk s H scope (compEnvC scope cl C X.env) fp) tg (rdG (PD P D) tgI))
    (hi1 : ∀ (D : Addr) (s : Shared) (H : Hp) (C : Addr) (cl : List (Str × Addr)) (fp : List Addr), PI (X.blk s H scope (compEnvC scope cl C X.env) fp) tg1 iter1 (rdI (PD P D) F (fun _ _ => False) true it1))
    (hg1 : ∀ (D : Addr) (s : Shared) (H : Hp) (C : Addr) (cl : List (Str × Addr)) (fp : List Addr), PG (X.blk s H scope (compEnvC scope cl C X.env) fp) tg1 (rdG (PD P D) tgI1))
    (he : ∀ (D : Addr) (s : Shared) (H : Hp) (C : Addr) (cl : List (Str × Addr)) (fp : List Addr), PE (X.blk s H scope (compEnvC scope cl C X.env) fp) elt (rd (PD P D) F (fun _ _ => False) p))
    (hsub : ∀ j, j ∈ ixs tgI → j ∈ own.map (·.2)) (hsub1 : ∀ j, j ∈ ixs tgI1 → j ∈ vs1) (hs : ∀ x, foldedSetIterable iter X.env x = pure x) (hs1 : ∀ env x, foldedSetIterable iter1 env x = pure x) :
    PE X (.ListComp elt [⟨tg, iter, [], 0⟩, ⟨tg1, iter1, [], 0⟩] scope pos) (rdF P F W (.comp2 (own.map (·.2)) vs1 p tgI it tgI1 it1)) :=
  peC (pe_lc2 fr.calm fr.nd hi ok hv (fun s H C cl fp => pg_ex fun D => hg D s H C cl fp) (fun s H C cl fp => pts_nil) (fun s H C cl fp => pi_ex fun D => hi1 D s H C cl fp) (fun s H C cl fp => pg_ex fun D => hg1 D s H C cl fp) (fun s H C cl fp => pts_nil) (fun s H C cl fp => pe_ex fun D => he D s H C cl fp) hs hs1) (comp2_imp hsub hsub1 hv)
theorem set_comp2 (fr : FrX X P) {i : Nat} {y : Str} {py spos : Pos} {elt tg iter tg1 iter1 : Expr} {scope : Scope} {own : List (Str × Nat)} {vs1 : List Nat} {p : E} {tgI tgI1 : Tg} {it it1 : Tn.It} (hy : X.N[i]? = some y) (hyl : X.env.scope.names.lookup y = some .local)
    (hsw : swapsWith (.ListComp elt [⟨tg, iter, [], 0⟩, ⟨tg1, iter1, [], 0⟩] scope pos) (some (.Name y py)) spos.line X.env = pure true) (hi : PI X tg iter (rdI P F W true it)) (ok : BlkOk X.N X.env.scope scope own) (hv : ∀ i ∈ vs1, i ∈ own.map (·.2))
    (hg : ∀ (D : Addr) (s : Shared) (H : Hp) (C : Addr) (cl : List (Str × Addr)) (fp : List Addr), PG (X.blk s H scope (compEnvC scope cl C X.env) fp) tg (rdG (PD P D) tgI))
    (hi1 : ∀ (D : Addr) (s : Shared) (H : Hp) (C : Addr) (cl : List (Str × Addr)) (fp : List Addr), PI (X.blk s H scope (compEnvC scope cl C X.env) fp) tg1 iter1 (rdI (PD P D) F (fun _ _ => False) true it1))
    (hg1 : ∀ (D : Addr) (s : Shared) (H : Hp) (C : Addr) (cl : List (Str × Addr)) (fp : List Addr), PG (X.blk s H scope (compEnvC scope cl C X.env) fp) tg1 (rdG (PD P D) tgI1))
    (he : ∀ (D : Addr) (s : Shared) (H : Hp) (C : Addr) (cl : List (Str × Addr)) (fp : List Addr), PE (X.blk s H scope (compEnvC scope cl C X.env) fp) elt (rd (PD P D) F (fun _ _ => False) p))
    (hsub : ∀ j, j ∈ ixs tgI → j ∈ own.map (·.2)) (hsub1 : ∀ j, j ∈ ixs tgI1 → j ∈ vs1) (hs : ∀ x, foldedSetIterable iter X.env x = pure x) (hs1 : ∀ env x, foldedSetIterable iter1 env x = pure x) :
    PS X (.Assign [.Name y py] (.ListComp elt [⟨tg, iter, [], 0⟩, ⟨tg1, iter1, [], 0⟩] scope pos) spos) (tAsg (rdF P F W (.comp2 (own.map (·.2)) vs1 p tgI it tgI1 it1)) (gName i)) :=
  psC (ps_setLc2 fr.calm fr.nd hy hyl hsw hi ok hv (fun s H C cl fp => pg_ex fun D => hg D s H C cl fp) (fun s H C cl fp => pts_nil) (fun s H C cl fp => pi_ex fun D => hi1 D s H C cl fp) (fun s H C cl fp => pg_ex fun D => hg1 D s H C cl fp) (fun s H C cl fp => pts_nil) (fun s H C cl fp => pe_ex fun D => he D s H C cl fp) hs hs1) fun D σ H q => comp2_imp hsub hsub1 hv _ _ _ q
end
end Tn
set_option Elab.async false
set_option linter.all false
set_option maxRecDepth 100000
set_option maxHeartbeats 4000000
namespace Tn
open PySem PySem.Spec PyProof.Rows L2
def PostS (P : Par) (W : Nat → Hp → Prop) (m : Mp) (H : Hp) (r : Option (Out (Fl × Env))) (D : Ends) : Prop := match r with
  | none => False
  | some (.ex c o) => ∀ H' m', RelO P H' o m' → (∀ i, m' (.sl i) = none) → m' .tmp = none → Step m H m' H' → W c H'
  | some (.ok (.nx, env') o) => ∀ σ' H' m', Rel P σ' H' env' o m' → m' .tmp = none → Step m H m' H' → D.nx σ' H'
  | some (.ok (.bk, env') o) => ∀ σ' H' m', Rel P σ' H' env' o m' → m' .tmp = none → Step m H m' H' → D.bk σ' H'
  | some (.ok (.ct, env') o) => ∀ σ' H' m', Rel P σ' H' env' o m' → m' .tmp = none → Step m H m' H' → D.ct σ' H'
  | some (.ok (.rt d, _) o) => ∀ v H' m', RelO P H' o m' → (∀ i, m' (.sl i) = none) → m' .tmp = none → Step m H m' H' → Rep P m' H' v d → D.rt v H'
def rdS (P : Par) (F : Nat → List D → M D) (W : Nat → Hp → Prop) (s : S) : TS := fun D σ H => ∃ env objs m, Rel P σ H env objs m ∧ m .tmp = none ∧ PostS P W m H (exec F s env objs) D
def rdSs (P : Par) (F : Nat → List D → M D) (W : Nat → Hp → Prop) (s : Ss) : TS := fun D σ H => ∃ env objs m, Rel P σ H env objs m ∧ m .tmp = none ∧ PostS P W m H (execs F s env objs) D
section
variable {P : Par} {F : Nat → List D → M D} {W : Nat → Hp → Prop} {σ : L2.St} {env : Env} {m m' m1 : Mp} {H H' H1 : Hp} {objs : Objs} {D : Ends}
theorem PostS.later {r : Option (Out (Fl × Env))} (s : Step m H m1 H1) (h : PostS P W m H r D) : PostS P W m1 H1 r D := by
  unfold PostS at *
  split
  · exact h
  · exact fun H' m' a b c t => h H' m' a b c (s.trans t)
  · exact fun σ' H' m' a b t => h σ' H' m' a b (s.trans t)
  · exact fun σ' H' m' a b t => h σ' H' m' a b (s.trans t)
  · exact fun σ' H' m' a b t => h σ' H' m' a b (s.trans t)
  · exact fun v H' m' a b c t r => h v H' m' a b c (s.trans t) r
theorem relO_mob (R : RelO P H objs m) : RelO P H objs (mob m) := by
  refine ⟨fun k k' a e e' => R.inj k k' a (mob_src e).1 (mob_src e').1, fun k a e => R.dis k a (mob_src e).1, fun k a e => R.alive k a (mob_src e).1, R.oal, fun n s e => ?_, fun n e => R.obn n e⟩
  have av : ∀ a, AV P (mob m) a → AV P m a := by
    rintro a (h | ⟨k, h⟩)
    · exact .inl h
    · exact .inr ⟨k, (mob_src h).1⟩
  obtain ⟨a, ks, vs, h1, h2, h3, h4, h5, h6⟩ := R.obs n s e
  refine ⟨a, ks, vs, h1, h2, h3, h4, h5, fun j c hc => ?_⟩
  have h7 := h6 j c hc
  cases c with
  | v d => obtain ⟨v, e1, r⟩ := h7; exact ⟨v, e1, Rep.less (P := P) (P' := P) rfl av (fun _ _ h => h) r⟩
  | own xs => obtain ⟨b, ws, e1, e2, e3, r⟩ := h7; exact ⟨b, ws, e1, e2, e3, RepAll.less (P := P) (P' := P) rfl av (fun _ _ h => h) r⟩
  | dic kvs => exact h7
theorem rep_mob {v : V} {d : PyData} (r : Rep P m H v d) : Rep P (mob m) H v d := by
  have av : ∀ a, AV P (mob m) a → AV P m a := by
    rintro a (h | ⟨k, h⟩)
    · exact .inl h
    · exact .inr ⟨k, (mob_src h).1⟩
  exact Rep.less (P := P) (P' := P) rfl av (fun _ _ h => h) r
theorem step_mob (s : Step m H m' H') : Step m H (mob m') H' :=
  ⟨s.keep, s.fix, fun k a e => s.new k a (mob_src e).1, fun k a e => s.ob k a e⟩
/-- one expression, then what follows -/
theorem st_rd {R : RR} {a : E} {f : PyData → M (Fl × Env)} {Q : VK} (rel : Rel P σ H env objs m) (tm : m .tmp = none) (h : PostS P W m H (M.bind (ev F a env) f objs) D)
    (k : ∀ v H1 m1 d objs1, Rel P σ H1 env objs1 m1 → m1 .tmp = none → Step m H m1 H1 → R σ env m1 H1 v d → PostS P W m1 H1 (f d objs1) D → Q v H1) : rdR P F W R a σ H Q := by
  refine ⟨env, objs, m, rel, tm, ?_⟩
  cases e : ev F a env objs with
  | none => rw [M.bind_none e] at h; exact h
  | some r =>
    cases r with
    | ok d o => rw [M.bind_ok e] at h; exact fun v H' m' rel' tm' s r => k v H' m' d o rel' tm' s r (h.later s)
    | ex c o => rw [M.bind_ex e] at h; exact fun H' m' R s => h H' (mob m') (relO_mob R.toRelO) (fun _ => rfl) rfl (step_mob s)
theorem st_rdF {a : E} {f : PyData → M (Fl × Env)} {Q : VK} (rel : Rel P σ H env objs m) (tm : m .tmp = none) (h : PostS P W m H (M.bind (ev F a env) (fun d => M.bind (M.lift (listOf d)) fun ds => f (.list ds)) objs) D)
    (k : ∀ a H1 m1 ds ws objs1, Rel P σ H1 env objs1 m1 → m1 .tmp = some a → Step m H m1 H1 → H1 a = some (.lst ws) → RepAll P m1 H1 ws ds → PostS P W m1 H1 (f (.list ds) objs1) D → Q (.ref a) H1) : rdF P F W a σ H Q := by
  refine ⟨env, objs, m, rel, tm, ?_⟩
  cases e : ev F a env objs with
  | none => rw [M.bind_none e] at h; exact h
  | some r =>
    cases r with
    | ok d o =>
      rw [M.bind_ok e] at h
      cases el : listOf d with
      | none => rw [el] at h; exact h.elim
      | some ds =>
        rw [el] at h
        refine ⟨ds, ?_, fun a ws H' m' rel' tm' s ha ra => k a H' m' ds ws o rel' tm' s ha ra (PostS.later s h)⟩
        unfold listOf at el
        split at el
        · cases el; rfl
        · cases el
    | ex c o => rw [M.bind_ex e] at h; exact fun H' m' R s => h H' (mob m') (relO_mob R.toRelO) (fun _ => rfl) rfl (step_mob s)
theorem st_rdA {R : RR} {a : Es} {f : List PyData → M (Fl × Env)} {Q : List V → Hp → Prop} (rel : Rel P σ H env objs m) (tm : m .tmp = none) (h : PostS P W m H (M.bind (evs F a env) f objs) D)
    (k : ∀ v H1 m1 d objs1, Rel P σ H1 env objs1 m1 → m1 .tmp = none → Step m H m1 H1 → AllR (R σ env m1 H1) v d → PostS P W m1 H1 (f d objs1) D → Q v H1) : rdA P F W R a σ H Q := by
  refine ⟨env, objs, m, rel, tm, ?_⟩
  cases e : evs F a env objs with
  | none => rw [M.bind_none e] at h; exact h
  | some r =>
    cases r with
    | ok d o => rw [M.bind_ok e] at h; exact fun v H' m' rel' tm' s r => k v H' m' d o rel' tm' s r (h.later s)
    | ex c o => rw [M.bind_ex e] at h; exact fun H' m' R s => h H' (mob m') (relO_mob R.toRelO) (fun _ => rfl) rfl (step_mob s)
theorem st_rdT {a : E} {f : Bool → M (Fl × Env)} {Q : Bool → Hp → Prop} (rel : Rel P σ H env objs m) (tm : m .tmp = none) (h : PostS P W m H (M.bind (M.bind (ev F a env) fun d => M.lift (truD d)) f objs) D)
    (k : ∀ b H1 m1 objs1, Rel P σ H1 env objs1 m1 → m1 .tmp = none → Step m H m1 H1 → PostS P W m1 H1 (f b objs1) D → Q b H1) : rdT P F W a σ H Q := by
  refine ⟨env, objs, m, rel, tm, ?_⟩
  cases e : M.bind (ev F a env) (fun d => M.lift (truD d)) objs with
  | none => rw [M.bind_none e] at h; exact h
  | some r =>
    cases r with
    | ok d o => rw [M.bind_ok e] at h; exact fun H' m' rel' tm' s => k d H' m' o rel' tm' s (h.later s)
    | ex c o => rw [M.bind_ex e] at h; exact fun H' m' R s => h H' (mob m') (relO_mob R.toRelO) (fun _ => rfl) rfl (step_mob s)
theorem st_rdI {b : Bool} {it : Tn.It} {f : List PyData → M (Fl × Env)} {R : L2.It → Hp → Prop} (rel : Rel P σ H env objs m) (tm : m .tmp = none) (h : PostS P W m H (M.bind (iters F it env) f objs) D)
    (k : ∀ J H1 m1 ds objs1, Rel P σ H1 env objs1 m1 → m1 .tmp = none → Step m H m1 H1 → Walks P b σ env m1 H1 J ds → PostS P W m1 H1 (f ds objs1) D → R J H1) : rdI P F W b it σ H R := by
  refine ⟨env, objs, m, rel, tm, ?_⟩
  cases e : iters F it env objs with
  | none => rw [M.bind_none e] at h; exact h
  | some r =>
    cases r with
    | ok d o => rw [M.bind_ok e] at h; exact fun J H' m' rel' tm' s w => k J H' m' d o rel' tm' s w (h.later s)
    | ex c o => rw [M.bind_ex e] at h; exact fun H' m' R s => h H' (mob m') (relO_mob R.toRelO) (fun _ => rfl) rfl (step_mob s)
theorem PostS.lift {α : Type} {x : Option α} {f : α → M (Fl × Env)} (h : PostS P W m H (M.bind (M.lift x) f objs) D) : ∃ a, x = some a ∧ PostS P W m H (f a objs) D := by
  cases x with
  | none => exact h.elim
  | some a => exact ⟨a, rfl, h⟩
theorem PostS.guard {b : Bool} {f : Unit → M (Fl × Env)} (h : PostS P W m H (M.bind (guardB b) f objs) D) : b = true ∧ PostS P W m H (f () objs) D := by
  cases b with
  | true => exact ⟨rfl, h⟩
  | false => exact h.elim
/-! ### sequences -/
theorem PostS.seq {x : M (Fl × Env)} {f : Env → M (Fl × Env)} {Q : L2.St → Hp → Prop} (h : PostS P W m H (M.bind x (fun r => match r.1 with | .nx => f r.2 | _ => M.pure r) objs) D)
    (k : ∀ σ' H' m' env' o, Rel P σ' H' env' o m' → m' .tmp = none → PostS P W m' H' (f env' o) D → Q σ' H') : PostS P W m H (x objs) { D with nx := Q } := by
  cases e : x objs with
  | none => rw [M.bind_none e] at h; exact h
  | some r =>
    cases r with
    | ex c o => rw [M.bind_ex e] at h; exact h
    | ok r o =>
      rw [M.bind_ok e] at h
      obtain ⟨fl, env'⟩ := r
      cases fl with
      | nx => exact fun σ' H' m' R t s => k σ' H' m' env' o R t (PostS.later s h)
      | rt d => exact h
      | bk => exact h
      | ct => exact h
end
section
variable {X : Cx} {P : Par} {F : Nat → List D → M D} {W : Nat → Hp → Prop} {pos : Pos} {e a b c : Expr} {p pa pb pc : E}
theorem ss_nil : PSs X [] (rdSs P F W .nil) := pssC pss_nil fun D σ H ⟨env, objs, m, rel, tm, h⟩ => h σ H m rel tm Step.refl
theorem ss_cons {st : Stmt} {sts : List Stmt} {s : S} {ss : Ss} (h1 : PS X st (rdS P F W s)) (h2 : PSs X sts (rdSs P F W ss)) : PSs X (st :: sts) (rdSs P F W (.cons s ss)) := by
  refine pssC (pss_cons h1 h2) fun D σ H ⟨env, objs, m, rel, tm, h⟩ => ?_
  exact ⟨env, objs, m, rel, tm, PostS.seq h fun σ' H' m' env' o R t g => ⟨env', o, m', R, t, g⟩⟩
theorem st_brk : PS X (.Break pos) (rdS P F W .brk) := psC ps_break fun D σ H ⟨env, objs, m, rel, tm, h⟩ => h σ H m rel tm Step.refl
theorem st_cont : PS X (.Continue pos) (rdS P F W .cont) := psC ps_continue fun D σ H ⟨env, objs, m, rel, tm, h⟩ => h σ H m rel tm Step.refl
theorem st_fail {st : Stmt} : PS X st (rdS P F W .fail) := psC ps_never fun D σ H ⟨env, objs, m, rel, tm, h⟩ => h
theorem st_doc {x : Str} {j : Nat} {p1 p2 : Pos} : PS X (.Expr (.Constant (.str x) j p1) p2) (rdS P F W (.expr (.con .none))) := psC ps_doc fun D σ H ⟨env, objs, m, rel, tm, h⟩ => h σ H m rel tm Step.refl
theorem st_expr (he : PE X e (rd P F W p)) (hs : swapsWith e none pos.line X.env = pure false) : PS X (.Expr e pos) (rdS P F W (.expr p)) := by
  refine psC (ps_expr he hs) fun D σ H ⟨env, objs, m, rel, tm, h⟩ => ?_
  exact st_rd rel tm h fun v H1 m1 d o rel1 tm1 s1 r1 h1 => h1 σ H1 m1 rel1 tm1 Step.refl
theorem st_if {sa sb : List Stmt} {ia ib : Ss} (hc : PT X c (rdT P F W pc)) (ha : PSs X sa (rdSs P F W ia)) (hb : PSs X sb (rdSs P F W ib)) : PS X (.If c sa sb pos) (rdS P F W (.ite pc ia ib)) := by
  refine psC (ps_if hc ha hb) fun D σ H ⟨env, objs, m, rel, tm, h⟩ => ?_
  have e0 : exec F (.ite pc ia ib) env = M.bind (M.bind (ev F pc env) fun d => M.lift (truD d)) (fun t => if t then execs F ia env else execs F ib env) := by
    rw [M.bind_assoc]
    rfl
  rw [e0] at h
  refine st_rdT rel tm h fun b H1 m1 o rel1 tm1 s1 h1 => ?_
  cases b with
  | true => exact ⟨env, o, m1, rel1, tm1, h1⟩
  | false => exact ⟨env, o, m1, rel1, tm1, h1⟩
theorem st_while {body : List Stmt} {ib : Ss} (hp : PassesOwn (model X.prog X.w) X.A X.env X.xe) (hc : PT X c (rdT P F W pc)) (hb : PSs X body (rdSs P F W ib)) : PS X (.While c body [] pos) (rdS P F W (.whl pc ib)) := by
  refine psC (ps_while hp hc hb) fun D σ H ⟨env, objs, m, rel, tm, h⟩ => ?_
  have h : PostS P W m H (whl (fun env => M.bind (ev F pc env) fun x => M.lift (truD x)) (fun env => execs F ib env) env objs) D := h
  have hn : ∃ n, PostS P W m H (whlN (fun env => M.bind (ev F pc env) fun x => M.lift (truD x)) (fun env => execs F ib env) n env objs) D := by
    unfold whl at h
    split at h
    · exact ⟨_, h⟩
    · exact h.elim
  refine ⟨fun n σ H => ∃ env objs m, Rel P σ H env objs m ∧ m .tmp = none ∧ PostS P W m H (whlN (fun env => M.bind (ev F pc env) fun x => M.lift (truD x)) (fun env => execs F ib env) n env objs) D, ?_, ?_⟩
  · obtain ⟨n, h⟩ := hn
    exact ⟨n, env, objs, m, rel, tm, h⟩
  · clear hn h rel tm
    rintro n σ H ⟨env, objs, m, rel, tm, h⟩
    cases n with
    | zero => exact h.elim
    | succ n =>
      refine st_rdT rel tm h fun b H1 m1 o rel1 tm1 s1 h1 => ?_
      cases b with
      | false => 
        rw [if_neg (by simp)] at h1 ⊢
        exact h1 σ H1 m1 rel1 tm1 Step.refl
      | true =>
        rw [if_pos rfl] at h1 ⊢
        refine ⟨fun σ' H' => ∃ env objs m, Rel P σ' H' env objs m ∧ m .tmp = none ∧ PostS P W m H' (whlN (fun env => M.bind (ev F pc env) fun x => M.lift (truD x)) (fun env => execs F ib env) n env objs) D, fun σ' H' hh => ⟨n, Nat.lt_succ_self n, hh⟩, env, o, m1, rel1, tm1, ?_⟩
        cases e : execs F ib env o with
        | none => rw [M.bind_none e] at h1; exact h1
        | some r =>
          cases r with
          | ex c o => rw [M.bind_ex e] at h1; exact h1
          | ok r o =>
            rw [M.bind_ok e] at h1
            obtain ⟨fl, env'⟩ := r
            cases fl with
            | nx => exact fun σ' H' m' R t s => ⟨env', o, m', R, t, PostS.later s h1⟩
            | ct => exact fun σ' H' m' R t s => ⟨env', o, m', R, t, PostS.later s h1⟩
            | rt d => exact h1
            | bk => exact fun σ' H' m' R t s => h1 σ' H' m' R t s
theorem st_for (fr : FrX X P) {tg iter : Expr} {tgI : Tg} {it : Tn.It} {body : List Stmt} {ib : Ss} (hp : PassesOwn (model X.prog X.w) X.A X.env X.xe) (hi : PI X tg iter (rdI P F W false it)) (hg : PG X tg (rdG P tgI)) (hb : PSs X body (rdSs P F W ib))
    (hs : ∀ x, foldedSetIterable iter X.env x = pure x) : PS X (.For tg iter body [] pos) (rdS P F W (.for_ tgI it ib)) := by
  refine psC (ps_for hp fr.calm hi hg hb hs) fun D σ H ⟨env, objs, m, rel, tm, h⟩ => ?_
  refine st_rdI rel tm h fun J H1 m1 ds o1 rel1 tm1 s1 wk h1 => ?_
  generalize hf : (fun d env => M.bind (M.lift (asg tgI d env)) fun e => execs F ib e) = f at h1
  refine ⟨fun i k σ H => k = ds.length - i ∧ i ≤ ds.length ∧ ∃ env objs m, Rel P σ H env objs m ∧ m .tmp = none ∧ Step m1 H1 m H ∧ PostS P W m H (forL f (ds.drop i) env objs) D, ⟨ds.length, by simp, Nat.zero_le _, env, o1, m1, rel1, tm1, Step.refl, h1⟩, ?_⟩
  rintro i k σ2 H2 ⟨rfl, hi, env2, objs2, m2, rel2, tm2, st2, h2⟩
  have wk2 := wk P σ2 env2 objs2 m2 H2 rfl rel2 (fun v d r => by
    rcases r with r | ⟨hb, _⟩
    · exact .inl (r.step st2)
    · cases hb) i
  by_cases hlt : i < ds.length
  · have hd : ds[i]? = some ds[i] := List.getElem?_eq_getElem hlt
    obtain ⟨hgo, hy⟩ := wk2.2 _ hd
    rw [List.drop_eq_getElem_cons hlt, ← hf] at h2
    refine .inr ⟨hgo, fun σ H => i + 1 ≤ ds.length ∧ ∃ env objs m, Rel P σ H env objs m ∧ m .tmp = none ∧ Step m1 H1 m H ∧ PostS P W m H (forL f (ds.drop (i + 1)) env objs) D, fun σ' H' hn => ⟨_, by omega, rfl, hn⟩, fun x H3 hyl => ?_⟩
    obtain ⟨kp, rx⟩ := hy x H3 hyl
    have h2 : PostS P W m2 H2 (M.bind (M.bind (M.lift (asg tgI ds[i] env2)) fun e => execs F ib e) (fun r => match r.1 with
      | .nx => forL f (ds.drop (i + 1)) r.2
      | .ct => forL f (ds.drop (i + 1)) r.2
      | .bk => M.pure (.nx, r.2)
      | .rt d => M.pure (.rt d, r.2)) objs2) D := by rw [← hf]; exact h2
    rw [M.bind_assoc] at h2
    obtain ⟨env3, ea, h3⟩ := h2.lift
    refine ⟨env2, objs2, m2, ds[i], env3, rel2.keeps kp, rx, ea, fun σ3 rel3 _ => ⟨env3, objs2, m2, rel3, tm2, ?_⟩⟩
    have h3 := h3.later kp.step
    have st3 := st2.trans kp.step
    cases e : execs F ib env3 objs2 with
    | none => rw [M.bind_none e] at h3; exact h3
    | some r =>
      cases r with
      | ex c o => rw [M.bind_ex e] at h3; exact h3
      | ok r o =>
        rw [M.bind_ok e] at h3
        obtain ⟨fl, env'⟩ := r
        cases fl with
        | nx => exact fun σ' H' m' R t s => ⟨hlt, env', o, m', R, t, st3.trans s, PostS.later s h3⟩
        | ct => exact fun σ' H' m' R t s => ⟨hlt, env', o, m', R, t, st3.trans s, PostS.later s h3⟩
        | rt d => exact h3
        | bk => exact fun σ' H' m' R t s => h3 σ' H' m' R t s
  · have e : i = ds.length := by omega
    subst e
    refine .inl ⟨wk2.1 (Nat.le_refl _), ?_⟩
    rw [List.drop_length] at h2
    exact h2 σ2 H2 m2 rel2 tm2 Step.refl
end
end Tn
set_option Elab.async false
set_option linter.all false
set_option maxRecDepth 100000
set_option maxHeartbeats 4000000
namespace Tn
open PySem PySem.Spec PyProof.Rows L2
/-! ### what is one's own goes out -/
section
variable {P : Par} {F : Nat → List D → M D} {W : Nat → Hp → Prop} {σ : L2.St} {env env' : Env} {m m' m1 : Mp} {H H' H1 : Hp} {objs : Objs} {D : Ends}
def mfrz (env' : Env) (m : Mp) : Mp := fun k => match k with
  | .sl i => (match env'[i]? with
    | some (some (.own _)) => m k
    | some (some (.dic _)) => m k
    | _ => none)
  | _ => m k
theorem mfrz_src {k : Ky} {a : Addr} (h : mfrz env' m k = some a) : m k = some a := by
  cases k with
  | sl i =>
    simp only [mfrz] at h
    split at h
    · exact h
    · exact h
    · cases h
  | ob n => exact h
  | fl n j => exact h
  | tmp => exact h
theorem rel_frz (R : Rel P σ H env objs m) (hl : env'.length = env.length) (h : ∀ (i : Nat) (c : Cell), env'[i]? = some (some c) → env[i]? = some (some c) ∨ ∃ xs : List PyData, c = .v (.list xs) ∧ env[i]? = some (some (.own xs))) :
    Rel P σ H env' objs (mfrz env' m) ∧ mfrz env' m .tmp = m .tmp ∧ Step m H (mfrz env' m) H := by
  have av : ∀ a, AV P (mfrz env' m) a → AV P m a := by
    rintro a (h | ⟨k, h⟩)
    · exact .inl h
    · exact .inr ⟨k, mfrz_src h⟩
  have less : ∀ {v d}, Rep P m H v d → Rep P (mfrz env' m) H v d := fun r => Rep.less (P := P) (P' := P) rfl av (fun _ _ h => h) r
  have lessA : ∀ {v d}, RepAll P m H v d → RepAll P (mfrz env' m) H v d := fun r => RepAll.less (P := P) (P' := P) rfl av (fun _ _ h => h) r
  refine ⟨⟨⟨fun k k' a e e' => R.inj k k' a (mfrz_src e) (mfrz_src e'), fun k a e => R.dis k a (mfrz_src e), fun k a e => R.alive k a (mfrz_src e), R.oal, fun n s e => ?_, fun n e => R.obn n e⟩, by rw [hl]; exact R.len, fun i c e => ?_⟩, rfl, ⟨fun _ _ z _ => z, fun _ _ z _ => z, fun k a e => .inl ⟨k, mfrz_src e⟩, fun _ _ e => e⟩⟩
  · obtain ⟨a, ks, vs, h1, h2, h3, h4, h5, h6⟩ := R.obs n s e
    refine ⟨a, ks, vs, h1, h2, h3, h4, h5, fun j c hc => ?_⟩
    have h7 := h6 j c hc
    cases c with
    | v d => obtain ⟨v, e1, r⟩ := h7; exact ⟨v, e1, less r⟩
    | own xs => obtain ⟨b, ws, e1, e2, e3, r⟩ := h7; exact ⟨b, ws, e1, e2, e3, lessA r⟩
    | dic kvs => exact h7
  · rcases h i c e with h1 | ⟨xs, rfl, h1⟩
    · have h7 := R.slot i c h1
      cases c with
      | v d => obtain ⟨v, e1, r⟩ := h7; exact ⟨v, e1, less r⟩
      | own xs => obtain ⟨b, ws, e1, e2, e3, r⟩ := h7; exact ⟨b, ws, by unfold mfrz; simp only [e]; exact e1, e2, e3, lessA r⟩
      | dic kvs => obtain ⟨b, ws, e1, e2, e3, e4, r⟩ := h7; exact ⟨b, ws, by unfold mfrz; simp only [e]; exact e1, e2, e3, e4, lessA r⟩
    · obtain ⟨b, ws, e1, e2, e3, r⟩ := R.slot i _ h1
      refine ⟨.ref b, e2, .lst ⟨.inl e3, ?_⟩ (lessA r)⟩
      rintro (z | ⟨k, z⟩)
      · exact R.dis _ _ e1 z
      · have e4 := R.inj _ _ _ (mfrz_src z) e1
        subst e4
        unfold mfrz at z
        simp only [e] at z
        cases z
theorem frz_get (i : Nat) (c : Cell) (h : (frz env)[i]? = some (some c)) : env[i]? = some (some c) ∨ ∃ xs : List PyData, c = .v (.list xs) ∧ env[i]? = some (some (.own xs)) := by
  unfold frz at h
  rw [List.getElem?_map] at h
  obtain ⟨o, h1, h2⟩ := Option.map_eq_some_iff.mp h
  unfold frzC at h2
  split at h2
  · cases h2; exact .inr ⟨_, rfl, h1⟩
  · rw [h1, h2]; exact .inl rfl
theorem rel_frzI (R : Rel P σ H env objs m) (i : Nat) : ∃ m2, Rel P σ H (frzI env i) objs m2 ∧ m2 .tmp = m .tmp ∧ Step m H m2 H := by
  unfold frzI
  split
  · rename_i xs e
    obtain ⟨h1, h2, h3⟩ := rel_frz (env' := env.set i (some (.v (.list xs)))) R (by rw [List.length_set]) fun j c hj => by
      by_cases hij : i = j
      · subst hij
        have hl := (List.getElem?_eq_some_iff.mp e).1
        rw [List.getElem?_set_self hl] at hj
        cases hj
        exact .inr ⟨xs, rfl, e⟩
      · rw [List.getElem?_set_ne hij] at hj
        exact .inl hj
    exact ⟨_, h1, h2, h3⟩
  · exact ⟨m, R, rfl, Step.refl⟩
theorem rel_frzS : ∀ (is : List Nat) {env : Env} {m : Mp}, Rel P σ H env objs m → ∃ m2, Rel P σ H (frzS env is) objs m2 ∧ m2 .tmp = m .tmp ∧ Step m H m2 H
  | [], _, m, R => ⟨m, R, rfl, Step.refl⟩
  | i :: is, _, _, R => by
    obtain ⟨m2, R2, t2, s2⟩ := rel_frzI R i
    obtain ⟨m3, R3, t3, s3⟩ := rel_frzS is R2
    exact ⟨m3, R3, t3.trans t2, s2.trans s3⟩
/-- a new list becomes one's own -/
theorem rel_own {a : Addr} {ws : List V} {xs : List PyData} (R : Rel P σ H env objs m) (tm : m .tmp = some a) (ha : H a = some (.lst ws)) (ra : RepAll P m H ws xs) {i : Nat} (hi : i < env.length) :
    Rel P (σ.set i (some (.ref a))) H (env.set i (some (.own xs))) objs (mset (mset m .tmp none) (.sl i) (some a)) ∧ Step m H (mset (mset m .tmp none) (.sl i) (some a)) H := by
  have src : ∀ k b, mset (mset m .tmp none) (.sl i) (some a) k = some b → (k = .sl i ∧ b = a) ∨ (m k = some b ∧ k ≠ .sl i ∧ k ≠ .tmp) := fun k b h => by
    by_cases hk : k = .sl i
    · subst hk; rw [mset_same] at h; cases h; exact .inl ⟨rfl, rfl⟩
    · rw [mset_ne hk] at h
      by_cases ht : k = .tmp
      · subst ht; rw [mset_same] at h; cases h
      · rw [mset_ne ht] at h; exact .inr ⟨h, hk, ht⟩
  have av : ∀ b, AV P (mset (mset m .tmp none) (.sl i) (some a)) b → AV P m b := by
    rintro b (h | ⟨k, h⟩)
    · exact .inl h
    · rcases src k b h with ⟨_, rfl⟩ | ⟨h, _⟩
      · exact .inr ⟨_, tm⟩
      · exact .inr ⟨_, h⟩
  have ob : ∀ k b, m (.ob k) = some b → mset (mset m .tmp none) (.sl i) (some a) (.ob k) = some b := fun k b h => by
    rw [mset_ne (by intro z; cases z), mset_ne (by intro z; cases z)]; exact h
  have fl : ∀ k j b, m (.fl k j) = some b → mset (mset m .tmp none) (.sl i) (some a) (.fl k j) = some b := fun k j b h => by
    rw [mset_ne (by intro z; cases z), mset_ne (by intro z; cases z)]; exact h
  have less : ∀ {v d}, Rep P m H v d → Rep P (mset (mset m .tmp none) (.sl i) (some a)) H v d := fun r => Rep.less (P := P) (P' := P) rfl av ob r
  have lessA : ∀ {v d}, RepAll P m H v d → RepAll P (mset (mset m .tmp none) (.sl i) (some a)) H v d := fun r => RepAll.less (P := P) (P' := P) rfl av ob r
  refine ⟨⟨⟨fun k k' b e e' => ?_, fun k b e => ?_, fun k b e => ?_, R.oal, fun n s e => ?_, fun n e => ?_⟩, by rw [List.length_set, List.length_set]; exact R.len, fun j c e => ?_⟩, ⟨fun _ _ z _ => z, fun _ _ z _ => z, fun k b e => ?_, ob⟩⟩
  · rcases src k b e with ⟨rfl, rfl⟩ | ⟨h, h1, h2⟩
    · rcases src k' b e' with ⟨rfl, _⟩ | ⟨h', h1', h2'⟩
      · rfl
      · exact absurd (R.inj _ _ _ h' tm) h2'
    · rcases src k' b e' with ⟨rfl, rfl⟩ | ⟨h', h1', h2'⟩
      · exact absurd (R.inj _ _ _ h tm) h2
      · exact R.inj _ _ _ h h'
  · rcases src k b e with ⟨rfl, rfl⟩ | ⟨h, h1, h2⟩
    · exact R.dis _ _ tm
    · exact R.dis _ _ h
  · rcases src k b e with ⟨rfl, rfl⟩ | ⟨h, h1, h2⟩
    · exact R.alive _ _ tm
    · exact R.alive _ _ h
  · obtain ⟨b, ks, vs, h1, h2, h3, h4, h5, h6⟩ := R.obs n s e
    refine ⟨b, ks, vs, ob _ _ h1, h2, h3, h4, h5, fun j c hc => ?_⟩
    have h7 := h6 j c hc
    cases c with
    | v d => obtain ⟨v, e1, r⟩ := h7; exact ⟨v, e1, less r⟩
    | own xs => obtain ⟨b, ws, e1, e2, e3, r⟩ := h7; exact ⟨b, ws, fl _ _ _ e1, e2, e3, lessA r⟩
    | dic kvs => exact h7
  · rw [mset_ne (by intro z; cases z), mset_ne (by intro z; cases z)]
    exact R.obn n e
  · by_cases hij : i = j
    · subst hij
      rw [List.getElem?_set_self hi] at e
      cases e
      exact ⟨a, ws, mset_same, by rw [List.getElem?_set_self (by rw [R.len]; exact hi)], ha, lessA ra⟩
    · rw [List.getElem?_set_ne hij] at e
      have h7 := R.slot j c e
      have ne : (Ky.sl j) ≠ .sl i := fun z => by cases z; exact hij rfl
      cases c with
      | v d => obtain ⟨v, e1, r⟩ := h7; exact ⟨v, by rw [List.getElem?_set_ne hij]; exact e1, less r⟩
      | own xs => obtain ⟨b, ws, e1, e2, e3, r⟩ := h7; exact ⟨b, ws, by rw [mset_ne ne, mset_ne (by intro z; cases z)]; exact e1, by rw [List.getElem?_set_ne hij]; exact e2, e3, lessA r⟩
      | dic kvs => obtain ⟨b, ws, e1, e2, e3, e4, r⟩ := h7; exact ⟨b, ws, by rw [mset_ne ne, mset_ne (by intro z; cases z)]; exact e1, by rw [List.getElem?_set_ne hij]; exact e2, e3, e4, lessA r⟩
  · rcases src k b e with ⟨rfl, rfl⟩ | ⟨h, h1, h2⟩
    · exact .inl ⟨_, tm⟩
    · exact .inl ⟨_, h⟩
/-- a new list becomes a value -/
theorem rel_val {a : Addr} {ws : List V} {xs : List PyData} (R : Rel P σ H env objs m) (tm : m .tmp = some a) (ha : H a = some (.lst ws)) (ra : RepAll P m H ws xs) :
    Rel P σ H env objs (mset m .tmp none) ∧ Step m H (mset m .tmp none) H ∧ Rep P (mset m .tmp none) H (.ref a) (.list xs) := by
  have hm : ∀ q, q ≠ Ky.tmp → mset m .tmp none q = m q := fun q hq => mset_ne hq
  have ht : ∀ a, mset m .tmp none .tmp = some a → (H a = none ∧ ∃ o, H a = some o ∧ Mu o) ∨ m .tmp = some a := fun a z => by rw [mset_same] at z; cases z
  have st2 : Step m H (mset m .tmp none) H := step_more R.toRelO (fun _ _ z => z) hm ht
  have nav : ¬ AV P (mset m .tmp none) a := by
    rintro (z | ⟨q, z⟩)
    · exact R.dis _ _ tm z
    · by_cases hq : q = .tmp
      · subst hq; rw [mset_same] at z; cases z
      · rw [mset_ne hq] at z
        exact hq (R.inj _ _ _ z tm)
  exact ⟨R.more (fun _ _ z => z) hm ht, st2, .lst ⟨.inl ha, nav⟩ (ra.step st2)⟩
/-- one's own list or dict in a slot is written -/
theorem rel_sl (R : Rel P σ H env objs m) {i : Nat} {b : Addr} {o o' : HO} {c' : Cell} (e : m (.sl i) = some b) (h : H b = some o) (mu : Mu o) (mu' : Mu o') (hi : i < env.length)
    (hs : SlotR P m (upd H b o') σ i c') : Rel P σ (upd H b o') (env.set i (some c')) objs m ∧ Step m H m (upd H b o') := by
  have st := step_upd (o' := o') e h mu
  refine ⟨⟨relO_upd R.toRelO e h mu mu' rfl fun k s z => .inl ⟨z, (by intro w; cases w), fun j => by intro w; cases w⟩, by rw [List.length_set]; exact R.len, fun j c ec => ?_⟩, st⟩
  by_cases hij : i = j
  · subst hij
    rw [List.getElem?_set_self hi] at ec
    cases ec
    exact hs
  · rw [List.getElem?_set_ne hij] at ec
    exact slotR_upd R.toRelO e h mu (fun z => by cases z; exact hij rfl) (R.slot j c ec)
theorem ownAt_some {i : Nat} {xs : List PyData} (h : ownAt env i = some xs) : env[i]? = some (some (.own xs)) := by
  unfold ownAt at h
  split at h
  · cases h; assumption
  · cases h
end
section
variable {X : Cx} {P : Par} {F : Nat → List D → M D} {W : Nat → Hp → Prop} {pos : Pos} {e a b c : Expr} {p pa pb pc : E}
theorem st_frz {st : Stmt} {s : S} {is : List Nat} (h : PS X st (rdS P F W s)) : PS X st (rdS P F W (.frz is s)) := psC h fun D σ H ⟨env, objs, m, rel, tm, h⟩ => by
  obtain ⟨m2, R2, t2, s2⟩ := rel_frzS is rel
  exact ⟨_, objs, m2, R2, by rw [t2]; exact tm, PostS.later s2 h⟩
/-- name = value -/
theorem st_set (fr : FrX X P) {i : Nat} {x : Str} {xp : Pos} (hi : X.N[i]? = some x) (hx : Loc X.env.scope x) (hf : X.fn x = true ∨ X.env.scope.names.lookup x = some .local) (he : PE X e (rd P F W p)) (hs : swapsWith e (some (.Name x xp)) pos.line X.env = pure false) :
    PS X (.Assign [.Name x xp] e pos) (rdS P F W (.set (.nm i) p)) := by
  refine psC (ps_set fr.nd hi hx he hs hf) fun D σ H ⟨env, objs, m, rel, tm, h⟩ => ?_
  refine st_rd rel tm h fun v H1 m1 d o rel1 tm1 s1 r1 h1 => ?_
  obtain ⟨env', ea, h2⟩ := h1.lift
  unfold asg at ea
  split at ea
  · cases ea
    exact h2 _ H1 m1 (rel_set rel1 r1) tm1 Step.refl
  · cases ea
/-- name = new list, from a reading of it as such -/
theorem st_setF {st : Stmt} {i : Nat} (hL : Lists F p) (h : PS X st (tAsg (rdF P F W p) (gName i))) : PS X st (rdS P F W (.set (.nm i) p)) := by
  refine psC h fun D σ H ⟨env, objs, m, rel, tm, h⟩ => ?_
  have e0 : PostS P W m H (M.bind (ev F p env) (fun d => M.bind (M.lift (listOf d)) fun ds => M.bind (M.lift (asg (.nm i) (.list ds) env)) fun env' => M.pure (.nx, env')) objs) D := by
    cases e : ev F p env objs with
    | none => rw [M.bind_none e]; rw [show exec F (.set (.nm i) p) env objs = none from M.bind_none e] at h; exact h
    | some r =>
      cases r with
      | ex c o => rw [M.bind_ex e]; rw [show exec F (.set (.nm i) p) env objs = _ from M.bind_ex e] at h; exact h
      | ok d o =>
        obtain ⟨ds, rfl⟩ := hL _ _ _ _ e
        rw [M.bind_ok e]
        rw [show exec F (.set (.nm i) p) env objs = _ from M.bind_ok e] at h
        exact h
  refine st_rdF (f := fun d => M.bind (M.lift (asg (.nm i) d env)) fun env' => M.pure (.nx, env')) rel tm e0 fun a H1 m1 ds ws o rel1 tm1 s1 ha ra h1 => ?_
  obtain ⟨env', ea, h2⟩ := h1.lift
  obtain ⟨R2, s2, r2⟩ := rel_val rel1 tm1 ha ra
  unfold asg at ea
  split at ea
  · cases ea
    exact h2 _ H1 _ (rel_set R2 r2) mset_same s2
  · cases ea
theorem st_own {st : Stmt} {i : Nat} (h : PS X st (tAsg (rdF P F W p) (gName i))) : PS X st (rdS P F W (.own i p)) := by
  refine psC h fun D σ H ⟨env, objs, m, rel, tm, h⟩ => ?_
  refine st_rdF (f := fun d => match d with | .list xs => M.bind (setC env i (.own xs)) fun env' => M.pure (.nx, env') | _ => M.stuck) rel tm h fun a H1 m1 ds ws o rel1 tm1 s1 ha ra h1 => ?_
  have h1 : PostS P W m1 H1 (M.bind (setC env i (.own ds)) (fun env' => M.pure (.nx, env')) o) D := h1
  unfold setC at h1
  split at h1
  · rename_i hi
    obtain ⟨R2, s2⟩ := rel_own rel1 tm1 ha ra hi
    exact h1 _ H1 _ R2 (by rw [mset_ne (by intro z; cases z), mset_same]) s2
  · exact h1.elim
/-- the plain form for name = new list -/
theorem asg_name (fr : FrX X P) {t : TE} {i : Nat} {x : Str} {xp : Pos} (hi : X.N[i]? = some x) (hx : Loc X.env.scope x) (hf : X.fn x = true ∨ X.env.scope.names.lookup x = some .local) (he : PE X e t) (hs : swapsWith e (some (.Name x xp)) pos.line X.env = pure false) :
    PS X (.Assign [.Name x xp] e pos) (tAsg t (gName i)) := ps_set fr.nd hi hx he hs hf
/-- tuple of names = value -/
theorem st_unp (fr : FrX X P) {tg : Expr} {t : Tg} (hg : PG X tg (rdG P t)) (he : PE X e (rd P F W p)) (hs : swapsWithSole [tg] e pos.line X.env = pure false) (hw : swappedStores [tg] e X.env = pure none) (hae : (assignEach [tg] X.env).map (·.2) = [assign tg X.env]) : PS X (.Assign [tg] e pos) (rdS P F W (.set t p)) := by
  refine psC (ps_asg he hg hs hw hae) fun D σ H ⟨env, objs, m, rel, tm, h⟩ => ?_
  refine st_rd rel tm h fun v H1 m1 d o rel1 tm1 s1 r1 h1 => ?_
  obtain ⟨env', ea, h2⟩ := h1.lift
  exact ⟨env, o, m1, d, env', rel1, r1, ea, fun σ' R _ => h2 σ' H1 m1 R tm1 Step.refl⟩
theorem setAll2 {env env' : Env} {i j : Nat} {ds : List PyData} (h : setAll env [i, j] ds = some env') : ∃ d1 d2, ds = [d1, d2] ∧ i < env.length ∧ j < env.length ∧ env' = (env.set i (some (.v d1))).set j (some (.v d2)) := by
  match ds, h with
  | [], h => cases h
  | [_], h => unfold setAll at h; split at h <;> cases h
  | [d1, d2], h =>
    unfold setAll at h
    split at h
    · rename_i h1
      unfold setAll at h
      split at h
      · rename_i h2
        cases h
        exact ⟨d1, d2, rfl, h1.1, by simpa using h2.1, rfl⟩
      · cases h
    · cases h
  | _ :: _ :: _ :: _, h =>
    unfold setAll at h
    split at h
    · unfold setAll at h
      split at h
      · cases h
      · cases h
    · cases h
theorem setAll3 {env env' : Env} {i j l : Nat} {ds : List PyData} (h : setAll env [i, j, l] ds = some env') : ∃ d1 d2 d3, ds = [d1, d2, d3] ∧ env' = ((env.set i (some (.v d1))).set j (some (.v d2))).set l (some (.v d3)) := by
  match ds, h with
  | [], h => cases h
  | d1 :: ds, h =>
    unfold setAll at h
    split at h
    · rename_i h1
      obtain ⟨d2, d3, rfl, _, _, rfl⟩ := setAll2 h
      exact ⟨d1, d2, d3, rfl, rfl⟩
    · cases h
theorem AllR.three {R : V → PyData → Prop} {vs : List V} {d e f : PyData} (h : AllR R vs [d, e, f]) : ∃ v w u, vs = [v, w, u] ∧ R v d ∧ R w e ∧ R u f := by
  cases h with
  | cons r t =>
    obtain ⟨w, u, rfl, h1, h2⟩ := t.two
    exact ⟨_, _, _, rfl, r, h1, h2⟩
theorem st_par2 (fr : FrX X P) {i j : Nat} {x y : Str} {px py pt : Pos} {kt k2 : Nat} {pt2 : Pos} {ps : Es} (hi : X.N[i]? = some x) (hj : X.N[j]? = some y) (hij : i ≠ j)
    (hx : X.env.scope.names.lookup x = some .local) (hy : X.env.scope.names.lookup y = some .local) (ha : PA X [a, b] (rdA P F W (RV P) ps))
    (hw : swappedStores [.Tuple [.Name x px, .Name y py] kt pt] (.Tuple [a, b] k2 pt2) X.env = pure (some [x, y])) :
    PS X (.Assign [.Tuple [.Name x px, .Name y py] kt pt] (.Tuple [a, b] k2 pt2) pos) (rdS P F W (.par [i, j] ps)) := by
  refine psC (ps_par fr.calm fr.nd hi hj hij hx hy ha hw rfl) fun D σ H ⟨env, objs, m, rel, tm, h⟩ => ?_
  refine st_rdA rel tm h fun vs H1 m1 ds o rel1 tm1 s1 r1 h1 => ?_
  obtain ⟨env', ea, h2⟩ := h1.lift
  obtain ⟨d1, d2, rfl, _, _, rfl⟩ := setAll2 ea
  obtain ⟨v, w, rfl, q1, q2⟩ := r1.two
  exact ⟨v, w, rfl, h2 _ H1 m1 (rel_set (rel_set rel1 q1) q2) tm1 Step.refl⟩
theorem st_par3 (fr : FrX X P) {i j l : Nat} {x y z : Str} {px py pz pt : Pos} {kt k2 : Nat} {pt2 : Pos} {ps : Es} (hi : X.N[i]? = some x) (hj : X.N[j]? = some y) (hl : X.N[l]? = some z) (hij : i ≠ j) (hil : i ≠ l) (hjl : j ≠ l)
    (hx : X.env.scope.names.lookup x = some .local) (hy : X.env.scope.names.lookup y = some .local) (hz : X.env.scope.names.lookup z = some .local) (ha : PA X [a, b, c] (rdA P F W (RV P) ps))
    (hw : swappedStores [.Tuple [.Name x px, .Name y py, .Name z pz] kt pt] (.Tuple [a, b, c] k2 pt2) X.env = pure (some [x, y, z])) :
    PS X (.Assign [.Tuple [.Name x px, .Name y py, .Name z pz] kt pt] (.Tuple [a, b, c] k2 pt2) pos) (rdS P F W (.par [i, j, l] ps)) := by
  refine psC (ps_par3 fr.calm fr.nd hi hj hl hij hil hjl hx hy hz ha hw rfl) fun D σ H ⟨env, objs, m, rel, tm, h⟩ => ?_
  refine st_rdA rel tm h fun vs H1 m1 ds o rel1 tm1 s1 r1 h1 => ?_
  obtain ⟨env', ea, h2⟩ := h1.lift
  obtain ⟨d1, d2, d3, rfl, rfl⟩ := setAll3 ea
  obtain ⟨v, w, u, rfl, q1, q2, q3⟩ := r1.three
  exact ⟨v, w, u, rfl, h2 _ H1 m1 (rel_set (rel_set (rel_set rel1 q1) q2) q3) tm1 Step.refl⟩
theorem st_ret (he : PE X e (rd P F W p)) : PS X (.Return (some e) pos) (rdS P F W (.ret p)) := by
  refine psC (ps_ret he) fun D σ H ⟨env, objs, m, rel, tm, h⟩ => ?_
  obtain ⟨R2, t2, s2⟩ := rel_frz (env' := frz env) rel (by unfold frz; rw [List.length_map]) frz_get
  refine st_rd R2 (t2.trans tm) (PostS.later s2 h) fun v H1 m1 d o rel1 tm1 s1 r1 h1 => ?_
  exact h1 v H1 (mob m1) (relO_mob rel1.toRelO) (fun _ => rfl) rfl (step_mob Step.refl) (rep_mob r1)
theorem st_retN : PS X (.Return none pos) (rdS P F W .retN) := psC ps_retN fun D σ H ⟨env, objs, m, rel, tm, h⟩ =>
  h .non H (mob m) (relO_mob rel.toRelO) (fun _ => rfl) rfl (step_mob Step.refl) .non
end
end Tn
set_option Elab.async false
set_option linter.all false
set_option maxRecDepth 100000
set_option maxHeartbeats 4000000
namespace Tn
open PySem PySem.Spec PyProof.Rows L2
section
variable {X : Cx} {P : Par} {F : Nat → List D → M D} {W : Nat → Hp → Prop} {pos : Pos} {e a b c : Expr} {p pa pb pc : E}
theorem nosw {e : Expr} {tg : Option Expr} {l : Nat} {env : PySem.Env} (h : ∀ (x : Expr) (gs : List Comprehension) (s : Scope) (p : Pos), e ≠ .ListComp x gs s p) (h2 : ∀ x gs s p, e ≠ .SetComp x gs s p) (h3 : ∀ k x gs s p, e ≠ .DictComp k x gs s p) : swapsWith e tg l env = pure false := by
  cases e <;> first
    | rfl
    | exact absurd rfl (h _ _ _ _)
    | exact absurd rfl (h2 _ _ _ _)
    | exact absurd rfl (h3 _ _ _ _ _)
theorem st_append (fr : FrX X P) {i : Nat} {x : Str} {np p4 p6 : Pos} (hN : X.N[i]? = some x) (hv : Vis X.env.scope x) (hd : (x == ("__debug__" : Str)) = false) (hcd : (x == ("__classdict__" : Str)) = false) (ok : okE e = true) (he : PE X e (rd P F W p)) (hl : (p4.endLine == pos.line) = true) :
    PS X (.Expr (.Call (.Attribute (.Name x np) "append" p4) [e] [] pos) p6) (rdS P F W (.append i p)) := by
  refine psC (ps_expr (pe_bm PySem.F.plainAttrs_list PySem.F.slot_list_append PySem.F.type_list_append mt_append (pe_var hN hv hd hcd) (pa_cons he pa_nil (star_cons ok)) rfl (few1 ok) hl (star_cons ok) rfl) rfl) fun D σ H ⟨env, objs, m, rel, tm, h⟩ => ?_
  obtain ⟨xs, ex, h⟩ := h.lift
  have ei := ownAt_some ex
  obtain ⟨ad, ws, g1, g2, g3, g4⟩ := rel.slot i _ ei
  refine ⟨_, g2, .inl ⟨rfl, ws, .inl (.inl g3)⟩, ?_⟩
  refine st_rd rel tm h fun v H1 m1 d o rel1 tm1 s1 r1 h1 => ?_
  obtain ⟨ad', ws', g1', g2', g3', g4'⟩ := rel1.slot i _ ei
  rw [g2] at g2'
  cases g2'
  split at h1
  · rename_i hb
    have hi := (List.getElem?_eq_some_iff.mp ei).1
    have st := step_upd (o' := .lst (ws' ++ [v])) g1' g3' trivial
    obtain ⟨R2, s2⟩ := rel_sl (o' := .lst (ws' ++ [v])) (c' := .own (xs ++ [d])) rel1 g1' g3' trivial trivial hi ⟨ad, ws' ++ [v], g1', g2, upd_same, (g4'.step st).app (.cons (r1.step st) .nil)⟩
    refine ⟨ad, ws', v, rfl, rfl, g3', by rw [g4'.len]; exact Nat.lt_of_lt_of_le hb (Nat.le_of_eq big_line), ?_⟩
    have := h1 (σ.set i (some (.ref ad))) _ m1 ?_ tm1 s2
    · rw [set_same g2] at this
      exact this
    · rw [set_same g2]
      exact R2
  · exact h1.elim
where
  set_same {σ : L2.St} {i : Nat} {v : V} (h : σ[i]? = some (some v)) : σ.set i (some v) = σ := by
    apply List.ext_getElem?
    intro j
    by_cases hj : i = j
    · subst hj
      rw [List.getElem?_set_self (List.getElem?_eq_some_iff.mp h).1, h]
    · rw [List.getElem?_set_ne hj]
theorem st_extend (fr : FrX X P) {i : Nat} {x : Str} {np p4 p6 : Pos} (hN : X.N[i]? = some x) (hv : Vis X.env.scope x) (hd : (x == ("__debug__" : Str)) = false) (hcd : (x == ("__classdict__" : Str)) = false) (ok : okE e = true) (he : PE X e (rdF P F W p)) (hl : (p4.endLine == pos.line) = true) :
    PS X (.Expr (.Call (.Attribute (.Name x np) "extend" p4) [e] [] pos) p6) (rdS P F W (.extend i p)) := by
  refine psC (ps_expr (pe_bm PySem.F.plainAttrs_list PySem.F.slot_list_extend PySem.F.type_list_extend mt_extend (pe_var hN hv hd hcd) (pa_cons he pa_nil (star_cons ok)) rfl (few1 ok) hl (star_cons ok) rfl) rfl) fun D σ H ⟨env, objs, m, rel, tm, h⟩ => ?_
  obtain ⟨xs, ex, h⟩ := h.lift
  have ei := ownAt_some ex
  obtain ⟨ad, ws, g1, g2, g3, g4⟩ := rel.slot i _ ei
  refine ⟨_, g2, .inl ⟨rfl, ws, .inl (.inl g3)⟩, ?_⟩
  refine st_rdF (f := fun d => match d with | .list ds => (if xs.length + ds.length ≤ big then M.pure (.nx, env.set i (some (.own (xs ++ ds)))) else M.stuck) | _ => M.stuck) rel tm h fun ad2 H1 m1 ds zs o rel1 tm1 s1 ha ra h1 => ?_
  obtain ⟨ad', ws', g1', g2', g3', g4'⟩ := rel1.slot i _ ei
  rw [g2] at g2'
  cases g2'
  have h1 : PostS P W m1 H1 ((if xs.length + ds.length ≤ big then M.pure (.nx, env.set i (some (.own (xs ++ ds)))) else M.stuck) o) D := h1
  split at h1
  · rename_i hb
    have hi := (List.getElem?_eq_some_iff.mp ei).1
    obtain ⟨R2, s2, _⟩ := rel_val rel1 tm1 ha ra
    have g1'' : mset m1 .tmp none (.sl i) = some ad := by rw [mset_ne (by intro z; cases z)]; exact g1'
    have st := step_upd (o' := .lst (ws' ++ zs)) g1'' g3' trivial
    obtain ⟨R3, s3⟩ := rel_sl (o' := .lst (ws' ++ zs)) (c' := .own (xs ++ ds)) R2 g1'' g3' trivial trivial hi ⟨ad, ws' ++ zs, g1'', g2, upd_same, ((g4'.step s2).step st).app ((ra.step s2).step st)⟩
    refine ⟨ad, ad2, ws', zs, rfl, rfl, g3', ha, by rw [g4'.len, ra.len]; exact bigLe hb, ?_⟩
    exact h1 σ _ _ R3 mset_same (s2.trans s3)
  · exact h1.elim
theorem st_seti (fr : FrX X P) {i : Nat} {x : Str} {np p4 : Pos} {ek : Expr} {pk : E} (hN : X.N[i]? = some x) (hv : Vis X.env.scope x) (hd : (x == ("__debug__" : Str)) = false) (hcd : (x == ("__classdict__" : Str)) = false) (he : PE X e (rd P F W p)) (hk : PE X ek (rd P F W pk))
    (hs : swapsWith e (some (.Subscript (.Name x np) ek p4)) pos.line X.env = pure false)
    (hw : swappedStores [.Subscript (.Name x np) ek p4] e X.env = pure none)
    (ha : ∀ v, assign (.Subscript (.Name x np) ek p4) X.env v = (do
      let ov ← holding [v] (eval (.Name x np) X.env)
      let iv ← holding [v, ov] (eval ek X.env)
      standAt p4
      holding [v, ov, iv] (setItem ov iv v)
      release [v, ov, iv] [])) :
    PS X (.Assign [.Subscript (.Name x np) ek p4] e pos) (rdS P F W (.seti i pk p)) := by
  refine psC (ps_asg he (pg_sub (pe_var hN hv hd hcd) hk set_list ha) hs hw rfl) fun D σ H ⟨env, objs, m, rel, tm, h⟩ => ?_
  obtain ⟨xs, ex, h⟩ := h.lift
  have ei := ownAt_some ex
  obtain ⟨ad, ws, g1, g2, g3, g4⟩ := rel.slot i _ ei
  refine st_rd rel tm h fun v H1 m1 d o rel1 tm1 s1 r1 h1 => ?_
  refine ⟨_, g2, ?_⟩
  refine st_rd rel1 tm1 h1 fun y H2 m2 dk o2 rel2 tm2 s2 r2 h2 => ?_
  obtain ⟨n, en, h3⟩ := h2.lift
  obtain ⟨j, ej, h4⟩ := h3.lift
  cases intOf_some en
  obtain ⟨ad', ws', g1', g2', g3', g4'⟩ := rel2.slot i _ ei
  rw [g2] at g2'
  cases g2'
  have hi := (List.getElem?_eq_some_iff.mp ei).1
  have st := step_upd (o' := .lst (ws'.set j v)) g1' g3' trivial
  obtain ⟨R3, s3⟩ := rel_sl (o' := .lst (ws'.set j v)) (c' := .own (xs.set j d)) rel2 g1' g3' trivial trivial hi ⟨ad, ws'.set j v, g1', g2, upd_same, (g4'.step st).set ((r1.step s2).step st) j⟩
  refine ⟨ad, ws', n, j, rfl, r2.intI, g3', by rw [ixN_ixAt, g4'.len]; exact ej, ?_⟩
  exact h4 σ _ m2 R3 tm2 s3
theorem st_dnew (fr : FrX X P) {i : Nat} {x : Str} {xp dp : Pos} (hi : X.N[i]? = some x) (hx : Loc X.env.scope x) (hf : X.fn x = true ∨ X.env.scope.names.lookup x = some .local) : PS X (.Assign [.Name x xp] (.Dict [] [] dp) pos) (rdS P F W (.dnew i)) := by
  refine psC (ps_set fr.nd hi hx pe_dnewT rfl hf) fun D σ H ⟨env, objs, m, rel, tm, h⟩ => ?_
  have h : PostS P W m H (M.bind (setC env i (.dic [])) (fun env' => M.pure (.nx, env')) objs) D := h
  unfold setC at h
  split at h
  · rename_i hlt
    intro q hq
    have hm : ∀ k, k ≠ Ky.tmp → mset m .tmp (some q) k = m k := fun k hk => mset_ne hk
    have ht : ∀ a, mset m .tmp (some q) .tmp = some a → (H a = none ∧ ∃ o, upd H q (.dT []) a = some o ∧ Mu o) ∨ m .tmp = some a := fun a z => by
      rw [mset_same] at z
      cases z
      exact .inl ⟨hq, _, upd_same, trivial⟩
    have st2 : Step m H (mset m .tmp (some q)) (upd H q (.dT [])) := step_more rel.toRelO (keeps_upd hq) hm ht
    have R2 := rel.more (keeps_upd hq) hm ht
    obtain ⟨R3, s3⟩ := rel_dic R2 mset_same upd_same hlt
    exact h _ _ _ R3 (by rw [mset_ne (by intro z; cases z), mset_same]) (st2.trans s3)
  · exact h.elim
where
  /-- a new dict becomes one's own -/
  rel_dic {P : Par} {σ : L2.St} {env : Env} {m : Mp} {H : Hp} {objs : Objs} {a : Addr} (R : Rel P σ H env objs m) (tm : m .tmp = some a) (ha : H a = some (.dT [])) {i : Nat} (hi : i < env.length) :
      Rel P (σ.set i (some (.ref a))) H (env.set i (some (.dic []))) objs (mset (mset m .tmp none) (.sl i) (some a)) ∧ Step m H (mset (mset m .tmp none) (.sl i) (some a)) H := by
    have src : ∀ k b, mset (mset m .tmp none) (.sl i) (some a) k = some b → (k = .sl i ∧ b = a) ∨ (m k = some b ∧ k ≠ .sl i ∧ k ≠ .tmp) := fun k b h => by
      by_cases hk : k = .sl i
      · subst hk; rw [mset_same] at h; cases h; exact .inl ⟨rfl, rfl⟩
      · rw [mset_ne hk] at h
        by_cases ht : k = .tmp
        · subst ht; rw [mset_same] at h; cases h
        · rw [mset_ne ht] at h; exact .inr ⟨h, hk, ht⟩
    have av : ∀ b, AV P (mset (mset m .tmp none) (.sl i) (some a)) b → AV P m b := by
      rintro b (h | ⟨k, h⟩)
      · exact .inl h
      · rcases src k b h with ⟨_, rfl⟩ | ⟨h, _⟩
        · exact .inr ⟨_, tm⟩
        · exact .inr ⟨_, h⟩
    have ob : ∀ k b, m (.ob k) = some b → mset (mset m .tmp none) (.sl i) (some a) (.ob k) = some b := fun k b h => by
      rw [mset_ne (by intro z; cases z), mset_ne (by intro z; cases z)]; exact h
    have fl : ∀ k j b, m (.fl k j) = some b → mset (mset m .tmp none) (.sl i) (some a) (.fl k j) = some b := fun k j b h => by
      rw [mset_ne (by intro z; cases z), mset_ne (by intro z; cases z)]; exact h
    have less : ∀ {v d}, Rep P m H v d → Rep P (mset (mset m .tmp none) (.sl i) (some a)) H v d := fun r => Rep.less (P := P) (P' := P) rfl av ob r
    have lessA : ∀ {v d}, RepAll P m H v d → RepAll P (mset (mset m .tmp none) (.sl i) (some a)) H v d := fun r => RepAll.less (P := P) (P' := P) rfl av ob r
    refine ⟨⟨⟨fun k k' b e e' => ?_, fun k b e => ?_, fun k b e => ?_, R.oal, fun n s e => ?_, fun n e => ?_⟩, by rw [List.length_set, List.length_set]; exact R.len, fun j c e => ?_⟩, ⟨fun _ _ z _ => z, fun _ _ z _ => z, fun k b e => ?_, ob⟩⟩
    · rcases src k b e with ⟨rfl, rfl⟩ | ⟨h, h1, h2⟩
      · rcases src k' b e' with ⟨rfl, _⟩ | ⟨h', h1', h2'⟩
        · rfl
        · exact absurd (R.inj _ _ _ h' tm) h2'
      · rcases src k' b e' with ⟨rfl, rfl⟩ | ⟨h', h1', h2'⟩
        · exact absurd (R.inj _ _ _ h tm) h2
        · exact R.inj _ _ _ h h'
    · rcases src k b e with ⟨rfl, rfl⟩ | ⟨h, h1, h2⟩
      · exact R.dis _ _ tm
      · exact R.dis _ _ h
    · rcases src k b e with ⟨rfl, rfl⟩ | ⟨h, h1, h2⟩
      · exact R.alive _ _ tm
      · exact R.alive _ _ h
    · obtain ⟨b, ks, vs, h1, h2, h3, h4, h5, h6⟩ := R.obs n s e
      refine ⟨b, ks, vs, ob _ _ h1, h2, h3, h4, h5, fun j c hc => ?_⟩
      have h7 := h6 j c hc
      cases c with
      | v d => obtain ⟨v, e1, r⟩ := h7; exact ⟨v, e1, less r⟩
      | own xs => obtain ⟨b, ws, e1, e2, e3, r⟩ := h7; exact ⟨b, ws, fl _ _ _ e1, e2, e3, lessA r⟩
      | dic kvs => exact h7
    · rw [mset_ne (by intro z; cases z), mset_ne (by intro z; cases z)]
      exact R.obn n e
    · by_cases hij : i = j
      · subst hij
        rw [List.getElem?_set_self hi] at e
        cases e
        exact ⟨a, [], mset_same, by rw [List.getElem?_set_self (by rw [R.len]; exact hi)], ha, rfl, .nil⟩
      · rw [List.getElem?_set_ne hij] at e
        have h7 := R.slot j c e
        have ne : (Ky.sl j) ≠ .sl i := fun z => by cases z; exact hij rfl
        cases c with
        | v d => obtain ⟨v, e1, r⟩ := h7; exact ⟨v, by rw [List.getElem?_set_ne hij]; exact e1, less r⟩
        | own xs => obtain ⟨b, ws, e1, e2, e3, r⟩ := h7; exact ⟨b, ws, by rw [mset_ne ne, mset_ne (by intro z; cases z)]; exact e1, by rw [List.getElem?_set_ne hij]; exact e2, e3, lessA r⟩
        | dic kvs => obtain ⟨b, ws, e1, e2, e3, e4, r⟩ := h7; exact ⟨b, ws, by rw [mset_ne ne, mset_ne (by intro z; cases z)]; exact e1, by rw [List.getElem?_set_ne hij]; exact e2, e3, e4, lessA r⟩
    · rcases src k b e with ⟨rfl, rfl⟩ | ⟨h, h1, h2⟩
      · exact .inl ⟨_, tm⟩
      · exact .inl ⟨_, h⟩
theorem st_dset (fr : FrX X P) {i : Nat} {x : Str} {np p4 : Pos} {ek : Expr} {pk : E} (hN : X.N[i]? = some x) (hv : Vis X.env.scope x) (hd : (x == ("__debug__" : Str)) = false) (hcd : (x == ("__classdict__" : Str)) = false) (he : PE X e (rd P F W p)) (hk : PE X ek (rd P F W pk))
    (hs : swapsWith e (some (.Subscript (.Name x np) ek p4)) pos.line X.env = pure false) : PS X (.Assign [.Subscript (.Name x np) ek p4] e pos) (rdS P F W (.dset i pk p)) := by
  refine psC (ps_dput (by have := fr.hu; omega) (pe_var hN hv hd hcd) hk he hs) fun D σ H ⟨env, objs, m, rel, tm, h⟩ => ?_
  have h : PostS P W m H (M.bind (getD env i) (fun kvs => M.bind (ev F p env) fun d => M.bind (ev F pk env) fun x => M.bind (M.lift (tupOf x)) fun t =>
      if kvs.length < big then M.pure (.nx, env.set i (some (.dic (putD kvs t d)))) else M.stuck) objs) D := h
  have hd : ∃ kvs, env[i]? = some (some (.dic kvs)) ∧ PostS P W m H (M.bind (ev F p env) (fun d => M.bind (ev F pk env) fun x => M.bind (M.lift (tupOf x)) fun t =>
      if kvs.length < big then M.pure (.nx, env.set i (some (.dic (putD kvs t d)))) else M.stuck) objs) D := by
    unfold getD at h
    split at h
    · rename_i kvs e
      exact ⟨kvs, e, h⟩
    · exact h.elim
  obtain ⟨kvs, ei, h⟩ := hd
  obtain ⟨ad, kws, g1, g2, g3, g4, g5⟩ := rel.slot i _ ei
  refine st_rd rel tm h fun v H1 m1 d o rel1 tm1 s1 r1 h1 => ?_
  refine ⟨_, g2, ?_⟩
  refine st_rd rel1 tm1 h1 fun y H2 m2 dk o2 rel2 tm2 s2 r2 h2 => ?_
  obtain ⟨ns, en, h3⟩ := h2.lift
  have hd := tupOf_some en
  subst hd
  obtain ⟨bd, rfl, hb⟩ := r2.key
  obtain ⟨ad', kws2, g1', g2', g3', g4', g5'⟩ := rel2.slot i _ ei
  rw [g2] at g2'
  cases g2'
  split at h3
  · rename_i hbig
    have hi := (List.getElem?_eq_some_iff.mp ei).1
    have st := step_upd (o' := .dT (putK kws2 (ns.map Sum.inl) v)) g1' g3' trivial
    obtain ⟨q1, q2⟩ := dic_put ns ((r1.step s2).step st) g4' (g5'.step st)
    obtain ⟨R3, s3⟩ := rel_sl (o' := .dT (putK kws2 (ns.map Sum.inl) v)) (c' := .dic (putD kvs ns d)) rel2 g1' g3' trivial trivial hi ⟨ad, _, g1', g2, upd_same, q1, q2⟩
    refine ⟨ad, _, rfl, DPut.t g3' hb ?_, h3 σ _ m2 R3 tm2 s3⟩
    have e1 : kws2.length = kvs.length := by
      have := g5'.len
      simpa using this
    rw [e1]
    exact Nat.lt_of_lt_of_le hbig (Nat.le_of_eq big_line)
  · exact h3.elim
end
end Tn
set_option Elab.async false
set_option linter.all false
set_option maxRecDepth 100000
set_option maxHeartbeats 4000000
namespace Tn
open PySem PySem.Spec PyProof.Rows L2
section
variable {X : Cx} {P : Par} {F : Nat → List D → M D} {W : Nat → Hp → Prop} {pos : Pos} {e a b c : Expr} {p pa pb pc : E}
theorem setO_post {m : Mp} {H : Hp} {objs : Objs} {D : Ends} {f : Unit → M (Fl × Env)} {kind fld : Nat} {d x : PyData} (h : PostS P W m H (M.bind (setO kind fld d x) f objs) D) :
    ∃ k s y, objAt d = some k ∧ objs[k]? = some s ∧ s.kind = kind ∧ s.fs[fld]? = some (.v y) ∧ PostS P W m H (f () (objs.set k { s with fs := s.fs.set fld (.v x) })) D := by
  cases e : setO kind fld d x objs with
  | none => rw [M.bind_none e] at h; exact h.elim
  | some r =>
    unfold setO at e
    cases hk : objAt d with
    | none => rw [hk] at e; cases e
    | some k =>
      rw [hk] at e
      dsimp only at e
      cases hs : objs[k]? with
      | none => rw [hs] at e; cases e
      | some s =>
        rw [hs] at e
        dsimp only at e
        split at e
        · rename_i hkind
          split at e
          · rename_i y hx
            cases e
            refine ⟨k, s, y, rfl, hs, hkind, hx, ?_⟩
            have e2 : setO kind fld d x objs = some (.ok () (objs.set k { s with fs := s.fs.set fld (.v x) })) := by
              unfold setO
              rw [hk]
              dsimp only
              rw [hs]
              dsimp only
              rw [if_pos hkind, hx]
            rw [M.bind_ok e2] at h
            exact h
          · cases e
        · cases e
theorem st_setO (fr : FrX X P) {kind fld : Nat} {ks : List Str} {x : Str} {j : Nat} {p2 p3 : Pos} (hks : P.kinds[kind]? = some ks) (nd : ks.Nodup) (hl : ks.length ≤ 15) (hx : ks[fld]? = some x) (ha : PE X a (rd P F W pa)) (hv : PE X e (rd P F W p))
    (hs : swapsWith e (some (.Subscript a (.Constant (.str x) j p2) p3)) pos.line X.env = pure false) : PS X (.Assign [.Subscript a (.Constant (.str x) j p2) p3] e pos) (rdS P F W (.setF kind fld pa p)) := by
  refine psC (ps_dput (by have := fr.hu; omega) ha pe_str hv hs) fun D σ H ⟨env, objs, m, rel, tm, h⟩ => ?_
  refine st_rd rel tm h fun v H1 m1 d o rel1 tm1 s1 r1 h1 => st_rd rel1 tm1 h1 fun y H2 m2 d2 o2 rel2 tm2 s2 r2 h2 => ?_
  obtain ⟨k, s, y0, e1, e2, e3, e4, h3⟩ := setO_post h2
  obtain ⟨ad, vs, w, rfl, f1, f2, f3, f4, f5, f6, f7, f8⟩ := field_at (σ := σ) (env := env) rel2.toRelO r2 e1 e2 e3 e4 hks nd hx
  have hput : putK (zipK ks vs) (Sum.inr x) v = zipK ks (vs.set fld v) := by
    unfold putK
    rw [if_pos (zip_mem (by rw [f2, f3]) hx)]
    exact zip_put v nd hx
  have hlen : (zipK ks vs).length < sizeLine := by
    rw [zip_len (by rw [f2, f3])]
    have : (15 : Nat) < sizeLine := by decide
    omega
  have dp := DPut.k (k := Sum.inr x) (v := v) f4 hlen
  rw [hput] at dp
  refine ⟨ad, _, rfl, dp, ?_⟩
  have st := step_upd (o' := .dK (zipK ks (vs.set fld v))) f1 f4 trivial
  have hkl : k < o2.length := (List.getElem?_eq_some_iff.mp e2).1
  have hfl : fld < s.fs.length := (List.getElem?_eq_some_iff.mp e4).1
  have r1' := (r1.step s2).step st
  have O : RelO P (upd H2 ad (.dK (zipK ks (vs.set fld v)))) (o2.set k { s with fs := s.fs.set fld (.v d) }) m2 := by
    refine relO_upd rel2.toRelO (o' := .dK (zipK ks (vs.set fld v))) f1 f4 trivial trivial (by rw [List.length_set]) fun k2 s2' z => ?_
    by_cases hk : k = k2
    · subst hk
      rw [List.getElem?_set_self hkl] at z
      cases z
      right
      refine ⟨ad, ks, vs.set fld v, f1, e3 ▸ hks, by rw [List.length_set]; exact f2, by rw [List.length_set, List.length_set]; exact f3, upd_same, fun j2 c hc => ?_⟩
      by_cases hj2 : fld = j2
      · subst hj2
        rw [List.getElem?_set_self hfl] at hc
        cases hc
        exact ⟨v, by rw [List.getElem?_set_self (by rw [f3]; exact hfl)], r1'⟩
      · rw [List.getElem?_set_ne hj2] at hc
        have h7 := f8 j2 c hc
        cases c with
        | v d => obtain ⟨v, g1, r⟩ := h7; exact ⟨v, by rw [List.getElem?_set_ne hj2]; exact g1, r.step st⟩
        | own xs =>
          obtain ⟨b', ws, g1, g2, g3, r⟩ := h7
          refine ⟨b', ws, g1, by rw [List.getElem?_set_ne hj2]; exact g2, ?_, r.step st⟩
          rw [upd_ne (fun z : b' = ad => by subst z; exact absurd (rel2.inj _ _ _ g1 f1) (by intro w; cases w))]
          exact g3
        | dic kvs => exact h7
    · rw [List.getElem?_set_ne hk] at z
      exact .inl ⟨z, (fun w => hk (by cases w; rfl)), fun j2 w => by cases w⟩
  exact h3 σ _ m2 ⟨O, rel2.len, fun i c z => slotR_upd rel2.toRelO f1 f4 trivial (fun w => by cases w) (rel2.slot i c z)⟩ tm2 st
/-! ### a new object, returned -/
inductive FRel (P : Par) (σ : L2.St) (env : Env) (m : Mp) (H : Hp) : List (Bool × E) → List V → List Cell → Prop
  | nil : FRel P σ env m H [] [] []
  | val {v : V} {d : PyData} {e : E} {fs : List (Bool × E)} {vs : List V} {cs : List Cell} : Rep P m H v d → FRel P σ env m H fs vs cs → FRel P σ env m H ((false, e) :: fs) (v :: vs) (.v d :: cs)
  | own {v : V} {i : Nat} {xs : List PyData} {fs : List (Bool × E)} {vs : List V} {cs : List Cell} : σ[i]? = some (some v) → ownAt env i = some xs → FRel P σ env m H fs vs cs → FRel P σ env m H ((true, .var i) :: fs) (v :: vs) (.own xs :: cs)
section
variable {σ : L2.St} {env : Env} {m m' m1 : Mp} {H H' H1 : Hp} {objs : Objs} {D : Ends}
theorem FRel.step (s : Step m H m' H') : ∀ {fs vs cs}, FRel P σ env m H fs vs cs → FRel P σ env m' H' fs vs cs
  | _, _, _, .nil => .nil
  | _, _, _, .val r t => .val (r.step s) (FRel.step s t)
  | _, _, _, .own a b t => .own a b (FRel.step s t)
theorem FRel.len : ∀ {fs vs cs}, FRel P σ env m H fs vs cs → vs.length = fs.length ∧ cs.length = fs.length
  | _, _, _, .nil => ⟨rfl, rfl⟩
  | _, _, _, .val r t => ⟨congrArg Nat.succ (FRel.len t).1, congrArg Nat.succ (FRel.len t).2⟩
  | _, _, _, .own a b t => ⟨congrArg Nat.succ (FRel.len t).1, congrArg Nat.succ (FRel.len t).2⟩
theorem FRel.unpd {q : Addr} (tm : m .tmp = none) : ∀ {fs vs cs}, FRel (PD P q) σ env m H fs vs cs → FRel P σ env (mset m .tmp (some q)) H fs vs cs
  | _, _, _, .nil => .nil
  | _, _, _, .val r t => .val (r.unpd tm) (FRel.unpd tm t)
  | _, _, _, .own a b t => .own a b (FRel.unpd tm t)
def mv : List (Bool × E) → Nat → Option Nat
  | [], _ => none
  | f :: _, 0 => headMv f
  | _ :: fs, j + 1 => mv fs j
theorem mv_mem : ∀ {fs : List (Bool × E)} {j i : Nat}, mv fs j = some i → i ∈ movedIx fs
  | [], _, _, h => by simp [mv] at h
  | f :: fs, 0, i, h => by
    have h : headMv f = some i := h
    unfold movedIx
    rw [h]
    simp
  | f :: fs, j + 1, i, h => by
    have ih := mv_mem (show mv fs j = some i from h)
    unfold movedIx
    exact List.mem_append_right _ ih
theorem mv_inj : ∀ {fs : List (Bool × E)} {j j' i : Nat}, (movedIx fs).Nodup → mv fs j = some i → mv fs j' = some i → j = j'
  | [], _, _, _, _, h, _ => by simp [mv] at h
  | f :: fs, 0, 0, i, nd, h, h' => rfl
  | f :: fs, 0, j' + 1, i, nd, h, h' => by
    have h : headMv f = some i := h
    have h2 := mv_mem (show mv fs j' = some i from h')
    unfold movedIx at nd
    rw [h] at nd
    exact absurd h2 (List.nodup_cons.mp nd).1
  | f :: fs, j + 1, 0, i, nd, h, h' => by
    have h' : headMv f = some i := h'
    have h2 := mv_mem (show mv fs j = some i from h)
    unfold movedIx at nd
    rw [h'] at nd
    exact absurd h2 (List.nodup_cons.mp nd).1
  | f :: fs, j + 1, j' + 1, i, nd, h, h' => by
    unfold movedIx at nd
    rw [mv_inj (List.nodup_append.mp nd).2.1 (show mv fs j = some i from h) (show mv fs j' = some i from h')]
theorem FRel.at : ∀ {fs vs cs} {j : Nat} {c : Cell}, FRel P σ env m H fs vs cs → cs[j]? = some c → match c with
    | .v d => ∃ v, vs[j]? = some v ∧ Rep P m H v d
    | .own xs => ∃ i v, mv fs j = some i ∧ vs[j]? = some v ∧ σ[i]? = some (some v) ∧ ownAt env i = some xs
    | .dic _ => False
  | _, _, _, _, _, .nil, h => by simp at h
  | _, _, _, 0, c, .val r t, h => by
    simp at h
    subst h
    exact ⟨_, rfl, r⟩
  | _, _, _, 0, c, .own a b t, h => by
    simp at h
    subst h
    exact ⟨_, _, rfl, rfl, a, b⟩
  | _, _, _, j + 1, c, .val r t, h => by
    have ih := FRel.at (j := j) (c := c) t (by simpa using h)
    cases c with
    | v d => obtain ⟨v, h1, h2⟩ := ih; exact ⟨v, by simpa using h1, h2⟩
    | own xs => obtain ⟨i, v, h1, h2, h3, h4⟩ := ih; exact ⟨i, v, by unfold mv; exact h1, by simpa using h2, h3, h4⟩
    | dic _ => exact ih
  | _, _, _, j + 1, c, .own a b t, h => by
    have ih := FRel.at (j := j) (c := c) t (by simpa using h)
    cases c with
    | v d => obtain ⟨v, h1, h2⟩ := ih; exact ⟨v, by simpa using h1, h2⟩
    | own xs => obtain ⟨i, v, h1, h2, h3, h4⟩ := ih; exact ⟨i, v, by unfold mv; exact h1, by simpa using h2, h3, h4⟩
    | dic _ => exact ih
/-- the new owners -/
def mnew (k : Nat) (q : Addr) (fs : List (Bool × E)) (m : Mp) : Mp := fun key => match key with
  | .ob n => if n = k then some q else m (.ob n)
  | .fl n j => if n = k then (mv fs j).bind fun i => m (.sl i) else m (.fl n j)
  | _ => none
theorem rel_new {q : Addr} {kind : Nat} {ks : List Str} {fs : List (Bool × E)} {vs : List V} {cs : List Cell} (R : Rel P σ H env objs m) (tm : m .tmp = some q) (hq : H q = some (.dK (zipK ks vs))) (fr : FRel P σ env m H fs vs cs) (nd : (movedIx fs).Nodup)
    (hks : P.kinds[kind]? = some ks) (hl : ks.length = fs.length) :
    RelO P H (objs ++ [⟨kind, cs⟩]) (mnew objs.length q fs m) ∧ (∀ i, mnew objs.length q fs m (.sl i) = none) ∧ mnew objs.length q fs m .tmp = none ∧ Step m H (mnew objs.length q fs m) H ∧ Rep P (mnew objs.length q fs m) H (.ref q) (Tn.obj objs.length) := by
  have src : ∀ key a, mnew objs.length q fs m key = some a → (key = .ob objs.length ∧ a = q) ∨ (∃ n, key = .ob n ∧ n ≠ objs.length ∧ m (.ob n) = some a) ∨ (∃ j i, key = .fl objs.length j ∧ mv fs j = some i ∧ m (.sl i) = some a) ∨ (∃ n j, key = .fl n j ∧ n ≠ objs.length ∧ m (.fl n j) = some a) := fun key a h => by
    cases key with
    | sl i => cases h
    | tmp => cases h
    | ob n =>
      have h1 : (if n = objs.length then some q else m (.ob n)) = some a := h
      by_cases e : n = objs.length
      · rw [if_pos e] at h1
        subst e
        exact .inl ⟨rfl, (Option.some.inj h1).symm⟩
      · rw [if_neg e] at h1
        exact .inr (.inl ⟨n, rfl, e, h1⟩)
    | fl n j =>
      have h1 : (if n = objs.length then (mv fs j).bind (fun i => m (.sl i)) else m (.fl n j)) = some a := h
      by_cases e : n = objs.length
      · rw [if_pos e] at h1
        subst e
        obtain ⟨i, h2, h3⟩ := Option.bind_eq_some_iff.mp h1
        exact .inr (.inr (.inl ⟨j, i, rfl, h2, h3⟩))
      · rw [if_neg e] at h1
        exact .inr (.inr (.inr ⟨n, j, rfl, e, h1⟩))
  have any : ∀ key a, mnew objs.length q fs m key = some a → ∃ key', m key' = some a := fun key a h => by
    rcases src key a h with ⟨_, rfl⟩ | ⟨n, _, _, h⟩ | ⟨j, i, _, _, h⟩ | ⟨n, j, _, _, h⟩
    · exact ⟨_, tm⟩
    · exact ⟨_, h⟩
    · exact ⟨_, h⟩
    · exact ⟨_, h⟩
  have av : ∀ a, AV P (mnew objs.length q fs m) a → AV P m a := by
    rintro a (h | ⟨k, h⟩)
    · exact .inl h
    · exact .inr (any k a h)
  have ob : ∀ n a, m (.ob n) = some a → mnew objs.length q fs m (.ob n) = some a := fun n a h => by
    have hn : n ≠ objs.length := fun z => by
      have := R.obn n (by omega)
      rw [h] at this; cases this
    show (if n = objs.length then some q else m (.ob n)) = some a
    rw [if_neg hn]
    exact h
  have less : ∀ {v d}, Rep P m H v d → Rep P (mnew objs.length q fs m) H v d := fun r => Rep.less (P := P) (P' := P) rfl av ob r
  have lessA : ∀ {v d}, RepAll P m H v d → RepAll P (mnew objs.length q fs m) H v d := fun r => RepAll.less (P := P) (P' := P) rfl av ob r
  have obq : mnew objs.length q fs m (.ob objs.length) = some q := by
    show (if objs.length = objs.length then some q else _) = some q
    rw [if_pos rfl]
  refine ⟨⟨fun key key' a e e' => ?_, fun k a e => ?_, fun k a e => ?_, R.oal, fun n s e => ?_, fun n e => ?_⟩, fun _ => rfl, rfl, ⟨fun _ _ z _ => z, fun _ _ z _ => z, fun k a e => .inl (any k a e), ob⟩, .obj obq⟩
  · rcases src key a e with ⟨rfl, rfl⟩ | ⟨n, rfl, hn, h⟩ | ⟨j, i, rfl, hj, h⟩ | ⟨n, j, rfl, hn, h⟩ <;> rcases src key' a e' with ⟨rfl, e2⟩ | ⟨n', rfl, hn', h'⟩ | ⟨j', i', rfl, hj', h'⟩ | ⟨n', j', rfl, hn', h'⟩
    · rfl
    · exact absurd (R.inj _ _ _ tm h') (by intro z; cases z)
    · exact absurd (R.inj _ _ _ tm h') (by intro z; cases z)
    · exact absurd (R.inj _ _ _ tm h') (by intro z; cases z)
    · subst e2; exact absurd (R.inj _ _ _ tm h) (by intro z; cases z)
    · exact R.inj _ _ _ h h'
    · exact absurd (R.inj _ _ _ h h') (by intro z; cases z)
    · exact absurd (R.inj _ _ _ h h') (by intro z; cases z)
    · subst e2; exact absurd (R.inj _ _ _ tm h) (by intro z; cases z)
    · exact absurd (R.inj _ _ _ h h') (by intro z; cases z)
    · have := R.inj _ _ _ h h'
      cases this
      rw [mv_inj nd hj hj']
    · exact absurd (R.inj _ _ _ h h') (by intro z; cases z)
    · subst e2; exact absurd (R.inj _ _ _ tm h) (by intro z; cases z)
    · exact absurd (R.inj _ _ _ h h') (by intro z; cases z)
    · exact absurd (R.inj _ _ _ h h') (by intro z; cases z)
    · exact R.inj _ _ _ h h'
  · obtain ⟨k', h⟩ := any k a e
    exact R.dis _ _ h
  · obtain ⟨k', h⟩ := any k a e
    exact R.alive _ _ h
  · by_cases hn : n < objs.length
    · rw [List.getElem?_append_left hn] at e
      obtain ⟨a, ks', vs', h1, h2, h3, h4, h5, h6⟩ := R.obs n s e
      refine ⟨a, ks', vs', ob _ _ h1, h2, h3, h4, h5, fun j c hc => ?_⟩
      have h7 := h6 j c hc
      cases c with
      | v d => obtain ⟨v, e1, r⟩ := h7; exact ⟨v, e1, less r⟩
      | own xs =>
        obtain ⟨b, ws, e1, e2, e3, r⟩ := h7
        refine ⟨b, ws, ?_, e2, e3, lessA r⟩
        show (if n = objs.length then _ else m (.fl n j)) = some b
        rw [if_neg (by omega)]
        exact e1
      | dic kvs => exact h7
    · have hn2 : n = objs.length := by
        have := (List.getElem?_eq_some_iff.mp e).1
        rw [List.length_append] at this
        simp at this
        omega
      subst hn2
      rw [List.getElem?_append_right (Nat.le_refl _), Nat.sub_self] at e
      simp at e
      subst e
      obtain ⟨l1, l2⟩ := fr.len
      refine ⟨q, ks, vs, obq, hks, by rw [hl]; exact l2.symm, l1.trans l2.symm, hq, fun j c hc => ?_⟩
      have h7 := fr.at hc
      cases c with
      | v d => obtain ⟨v, e1, r⟩ := h7; exact ⟨v, e1, less r⟩
      | own xs =>
        obtain ⟨i, v, h1, h2, h3, h4⟩ := h7
        obtain ⟨a, ws, g1, g2, g3, g4⟩ := R.slot i _ (ownAt_some h4)
        rw [h3] at g2
        cases g2
        refine ⟨a, ws, ?_, h2, g3, lessA g4⟩
        show (if objs.length = objs.length then (mv fs j).bind (fun i => m (.sl i)) else _) = some a
        rw [if_pos rfl, h1]
        exact g1
      | dic kvs => exact h7
  · rw [List.length_append] at e
    simp at e
    show (if n = objs.length then some q else m (.ob n)) = none
    rw [if_neg (by omega)]
    exact R.obn n (by omega)
end
def tvOf (P : Par) (F : Nat → List D → M D) (W : Nat → Hp → Prop) : Bool × E → TE
  | (false, e) => fun σ H Q => ∃ q, rd (PD P q) F W e σ H Q
  | (true, .var i) => tVar i
  | (true, _) => fun _ _ _ => False
def trsOf (P : Par) (F : Nat → List D → M D) (W : Nat → Hp → Prop) : List Str → List (Bool × E) → List (TE × TE)
  | k :: ks, f :: fs => (tC (.str k), tvOf P F W f) :: trsOf P F W ks fs
  | _, _ => []
theorem merge_new : ∀ (more kvs : List (Key × V)), (more.map (·.1)).Nodup → (∀ k ∈ more.map (·.1), k ∉ kvs.map (·.1)) → mergeK kvs more = kvs ++ more
  | [], kvs, _, _ => by simp [mergeK]
  | x :: more, kvs, nd, dis => by
    rw [List.map_cons, List.nodup_cons] at nd
    have h0 : valV kvs x.1 = none := by
      cases h : valV kvs x.1 with
      | none => rfl
      | some v =>
        exfalso
        unfold valV at h
        obtain ⟨kv, h1, h2⟩ := Option.map_eq_some_iff.mp h
        have h3 := List.find?_some h1
        have h4 := List.mem_of_find?_eq_some h1
        have : kv.1 = x.1 := of_decide_eq_true h3
        exact dis x.1 (by simp) (by rw [← this]; exact List.mem_map_of_mem h4)
    have e1 : mergeK kvs (x :: more) = mergeK (putK kvs x.1 x.2) more := rfl
    rw [e1, putK_new _ h0, merge_new more _ nd.2 (fun k hk hk2 => ?_), List.append_assoc]
    · rfl
    · rw [List.map_append, List.mem_append] at hk2
      rcases hk2 with h | h
      · exact dis k (by simp [hk]) h
      · have : k = x.1 := by simpa using h
        subst this
        exact nd.1 hk
theorem zipK_keys : ∀ {ks : List Str} {vs : List V}, ks.length = vs.length → (zipK ks vs).map (·.1) = ks.map Sum.inr
  | [], [], _ => rfl
  | k :: ks, v :: vs, h => by
    have ih := zipK_keys (ks := ks) (vs := vs) (by simpa using h)
    unfold zipK at *
    rw [List.zipWith_cons_cons, List.map_cons, ih]
    rfl
  | [], _ :: _, h => by simp at h
  | _ :: _, [], h => by simp at h
theorem nodup_inr : ∀ {ks : List Str}, ks.Nodup → (ks.map (Sum.inr : Str → Key)).Nodup
  | [], _ => by simp
  | k :: ks, h => by
    rw [List.nodup_cons] at h
    rw [List.map_cons, List.nodup_cons]
    refine ⟨fun z => ?_, nodup_inr h.2⟩
    obtain ⟨x, h1, h2⟩ := List.mem_map.mp z
    cases h2
    exact h.1 h1
theorem fields_run {σ : L2.St} {env : Env} {q : Addr} {α : Type} {G : α → Objs → Prop} {f : List Cell → M α} : ∀ (fs : List (Bool × E)) (ks : List Str) (m : Mp) (H : Hp) (objs : Objs) (Q : List (V × V) → Hp → Prop), ks.length = fs.length →
    Rel (PD P q) σ H env objs m → m .tmp = none → Post (PD P q) W σ env m H (M.bind (fields F fs env) f objs) G →
    (∀ vs H1 m1 cs objs1, Rel (PD P q) σ H1 env objs1 m1 → m1 .tmp = none → Step m H m1 H1 → FRel (PD P q) σ env m1 H1 fs vs cs → Post (PD P q) W σ env m1 H1 (f cs objs1) G → Q ((zipK ks vs).map fun kv => (kV kv.1, kv.2)) H1) → tPairs (trsOf P F W ks fs) σ H Q
  | [], [], m, H, objs, Q, _, rel, tm, h, k => k [] H m [] objs rel tm Step.refl .nil h
  | [], _ :: _, _, _, _, _, hl, _, _, _, _ => by simp at hl
  | _ :: _, [], _, _, _, _, hl, _, _, _, _ => by simp at hl
  | (false, e) :: fs, x :: ks, m, H, objs, Q, hl, rel, tm, h, k => by
    have h : Post (PD P q) W σ env m H (M.bind (M.bind (M.bind (ev F e env) fun d => M.pure (Cell.v d)) fun c => M.bind (fields F fs env) fun cs => M.pure (c :: cs)) f objs) G := h
    rw [M.bind_assoc, M.bind_assoc] at h
    refine ⟨q, ?_⟩
    refine rd_seq rel tm h fun v H1 m1 d o1 rel1 tm1 s1 r1 h1 => ?_
    rw [M.pure_bind, M.bind_assoc] at h1
    refine fields_run (f := fun cs => M.bind (M.pure (Cell.v d :: cs)) f) fs ks m1 H1 o1 _ (by simpa using hl) rel1 tm1 h1 fun vs H2 m2 cs o2 rel2 tm2 s2 fr2 h2 => ?_
    exact k (v :: vs) H2 m2 (.v d :: cs) o2 rel2 tm2 (s1.trans s2) (.val (r1.step s2) fr2) h2
  | (true, .var i) :: fs, x :: ks, m, H, objs, Q, hl, rel, tm, h, k => by
    have h : Post (PD P q) W σ env m H (M.bind (M.bind (M.bind (M.lift (ownAt env i)) fun xs => M.pure (Cell.own xs)) fun c => M.bind (fields F fs env) fun cs => M.pure (c :: cs)) f objs) G := h
    rw [M.bind_assoc, M.bind_assoc] at h
    obtain ⟨xs, ex, h1⟩ := Post.liftB h
    rw [M.pure_bind, M.bind_assoc] at h1
    obtain ⟨ad, ws, g1, g2, g3, g4⟩ := rel.slot i _ (ownAt_some ex)
    refine ⟨.ref ad, g2, ?_⟩
    refine fields_run (f := fun cs => M.bind (M.pure (Cell.own xs :: cs)) f) fs ks m H objs _ (by simpa using hl) rel tm h1 fun vs H2 m2 cs o2 rel2 tm2 s2 fr2 h2 => ?_
    exact k (.ref ad :: vs) H2 m2 (.own xs :: cs) o2 rel2 tm2 s2 (.own g2 ex fr2) h2
  | (true, .bor i) :: fs, x :: ks, m, H, objs, Q, hl, rel, tm, h, k => h.elim
  | (true, .con i) :: fs, x :: ks, m, H, objs, Q, hl, rel, tm, h, k => h.elim
  | (true, .bin _ _ _) :: fs, x :: ks, m, H, objs, Q, hl, rel, tm, h, k => h.elim
  | (true, .cmp _ _ _) :: fs, x :: ks, m, H, objs, Q, hl, rel, tm, h, k => h.elim
  | (true, .cmp2 _ _ _ _ _) :: fs, x :: ks, m, H, objs, Q, hl, rel, tm, h, k => h.elim
  | (true, .and_ _ _) :: fs, x :: ks, m, H, objs, Q, hl, rel, tm, h, k => h.elim
  | (true, .or_ _ _) :: fs, x :: ks, m, H, objs, Q, hl, rel, tm, h, k => h.elim
  | (true, .not_ _) :: fs, x :: ks, m, H, objs, Q, hl, rel, tm, h, k => h.elim
  | (true, .neg _) :: fs, x :: ks, m, H, objs, Q, hl, rel, tm, h, k => h.elim
  | (true, .ite _ _ _) :: fs, x :: ks, m, H, objs, Q, hl, rel, tm, h, k => h.elim
  | (true, .tup _) :: fs, x :: ks, m, H, objs, Q, hl, rel, tm, h, k => h.elim
  | (true, .lst _) :: fs, x :: ks, m, H, objs, Q, hl, rel, tm, h, k => h.elim
  | (true, .idx _ _) :: fs, x :: ks, m, H, objs, Q, hl, rel, tm, h, k => h.elim
  | (true, .slice _ _ _) :: fs, x :: ks, m, H, objs, Q, hl, rel, tm, h, k => h.elim
  | (true, .call _ _) :: fs, x :: ks, m, H, objs, Q, hl, rel, tm, h, k => h.elim
  | (true, .blt _ _) :: fs, x :: ks, m, H, objs, Q, hl, rel, tm, h, k => h.elim
  | (true, .isi _ _) :: fs, x :: ks, m, H, objs, Q, hl, rel, tm, h, k => h.elim
  | (true, .comp _ _ _ _ _) :: fs, x :: ks, m, H, objs, Q, hl, rel, tm, h, k => h.elim
  | (true, .comp2 _ _ _ _ _ _ _) :: fs, x :: ks, m, H, objs, Q, hl, rel, tm, h, k => h.elim
  | (true, .listIt _) :: fs, x :: ks, m, H, objs, Q, hl, rel, tm, h, k => h.elim
  | (true, .getF _ _ _) :: fs, x :: ks, m, H, objs, Q, hl, rel, tm, h, k => h.elim
  | (true, .popF _ _ _) :: fs, x :: ks, m, H, objs, Q, hl, rel, tm, h, k => h.elim
  | (true, .neF _ _ _) :: fs, x :: ks, m, H, objs, Q, hl, rel, tm, h, k => h.elim
  | (true, .dget _ _ _) :: fs, x :: ks, m, H, objs, Q, hl, rel, tm, h, k => h.elim
  | (true, .dix _ _) :: fs, x :: ks, m, H, objs, Q, hl, rel, tm, h, k => h.elim
  | (true, .dsorted _) :: fs, x :: ks, m, H, objs, Q, hl, rel, tm, h, k => h.elim
theorem fields_post {σ : L2.St} {env : Env} {m : Mp} {H : Hp} {objs : Objs} {q : Addr} {o : HO} {D : Ends} {α : Type} {x : M α} {f : α → M (Fl × Env)} (hq : H q = none) (h : PostS P W m H (M.bind x f objs) D) :
    Post (PD P q) W σ env m (upd H q o) (M.bind x M.pure objs) (fun cs o => PostS P W m H (f cs o) D) := by
  rw [M.bind_pure]
  cases e : x objs with
  | none => rw [M.bind_none e] at h; exact h
  | some r =>
    cases r with
    | ok a o2 => rw [M.bind_ok e] at h; exact h
    | ex c o2 =>
      rw [M.bind_ex e] at h
      intro H' m' R s
      have av : ∀ a, AV P (mob m') a → AV (PD P q) m' a := by
        rintro a (h | ⟨k, h⟩)
        · exact .inl (.inl h)
        · exact .inr ⟨k, (mob_src h).1⟩
      refine h H' (mob m') ?_ (fun _ => rfl) rfl (step_mob ((keeps_upd hq).step.trans s))
      have R := R.toRelO
      refine ⟨fun k k' a e e' => R.inj k k' a (mob_src e).1 (mob_src e').1, fun k a e z => R.dis k a (mob_src e).1 (.inl z), fun k a e => R.alive k a (mob_src e).1, fun a e => R.oal a (.inl e), fun n s e => ?_, fun n e => R.obn n e⟩
      obtain ⟨a, ks, vs, h1, h2, h3, h4, h5, h6⟩ := R.obs n s e
      refine ⟨a, ks, vs, h1, h2, h3, h4, h5, fun j c hc => ?_⟩
      have h7 := h6 j c hc
      cases c with
      | v d => obtain ⟨v, e1, r⟩ := h7; exact ⟨v, e1, Rep.less (P := PD P q) (P' := P) rfl av (fun _ _ h => h) r⟩
      | own xs => obtain ⟨b, ws, e1, e2, e3, r⟩ := h7; exact ⟨b, ws, e1, e2, e3, RepAll.less (P := PD P q) (P' := P) rfl av (fun _ _ h => h) r⟩
      | dic kvs => exact h7
/-- return {..}: a new object -/
theorem st_retObj (fr : FrX X P) {kind : Nat} {ks : List Str} {fs : List (Bool × E)} {keys : List (Option Expr)} {values : List Expr} {dp : Pos} (hks : P.kinds[kind]? = some ks) (nd : ks.Nodup) (hl : ks.length = fs.length) (h15 : ks.length ≤ 15)
    (hp : PPs X dp keys values (trsOf P F W ks fs)) (hall : keys.all (·.isSome) = true) (hl2 : keys.length = values.length) (h0 : keys ≠ []) (hl3 : keys.length ≤ 15) : PS X (.Return (some (.Dict keys values dp)) pos) (rdS P F W (.retObj kind fs)) := by
  refine psC (ps_ret (pe_disp hp hall hl2 h0 hl3)) fun D σ H ⟨env, objs, m, rel, tm, h⟩ => ?_
  obtain ⟨hnd, h⟩ := h.guard
  have hnd := of_decide_eq_true hnd
  intro q hq
  have nO : ¬ P.O q := rel.toRelO.freeO hq
  have hm : ∀ k, k ≠ Ky.tmp → mset m .tmp (some q) k = m k := fun k hk => mset_ne hk
  have ht : ∀ a, mset m .tmp (some q) .tmp = some a → (H a = none ∧ ∃ o, upd H q (.dK []) a = some o ∧ Mu o) ∨ m .tmp = some a := fun a z => by
    rw [mset_same] at z
    cases z
    exact .inl ⟨hq, _, upd_same, trivial⟩
  have st0 : Step m H (mset m .tmp (some q)) (upd H q (.dK [])) := step_more rel.toRelO (keeps_upd hq) hm ht
  have R0 := rel.more (keeps_upd hq) hm ht
  have R1 := rel_in tm R0
  refine fields_run fs ks m _ objs _ hl R1 tm (fields_post hq h) fun vs H1 m1 cs o1 rel1 tm1 s1 f1 h1 => ?_
  have h1 : PostS P W m H (some (.ok (.rt (Tn.obj o1.length), env) (o1 ++ [⟨kind, cs⟩]))) D := h1
  have hq1 : H1 q = some (.dK []) := s1.keep q _ upd_same fun k e => R1.dis k q e (.inr rfl)
  have R2 := rel_out tm1 rel1 hq1 trivial nO
  have lv : ks.length = vs.length := by rw [f1.len.1]; exact hl
  refine ⟨hq1, zipK ks vs, rfl, by rw [zip_len lv]; exact h15, ?_⟩
  have em : mergeK [] (zipK ks vs) = zipK ks vs := by
    rw [merge_new _ [] (by rw [zipK_keys lv]; exact nodup_inr nd) (by simp)]
    rfl
  rw [em]
  have hk : mset m1 .tmp (some q) .tmp = some q := mset_same
  have st := step_upd (o' := .dK (zipK ks vs)) hk hq1 trivial
  have R3 : Rel P σ (upd H1 q (.dK (zipK ks vs))) env o1 (mset m1 .tmp (some q)) :=
    ⟨relO_upd R2.toRelO (o' := .dK (zipK ks vs)) hk hq1 trivial trivial rfl fun k s h => .inl ⟨h, (by intro z; cases z), fun j => by intro z; cases z⟩, R2.len, fun i c e => slotR_upd R2.toRelO hk hq1 trivial (by intro z; cases z) (R2.slot i c e)⟩
  obtain ⟨g1, g2, g3, g4, g5⟩ := rel_new (kind := kind) R3 hk upd_same ((f1.unpd tm1).step st) hnd hks hl
  exact h1 _ _ _ g1 g2 g3 (((st0.trans (step_pd tm tm1 s1)).trans st).trans g4) g5
end
end Tn
set_option Elab.async false
set_option linter.all false
set_option maxRecDepth 100000
set_option maxHeartbeats 4000000
namespace Tn
open PySem PySem.Spec PyProof.Rows L2
section
variable {P : Par} {m m' : Mp} {H H' : Hp} {objs : Objs}
theorem relO_pd_mob {q : Addr} (R : RelO (PD P q) H objs m) : RelO P H objs (mob m) := by
  have av : ∀ a, AV P (mob m) a → AV (PD P q) m a := by
    rintro a (h | ⟨k, h⟩)
    · exact .inl (.inl h)
    · exact .inr ⟨k, (mob_src h).1⟩
  refine ⟨fun k k' a e e' => R.inj k k' a (mob_src e).1 (mob_src e').1, fun k a e z => R.dis k a (mob_src e).1 (.inl z), fun k a e => R.alive k a (mob_src e).1, fun a e => R.oal a (.inl e), fun n s e => ?_, fun n e => R.obn n e⟩
  obtain ⟨a, ks, vs, h1, h2, h3, h4, h5, h6⟩ := R.obs n s e
  refine ⟨a, ks, vs, h1, h2, h3, h4, h5, fun j c hc => ?_⟩
  have h7 := h6 j c hc
  cases c with
  | v d => obtain ⟨v, e1, r⟩ := h7; exact ⟨v, e1, Rep.less (P := PD P q) (P' := P) rfl av (fun _ _ h => h) r⟩
  | own xs => obtain ⟨b, ws, e1, e2, e3, r⟩ := h7; exact ⟨b, ws, e1, e2, e3, RepAll.less (P := PD P q) (P' := P) rfl av (fun _ _ h => h) r⟩
  | dic kvs => exact h7
theorem step_pd_mob {q : Addr} (tm : m .tmp = none) (s : Step m H m' H') : Step (mset m .tmp (some q)) H (mob m') H' := by
  refine ⟨fun a o h n => s.keep a o h fun k e => n k (mset_tmp tm e), s.fix, fun k a e => ?_, fun k a e => ?_⟩
  · rcases s.new k a (mob_src e).1 with ⟨k', h⟩ | h
    · exact .inl ⟨k', mset_tmp tm h⟩
    · exact .inr h
  · rw [mset_ne (by intro z; cases z)] at e
    exact s.ob k a e
end
section
variable {X : Cx} {P : Par} {F : Nat → List D → M D} {W : Nat → Hp → Prop} {pos : Pos} {a b : Expr} {pa pb : E}
theorem st_rdP {σ : L2.St} {env : Env} {m : Mp} {H : Hp} {objs : Objs} {D : Ends} {q : Addr} {R : RR} {e : E} {f : PyData → M (Fl × Env)} {Q : VK} (rel : Rel (PD P q) σ H env objs m) (tm : m .tmp = none) (h : PostS P W (mset m .tmp (some q)) H (M.bind (ev F e env) f objs) D)
    (k : ∀ v H1 m1 d objs1, Rel (PD P q) σ H1 env objs1 m1 → m1 .tmp = none → Step m H m1 H1 → R σ env m1 H1 v d → PostS P W (mset m .tmp (some q)) H (f d objs1) D → Q v H1) : rdR (PD P q) F W R e σ H Q := by
  refine ⟨env, objs, m, rel, tm, ?_⟩
  cases e' : ev F e env objs with
  | none => rw [M.bind_none e'] at h; exact h
  | some r =>
    cases r with
    | ok d o => rw [M.bind_ok e'] at h; exact fun v H' m' rel' tm' s r => k v H' m' d o rel' tm' s r h
    | ex c o => rw [M.bind_ex e'] at h; exact fun H' m' R s => h H' (mob m') (relO_pd_mob R.toRelO) (fun _ => rfl) rfl (step_pd_mob tm s)
/-- a, b = [..], y: the first one's own -/
theorem st_parO (fr : FrX X P) {i j : Nat} {x y : Str} {px py pt : Pos} {kt k2 : Nat} {pt2 : Pos} (hi : X.N[i]? = some x) (hj : X.N[j]? = some y) (hij : i ≠ j)
    (hx : X.env.scope.names.lookup x = some .local) (hy : X.env.scope.names.lookup y = some .local) (ok1 : okE a = true) (ok2 : okE b = true) (ha : PE X a (rdF P F W pa)) (hb : ∀ q, PE X b (rd (PD P q) F W pb))
    (hw : swappedStores [.Tuple [.Name x px, .Name y py] kt pt] (.Tuple [a, b] k2 pt2) X.env = pure (some [x, y])) :
    PS X (.Assign [.Tuple [.Name x px, .Name y py] kt pt] (.Tuple [a, b] k2 pt2) pos) (rdS P F W (.parO i j pa pb)) := by
  refine psC (ps_par fr.calm fr.nd hi hj hij hx hy (pa_cons ha (pa_cons (pe_ex hb) pa_nil (star_cons ok2)) (star_cons ok1)) hw rfl) fun D σ H ⟨env, objs, m, rel, tm, h⟩ => ?_
  show rdF P F W pa σ H (fun x H1 => ∃ q, rd (PD P q) F W pb σ H1 (fun y H2 => ∃ v w, [x, y] = [v, w] ∧ D.nx ((σ.set i (some v)).set j (some w)) H2))
  refine st_rdF (f := fun d => match d with | .list xs => (M.bind (ev F pb env) fun y => if i < env.length ∧ j < env.length ∧ i ≠ j then M.pure (.nx, (env.set i (some (.own xs))).set j (some (.v y))) else M.stuck) | _ => M.stuck) rel tm h fun ad H1 m1 ds ws o1 rel1 tm1 s1 hA ra h1 => ?_
  have h1 : PostS P W m1 H1 (M.bind (ev F pb env) (fun y => if i < env.length ∧ j < env.length ∧ i ≠ j then M.pure (.nx, (env.set i (some (.own ds))).set j (some (.v y))) else M.stuck) o1) D := h1
  have em : mset (mset m1 .tmp none) .tmp (some ad) = m1 := by
    funext k
    by_cases hk : k = .tmp
    · subst hk; rw [mset_same, tm1]
    · rw [mset_ne hk, mset_ne hk]
  have t0 : mset m1 .tmp none .tmp = none := mset_same
  have rel1' : Rel (PD P ad) σ H1 env o1 (mset m1 .tmp none) := rel_in t0 (by rw [em]; exact rel1)
  have nO : ¬ P.O ad := rel1.dis _ _ tm1
  refine ⟨ad, st_rdP rel1' t0 (by rw [em]; exact h1) fun y H2 m2 d2 o2 rel2 tm2 s2 r2 h2 => ?_⟩
  rw [em] at h2
  split at h2
  · rename_i hb
    have hA2 : H2 ad = some (.lst ws) := s2.keep ad _ hA fun k e => rel1'.dis k ad e (.inr rfl)
    have sp := step_pd (D := ad) t0 tm2 s2
    rw [em] at sp
    have R2 := rel_out tm2 rel2 hA2 trivial nO
    obtain ⟨R3, s3⟩ := rel_own R2 mset_same hA2 (ra.step sp) hb.1
    have r3 := (r2.unpd tm2).step s3
    refine ⟨.ref ad, y, rfl, h2 _ H2 _ (rel_set R3 r3) ?_ (sp.trans s3)⟩
    rw [mset_ne (by intro z; cases z), mset_same]
  · exact h2.elim
end
end Tn
set_option Elab.async false
set_option linter.all false
set_option maxRecDepth 100000
set_option maxHeartbeats 4000000
namespace Tn
open PySem PySem.Spec PyProof.Rows L2
structure Stat where
  N : List Str
  kinds : List (List Str)
  fns : List (Str × Nat)
  cints : List (Str × Int)
  bltn : List Str
inductive Mode where | V | O | F | T
  deriving DecidableEq
def nodun (x : Str) : Bool := !(x == ("__debug__" : Str)) && !(x == ("__classdict__" : Str))
def visB (sc : Scope) (x : Str) : Bool := match sc.names.lookup x with
  | some .local => true
  | some .cell => true
  | some .free => true
  | _ => false
def locB (sc : Scope) (x : Str) : Bool := match sc.names.lookup x with
  | some .local => true
  | some .cell => true
  | _ => false
def glB (sc : Scope) (x : Str) : Bool := decide (sc.names.lookup x = some .globalImplicit) && nodun x
def notSet : Expr → Bool
  | .Set _ _ _ => false
  | _ => true
def notStar : Expr → Bool
  | .Starred _ _ => false
  | _ => true
def isComp : Expr → Bool
  | .ListComp _ _ _ _ => true
  | .SetComp _ _ _ _ => true
  | .DictComp _ _ _ _ _ => true
  | _ => false
def tPlain : Expr → Bool
  | .UnaryOp .Not _ _ => false
  | .BoolOp _ _ _ => false
  | .IfExp _ _ _ _ => false
  | .Compare _ _ _ _ => false
  | _ => true
def tailE (op : BoolOp) (y : Expr) (rest : List Expr) (pos : Pos) : Expr := match rest with
  | [] => y
  | z :: zs => .BoolOp op (y :: z :: zs) pos
section
variable (S : Stat)
def okV (sc : Scope) (i : Nat) (x : Str) : Bool := decide (S.N[i]? = some x) && visB sc x && nodun x
def bltB (sc : Scope) (x : Str) : Bool := glB sc x && decide (x ∈ S.bltn)
def ownP (own : List Nat) : List (Str × Nat) := own.filterMap fun i => (S.N[i]?).map fun x => (x, i)
def ckCon (sc : Scope) (d : D) (e : Expr) : Bool := match d, e with
  | .int i, .Constant (.int j) _ _ => decide (i = j)
  | .str x, .Constant (.str y) _ _ => decide (x = y)
  | .bool b, .Constant (.bool b') _ _ => b == b'
  | .none, .Constant .none _ _ => true
  | .int i, .Name x _ => glB sc x && decide (S.cints.lookup x = some i)
  | _, _ => false
def ckKind (kind fld : Nat) (x : Str) : Bool := match S.kinds[kind]? with
  | some ks => decide ks.Nodup && decide (ks.length ≤ 15) && decide (ks[fld]? = some x)
  | none => false
mutual
def ckG : Tg → Scope → Expr → Bool
  | .nm i, sc, e => match e with
    | .Name x _ => decide (S.N[i]? = some x) && locB sc x
    | _ => false
  | .tp ts, sc, e => match e with
    | .Tuple es _ _ => ckGs ts sc es
    | _ => false
def ckGs : Tgs → Scope → List Expr → Bool
  | .nil, _, es => es.isEmpty
  | .cons t ts, sc, es => match es with
    | e :: es => notStar e && ckG t sc e && ckGs ts sc es
    | [] => false
end
def isTup : Expr → Bool
  | .Tuple _ _ _ => true
  | _ => false
mutual
def ckE : E → Mode → Scope → Expr → Bool
  | .var i, md, sc, e => decide (md ≠ .F) && (match e with
    | .Name x _ => okV S sc i x
    | _ => false)
  | .bor i, md, sc, e => decide (md = .O) && (match e with
    | .Name x _ => okV S sc i x
    | _ => false)
  | .con d, md, sc, e => decide (md ≠ .F) && ckCon S sc d e
  | .bin o a b, md, sc, e => match e with
    | .BinOp x op y _ => decide (binOf op = some o) && ckE a .O sc x && ckE b .O sc y
    | _ => false
  | .cmp o a b, md, sc, e => decide (md ≠ .F) && (match e with
    | .Compare x [op] [y] _ => decide (cmpOf op y = some o) && !behindInMarks op y && ckE a .O sc x && ckE b .O sc y
    | _ => false)
  | .cmp2 o p a b c, md, sc, e => decide (md ≠ .F) && (match e with
    | .Compare x [op, op2] [y, z] _ => decide (cmpOf op y = some o) && decide (cmpOf op2 z = some p) && !lastMarks [op, op2] [y, z] && ckE a .O sc x && ckE b .O sc y && ckE c .O sc z
    | _ => false)
  | .and_ a b, md, sc, e => match e with
    | .BoolOp .And (x :: y :: rest) pos => if md = .T then ckE a .T sc x && ckE b .T sc (tailE .And y rest pos) else decide (md ≠ .F) && ckE a .V sc x && ckE b .V sc (tailE .And y rest pos)
    | _ => false
  | .or_ a b, md, sc, e => match e with
    | .BoolOp .Or (x :: y :: rest) pos => if md = .T then ckE a .T sc x && ckE b .T sc (tailE .Or y rest pos) else decide (md ≠ .F) && ckE a .V sc x && ckE b .V sc (tailE .Or y rest pos)
    | _ => false
  | .not_ a, md, sc, e => match e with
    | .UnaryOp .Not x _ => if md = .T then ckE a .T sc x else decide (md ≠ .F) && ckE a .V sc x
    | _ => false
  | .neg a, md, sc, e => decide (md ≠ .F) && (match e with
    | .UnaryOp .USub x _ => ckE a .V sc x
    | _ => false)
  | .ite c a b, md, sc, e => decide (md ≠ .F) && decide (md ≠ .T) && (match e with
    | .IfExp z x y _ => ckE c .T sc z && ckE a .V sc x && ckE b .V sc y
    | _ => false)
  | .tup es, md, sc, e => decide (md ≠ .F) && (match e with
    | .Tuple xs _ _ => ckA es .V sc xs
    | _ => false)
  | .lst es, md, sc, e => match e with
    | .List xs _ => ckA es .V sc xs
    | _ => false
  | .idx a b, md, sc, e => decide (md ≠ .F) && (match e with
    | .Subscript x y _ => okE y && ckE a .O sc x && ckE b .O sc y
    | _ => false)
  | .slice a lo hi, md, sc, e => decide (md ≠ .F) && (match e with
    | .Subscript x (.Slice l h none _) _ => ckE a .O sc x && ckO lo sc l && ckO hi sc h
    | _ => false)
  | .call f es, md, sc, e => decide (md ≠ .F) && (match e with
    | .Call (.Name x _) (y :: ys) [] _ => glB sc x && decide (S.fns.lookup x = some f) && ckA es .V sc (y :: ys)
    | _ => false)
  | .blt b es, md, sc, e => match e with
    | .Call (.Name x _) (y :: ys) [] _ => (decide (md ≠ .F) || (decide (b = .list) && ys.isEmpty)) && bltB S sc x && decide (bltOf x (y :: ys).length = some b) && ckA es .O sc (y :: ys)
    | _ => false
  | .isi t a, md, sc, e => decide (md ≠ .F) && (match e with
    | .Call (.Name x _) [y, .Name z _] [] _ => decide (x = "isinstance") && bltB S sc x && decide (tyOf z = some t) && bltB S sc z && okE y && ckE a .V sc y
    | _ => false)
  | .comp own elt tg it c, md, sc, e => match e with
    | .ListComp x [⟨y, z, ifs, k⟩] scope _ => decide (k = 0) && decide ((ownP S own).map (·.2) = own) && blkC S.N sc scope (ownP S own) && (ixs tg).all (fun j => decide (j ∈ own)) && notSet z && ckI it true sc y z && ckG S tg scope y && ckC c scope ifs && ckE elt .V scope x
    | _ => false
  | .comp2 own own1 elt tg it tg1 it1, md, sc, e => match e with
    | .ListComp x [⟨y, z, [], k⟩, ⟨y1, z1, [], k1⟩] scope _ => decide (k = 0) && decide (k1 = 0) && decide ((ownP S own).map (·.2) = own) && blkC S.N sc scope (ownP S own) && own1.all (fun j => decide (j ∈ own)) && (ixs tg).all (fun j => decide (j ∈ own)) && (ixs tg1).all (fun j => decide (j ∈ own1)) &&
        notSet z && notSet z1 && ckI it true sc y z && ckG S tg scope y && ckI it1 true scope y1 z1 && ckG S tg1 scope y1 && ckE elt .V scope x
    | _ => false
  | .listIt it, md, sc, e => false
  | .getF kind fld a, md, sc, e => decide (md ≠ .F) && (match e with
    | .Subscript x (.Constant (.str y) _ _) _ => ckKind S kind fld y && ckE a .V sc x
    | _ => false)
  | .popF kind fld a, md, sc, e => decide (md ≠ .F) && (match e with
    | .Call (.Attribute (.Subscript x (.Constant (.str y) _ _) _) m p4) [.Constant (.int j) _ _] [] pos => decide (m = "pop") && decide (j = 0) && (p4.endLine == pos.line) && ckKind S kind fld y && ckE a .V sc x
    | _ => false)
  | .neF kind fld a, md, sc, e => decide (md ≠ .F) && (match e with
    | .Compare (.Subscript x (.Constant (.str y) _ _) _) [.NotEq] [.List [] _] _ => ckKind S kind fld y && ckE a .V sc x
    | _ => false)
  | .dget i k d, md, sc, e => decide (md ≠ .F) && (match e with
    | .Call (.Attribute (.Name x _) m p4) [y, z] [] pos => decide (m = "get") && okV S sc i x && (p4.endLine == pos.line) && okE y && okE z && ckE k .V sc y && ckE d .V sc z
    | _ => false)
  | .dix i k, md, sc, e => decide (md ≠ .F) && (match e with
    | .Subscript (.Name x _) y _ => okV S sc i x && okE y && ckE k .V sc y
    | _ => false)
  | .dsorted i, md, sc, e => match e with
    | .Call (.Name f _) [.Name x _] [] _ => decide (f = "sorted") && bltB S sc f && okV S sc i x
    | _ => false
def ckA : Es → Mode → Scope → List Expr → Bool
  | .nil, _, _, es => es.isEmpty
  | .cons p ps, md, sc, es => match es with
    | e :: es => okE e && ckE p md sc e && ckA ps md sc es
    | [] => false
def ckO : Oe → Scope → Option Expr → Bool
  | .none, _, o => o.isNone
  | .some p, sc, o => match o with
    | some e => ckE p .V sc e
    | none => false
def ckC : Oe → Scope → List Expr → Bool
  | .none, _, l => l.isEmpty
  | .some p, sc, l => match l with
    | [e] => ckE p .T sc e
    | _ => false
def ckI : It → Bool → Scope → Expr → Expr → Bool
  | .seq p, b, sc, _, e => ckE p (if b then .O else .V) sc e
  | .rng1 p, b, sc, _, e => match e with
    | .Call (.Name f _) [x] [] _ => decide (f = "range") && bltB S sc f && okE x && ckE p .V sc x
    | _ => false
  | .rng2 p q, b, sc, _, e => match e with
    | .Call (.Name f _) [x, y] [] _ => decide (f = "range") && bltB S sc f && okE x && okE y && ckE p .V sc x && ckE q .V sc y
    | _ => false
  | .zip2 p q, b, sc, tg, e => isTup tg && (match e with
    | .Call (.Name f _) [x, y] [] _ => decide (f = "zip") && bltB S sc f && okE x && okE y && ckE p (if b then .O else .V) sc x && ckE q (if b then .O else .V) sc y
    | _ => false)
  | .enum p, b, sc, tg, e => isTup tg && (match e with
    | .Call (.Name f _) [x] [] _ => decide (f = "enumerate") && bltB S sc f && okE x && ckE p (if b then .O else .V) sc x
    | _ => false)
end
end
end Tn
set_option Elab.async false
set_option linter.all false
set_option maxRecDepth 100000
set_option maxHeartbeats 4000000
namespace Tn
open PySem PySem.Spec PyProof.Rows L2
structure ScOk (sc : Scope) (X : Cx) : Prop where
  at_ : ∀ x k, sc.names.lookup x = some k → ∃ k', X.env.scope.names.lookup x = some k' ∧ (k' = k ∨ (k = .free ∧ k' = .cell))
  fn : ∀ x, sc.names.lookup x = some .cell → X.fn x = true
structure Good (S : Stat) (F : Nat → List D → M D) (sc : Scope) (P : Par) (X : Cx) : Prop where
  fr : FrX X P
  N : X.N = S.N
  kinds : P.kinds = S.kinds
  sco : ScOk sc X
  call : ∀ x i, S.fns.lookup x = some i → ∃ (k : Nat) (f : Addr) (fd : FuncData) (ns : List Str) (ex : Nat → Value), FnOk X.prog X.w X.K X.mg X.base CX0 k f fd ns (spD P.K P.kinds ex (F i)) ∧ Room k X.A ∧ X.mg x = some (.ref f) ∧ PySem.W.keepIn X.K (.ref f) = true ∧ Binds X.K fd ns []
  mgb : ∀ x, x ∈ S.bltn → X.mg x = none
  mgi : ∀ x i, S.cints.lookup x = some i → ∃ t, X.mg x = some (.int i t)
section
variable {S : Stat} {F : Nat → List D → M D} {W : Nat → Hp → Prop} {sc : Scope} {P : Par} {X : Cx}
theorem and2 {a b : Bool} (h : (a && b) = true) : a = true ∧ b = true := Bool.and_eq_true_iff.mp h
theorem nodun_ok {x : Str} (h : nodun x = true) : (x == ("__debug__" : Str)) = false ∧ (x == ("__classdict__" : Str)) = false := by
  unfold nodun at h
  obtain ⟨h1, h2⟩ := and2 h
  exact ⟨by simpa using h1, by simpa using h2⟩
theorem Good.vis (G : Good S F sc P X) {i : Nat} {x : Str} (h : okV S sc i x = true) : X.N[i]? = some x ∧ Vis X.env.scope x ∧ (x == ("__debug__" : Str)) = false ∧ (x == ("__classdict__" : Str)) = false := by
  unfold okV at h
  obtain ⟨h1, h2⟩ := and2 h
  obtain ⟨h3, h4⟩ := and2 h1
  refine ⟨by rw [G.N]; exact of_decide_eq_true h3, ?_, nodun_ok h2⟩
  unfold visB at h4
  unfold Vis
  split at h4
  · rename_i e; obtain ⟨k, e1, rfl | ⟨z, _⟩⟩ := G.sco.at_ _ _ e
    · exact .inl e1
    · cases z
  · rename_i e; obtain ⟨k, e1, rfl | ⟨z, _⟩⟩ := G.sco.at_ _ _ e
    · exact .inr (.inl e1)
    · cases z
  · rename_i e; obtain ⟨k, e1, rfl | ⟨z, rfl⟩⟩ := G.sco.at_ _ _ e
    · exact .inr (.inr e1)
    · exact .inr (.inl e1)
  · cases h4
theorem Good.loc (G : Good S F sc P X) {x : Str} (h : locB sc x = true) : L2.Loc X.env.scope x ∧ (X.fn x = true ∨ X.env.scope.names.lookup x = some .local) := by
  unfold locB at h
  unfold L2.Loc
  split at h
  · rename_i e; obtain ⟨k, e1, rfl | ⟨z, _⟩⟩ := G.sco.at_ _ _ e
    · exact ⟨.inl e1, .inr e1⟩
    · cases z
  · rename_i e; obtain ⟨k, e1, rfl | ⟨z, _⟩⟩ := G.sco.at_ _ _ e
    · exact ⟨.inr e1, .inl (G.sco.fn _ e)⟩
    · cases z
  · cases h
theorem Good.gl (G : Good S F sc P X) {x : Str} (h : glB sc x = true) : Gl X x ∧ (x == ("__debug__" : Str)) = false := by
  unfold glB at h
  obtain ⟨h1, h2⟩ := and2 h
  obtain ⟨k, e1, rfl | ⟨z, _⟩⟩ := G.sco.at_ _ _ (of_decide_eq_true h1)
  · exact ⟨e1, (nodun_ok h2).1⟩
  · cases z
theorem Good.blt (G : Good S F sc P X) {x : Str} (h : bltB S sc x = true) : Gl X x ∧ X.mg x = none := by
  unfold bltB at h
  obtain ⟨h1, h2⟩ := and2 h
  exact ⟨(G.gl h1).1, G.mgb x (of_decide_eq_true h2)⟩
theorem Good.kind (G : Good S F sc P X) {kind fld : Nat} {x : Str} (h : ckKind S kind fld x = true) : ∃ ks, P.kinds[kind]? = some ks ∧ ks.Nodup ∧ ks.length ≤ 15 ∧ ks[fld]? = some x := by
  unfold ckKind at h
  split at h
  · rename_i ks e
    obtain ⟨h1, h2⟩ := and2 h
    obtain ⟨h3, h4⟩ := and2 h1
    exact ⟨ks, by rw [G.kinds]; exact e, of_decide_eq_true h3, of_decide_eq_true h4, of_decide_eq_true h2⟩
  · cases h
/-! ### within a comprehension -/
theorem lookup_map {f : Str × NameKind → Str × NameKind} (hf : ∀ p, (f p).1 = p.1) : ∀ {l : List (Str × NameKind)} {x : Str} {k : NameKind}, l.lookup x = some k → ∃ n, (x == n) = true ∧ (l.map f).lookup x = some (f (n, k)).2
  | [], _, _, h => by simp at h
  | (n, k') :: r, x, k, h => by
    cases hx : x == n with
    | true =>
      simp only [List.lookup_cons, hx] at h
      cases h
      refine ⟨n, hx, ?_⟩
      rw [List.map_cons]
      have e : f (n, k') = (n, (f (n, k')).2) := Prod.ext (hf _) rfl
      rw [e]
      simp only [List.lookup_cons, hx]
    | false =>
      simp only [List.lookup_cons, hx] at h
      obtain ⟨n2, h1, h2⟩ := lookup_map hf h
      refine ⟨n2, h1, ?_⟩
      rw [List.map_cons]
      have e : f (n, k') = (n, (f (n, k')).2) := Prod.ext (hf _) rfl
      rw [e]
      simp only [List.lookup_cons, hx]
      exact h2
theorem scOk_blk {scope : Scope} {s : Shared} {H : Hp} {C : Addr} {cl : List (Str × Addr)} {fp : List Addr} : ScOk scope (X.blk s H scope (compEnvC scope cl C X.env) fp) := by
  refine ⟨fun x k h => ?_, fun x h => ?_⟩
  · have := lookup_map (f := fun (n, k) => if (k == NameKind.free && X.env.scope.kind == .function && X.env.kindOf n == some .cell) then (n, NameKind.cell) else (n, k)) (fun p => by
      obtain ⟨n, k⟩ := p
      dsimp only
      split <;> rfl) h
    obtain ⟨n, _, h2⟩ := this
    refine ⟨_, h2, ?_⟩
    dsimp only
    split
    · rename_i hc
      have := (and2 (and2 hc).1).1
      exact .inr ⟨by simpa using this, rfl⟩
    · exact .inl rfl
  · show (scope.names.lookup x == some NameKind.cell) = true
    rw [h]
    rfl
theorem Good.blk (G : Good S F sc P X) {scope : Scope} (D : Addr) (s : Shared) (H : Hp) (C : Addr) (cl : List (Str × Addr)) (fp : List Addr) : Good S F scope (PD P D) (X.blk s H scope (compEnvC scope cl C X.env) fp) :=
  ⟨⟨G.fr.K, G.fr.calm, G.fr.hu, G.fr.nd⟩, G.N, G.kinds, scOk_blk, G.call, G.mgb, G.mgi⟩
theorem Good.blkOk (G : Good S F sc P X) {scope : Scope} {own : List (Str × Nat)} (h : blkC S.N sc scope own = true) : BlkOk X.N X.env.scope scope own := by
  have b := blkOk_by h
  rw [← G.N] at b
  refine ⟨b.kind, b.uniq, b.ix, fun y hy e => ?_, b.own⟩
  rcases b.free y hy e with z | z
  · obtain ⟨k, e1, rfl | ⟨w, _⟩⟩ := G.sco.at_ _ _ z
    · exact .inl e1
    · cases w
  · obtain ⟨k, e1, rfl | ⟨_, rfl⟩⟩ := G.sco.at_ _ _ z
    · exact .inr e1
    · exact .inl e1
theorem noFold {e : Expr} (h : notSet e = true) {env : PySem.Env} : ∀ x, foldedSetIterable e env x = pure x := by
  intro x
  cases e <;> first
    | rfl
    | (exact absurd (show false = true from h) Bool.false_ne_true)
/-! ### judgements -/
def J (X : Cx) (P : Par) (F : Nat → List D → M D) (W : Nat → Hp → Prop) : Mode → E → Expr → Prop
  | .V, p, e => PE X e (rd P F W p)
  | .O, p, e => PE X e (rdO P F W p)
  | .F, p, e => PE X e (rdF P F W p)
  | .T, p, e => PT X e (rdT P F W p)
def RM (P : Par) : Mode → RR
  | .O => RepT P
  | _ => RV P
theorem isTrue_plain' {e : Expr} (h : tPlain e = true) {env : PySem.Env} : ∀ whole, isTrue e env whole = (do let v ← whole; standAt e.pos; holding [v] (truthy v)) := by
  intro whole
  cases e with
  | UnaryOp op x p => cases op <;> first | rfl | (exact absurd (show false = true from h) Bool.false_ne_true)
  | BoolOp _ _ _ => exact absurd (show false = true from h) Bool.false_ne_true
  | IfExp _ _ _ _ => exact absurd (show false = true from h) Bool.false_ne_true
  | Compare _ _ _ _ => exact absurd (show false = true from h) Bool.false_ne_true
  | _ => rfl
theorem jV (G : Good S F sc P X) {p : E} {e : Expr} {md : Mode} (h : PE X e (rd P F W p)) (tp : tPlain e = true) (hm : md ≠ .F) : J X P F W md p e := by
  cases md with
  | V => exact h
  | O => exact rd_op h
  | F => exact absurd rfl hm
  | T => exact t_val G.fr h (isTrue_plain' tp)
theorem jF (G : Good S F sc P X) {p : E} {e : Expr} {md : Mode} (h : PE X e (rdF P F W p)) (hL : Lists F p) (tp : tPlain e = true) : J X P F W md p e := by
  by_cases hm : md = .F
  · subst hm; exact h
  · exact jV G (rd_fresh hL h) tp hm
theorem tail_and (a b : Prop) : True := trivial
theorem pe_tail {op : BoolOp} {y : Expr} {rest : List Expr} {pos : Pos} {t : TE} (h : PE X (tailE op y rest pos) t) : PE X (.BoolOp op (y :: rest) pos) t := by
  cases rest with
  | nil => exact ⟨fun pins s σ H Q I q => h.run pins s σ H Q I q⟩
  | cons z zs => exact h
theorem con_ok (G : Good S F sc P X) {d : D} {e : Expr} (h : ckCon S sc d e = true) : PE X e (rd P F W (.con d)) ∧ tPlain e = true := by
  unfold ckCon at h
  split at h
  · cases of_decide_eq_true h; exact ⟨s_int, rfl⟩
  · cases of_decide_eq_true h; exact ⟨s_str, rfl⟩
  · have hb := eq_of_beq h
    subst hb
    exact ⟨s_bool, rfl⟩
  · exact ⟨s_none, rfl⟩
  · obtain ⟨h1, h2⟩ := and2 h
    obtain ⟨t, ht⟩ := G.mgi _ _ (of_decide_eq_true h2)
    exact ⟨s_glob (G.gl h1).1 ht (G.gl h1).2, rfl⟩
  · cases h
theorem glo_plain {sc : Scope} {P : Par} {X : Cx} (G : Good S F sc P X) : True := trivial
mutual
theorem ckG_ok (G : Good S F sc P X) : ∀ (t : Tg) (e : Expr), ckG S t sc e = true → PG X e (rdG P t)
  | .nm i, e, h => by
    unfold ckG at h
    split at h
    · obtain ⟨h1, h2⟩ := and2 h
      obtain ⟨h3, h4⟩ := G.loc h2
      exact g_name G.fr (by rw [G.N]; exact of_decide_eq_true h1) h3 h4
    · cases h
  | .tp ts, e, h => by
    unfold ckG at h
    split at h
    · rename_i es k pos
      obtain ⟨h1, h2, h3⟩ := ckGs_ok G ts es h
      exact g_tup G.fr h1 h2 h3
    · cases h
theorem ckGs_ok (G : Good S F sc P X) : ∀ (ts : Tgs) (es : List Expr), ckGs S ts sc es = true → PGs X es (rdGs P ts) ∧ (assignEach es X.env).findIdx? (·.1) = none ∧ ∀ env ds env', asgs ts ds env = some env' → ds.length = (assignEach es X.env).length
  | .nil, es, h => by
    unfold ckGs at h
    cases es with
    | nil =>
      refine ⟨gs_nil, rfl, fun env ds env' ea => ?_⟩
      cases ds with
      | nil => rfl
      | cons _ _ => unfold asgs at ea; cases ea
    | cons _ _ => cases h
  | .cons t ts, es, h => by
    unfold ckGs at h
    split at h
    · rename_i e es
      obtain ⟨h1, h2⟩ := and2 h
      obtain ⟨h3, h4⟩ := and2 h1
      obtain ⟨i1, i2, i3⟩ := ckGs_ok G ts es h2
      have hs : assignEach (e :: es) X.env = (false, assign e X.env) :: assignEach es X.env := by
        cases e <;> first
          | rfl
          | (exact absurd (show false = true from h3) Bool.false_ne_true)
      refine ⟨gs_cons (ckG_ok G t e h4) i1 (by rw [hs]; rfl), by rw [hs, List.findIdx?_cons]; simp [i2], fun env ds env' ea => ?_⟩
      cases ds with
      | nil => unfold asgs at ea; cases ea
      | cons d ds =>
        unfold asgs at ea
        obtain ⟨e1, h5, h6⟩ := Option.bind_eq_some_iff.mp ea
        rw [hs, List.length_cons, List.length_cons, i3 _ _ _ h6]
    · cases h
end
end
end Tn
set_option Elab.async false
set_option linter.all false
set_option maxRecDepth 100000
set_option maxHeartbeats 8000000
namespace Tn
open PySem PySem.Spec PyProof.Rows L2
section
variable {S : Stat} {F : Nat → List D → M D} {W : Nat → Hp → Prop} {sc : Scope} {P : Par} {X : Cx} {pos : Pos}
theorem notE {b : Bool} (h : (!b) = true) : b = false := by
  cases b with
  | true => cases h
  | false => rfl
theorem pw_tailA {y : Expr} {rest : List Expr} {t : TT} (h : PT X (tailE .And y rest pos) t) : PW X (.BoolOp .And (y :: rest) pos) t := by
  cases rest with
  | nil => exact pw_and1 h
  | cons z zs => exact ⟨fun wh pins s σ H Q I q => h.run pins s σ H Q I q⟩
theorem pw_tailO {y : Expr} {rest : List Expr} {t : TT} (h : PT X (tailE .Or y rest pos) t) : PW X (.BoolOp .Or (y :: rest) pos) t := by
  cases rest with
  | nil => exact pw_or1 h
  | cons z zs => exact ⟨fun wh pins s σ H Q I q => h.run pins s σ H Q I q⟩
theorem f_listA (fr : FrX X P) {x : Str} {np : Pos} {e : Expr} {ps : Es} (hx : x = "list") (hg : Gl X x) (hm : X.mg x = none) (ok : okE e = true) (ha : PA X [e] (rdA P F W (RepT P) ps)) : PE X (.Call (.Name x np) [e] [] pos) (rdF P F W (.blt .list ps)) := by
  subst hx
  have cr : CallR X (.type "list") (fun vs H Q => ∃ σ env objs m d ds v, Rel P σ H env objs m ∧ vs = [v] ∧ RepT P σ env m H v d ∧ itemsOf d = some ds ∧ ∀ q ws, H q = none → RepAll P m H ws ds → Q (.ref q) (upd H q (.lst ws))) := by
    intro pins s σ' H vs us Q I r h
    obtain ⟨σ, env, objs, m, d, ds, v, rel, rfl, r1, e1, q⟩ := h
    obtain ⟨ad, ws, rfl, t1, h1⟩ := r1.items rel e1
    exact call_list_of pins s σ' H _ us Q I r ⟨ad, ws, rfl, h1.elim (fun z => .inl (.inl z.2)) (fun z => .inr ((.inl (.inl z.2)))), fun l hl => q l ws hl t1⟩
  refine peC (pe_callTy cr hg hm (by decide +kernel) ha (by decide) (by decide) (star_cons ok) rfl) fun σ H Q ⟨env, objs, m, rel, tm, h⟩ => ?_
  refine rdA_seq rel tm h fun vs H1 m1 ds objs1 rel1 tm1 s1 ra h1 => ?_
  obtain ⟨z, ez, g⟩ := Post.lift h1
  have ez : un (fun d => (itemsOf d).map PyData.list) ds = some z := ez
  unfold Tn.un at ez
  split at ez
  · obtain ⟨v, rfl, r1⟩ := ra.one
    obtain ⟨es, e1, e2⟩ := Option.map_eq_some_iff.mp ez
    subst e2
    exact ⟨σ, env, objs1, m1, _, es, v, rel1, rfl, r1, e1, fun q ws hq ra => fresh_done rel1 tm1 s1 g hq ra⟩
  · cases ez
theorem lists_list {ps : Es} : Lists F (.blt .list ps) := by
  intro env objs d o h
  obtain ⟨ds, o1, _, h2⟩ := M.bind_some h
  have h2 : M.lift (un (fun d => (itemsOf d).map PyData.list) ds) o1 = some (.ok d o) := h2
  cases e : un (fun d => (itemsOf d).map PyData.list) ds with
  | none => rw [e] at h2; cases h2
  | some z =>
    rw [e] at h2
    cases h2
    unfold Tn.un at e
    split at e
    · obtain ⟨es, e1, e2⟩ := Option.map_eq_some_iff.mp e
      exact ⟨es, e2.symm⟩
    · cases e
theorem bltOf_list {x : Str} (h : bltOf x 1 = some .list) : x = "list" := by
  unfold bltOf at h
  rw [if_pos rfl] at h
  by_cases q : x = "list"
  · exact q
  · exfalso
    rw [if_neg q] at h
    repeat' split at h
    all_goals cases h
theorem lists_comp {own : List Nat} {p : E} {tg : Tg} {it : Tn.It} {c : Oe} : Lists F (.comp own p tg it c) := by
  intro env objs d o h
  obtain ⟨ds, o1, _, h2⟩ := M.bind_some h
  obtain ⟨_, h3⟩ := M.bind_guard h2
  obtain ⟨ys, o2, _, h4⟩ := M.bind_some h3
  split at h4
  · cases h4; exact ⟨_, rfl⟩
  · cases h4
theorem lists_comp2 {own own1 : List Nat} {p : E} {tg tg1 : Tg} {it it1 : Tn.It} : Lists F (.comp2 own own1 p tg it tg1 it1) := by
  intro env objs d o h
  obtain ⟨ds, o1, _, h2⟩ := M.bind_some h
  obtain ⟨_, h3⟩ := M.bind_guard h2
  obtain ⟨ys, o2, _, h4⟩ := M.bind_some h3
  split at h4
  · cases h4; exact ⟨_, rfl⟩
  · cases h4
/-- a comprehension's parts -/
def CompOk (X : Cx) (P : Par) (F : Nat → List D → M D) (W : Nat → Hp → Prop) (own : List Nat) (p : E) (tgI : Tg) (it : Tn.It) (c : Oe) (e : Expr) : Prop :=
  ∃ (elt tg iter : Expr) (ifs : List Expr) (scope : Scope) (pos : Pos) (own' : List (Str × Nat)), e = .ListComp elt [⟨tg, iter, ifs, 0⟩] scope pos ∧ own'.map (·.2) = own ∧ PI X tg iter (rdI P F W true it) ∧ BlkOk X.N X.env.scope scope own' ∧
    (∀ (D : Addr) (s : Shared) (H : Hp) (C : Addr) (cl : List (Str × Addr)) (fp : List Addr), PG (X.blk s H scope (compEnvC scope cl C X.env) fp) tg (rdG (PD P D) tgI)) ∧
    (∀ (D : Addr) (s : Shared) (H : Hp) (C : Addr) (cl : List (Str × Addr)) (fp : List Addr), PTs (X.blk s H scope (compEnvC scope cl C X.env) fp) ifs (rdC (PD P D) F (fun _ _ => False) c)) ∧
    (∀ (D : Addr) (s : Shared) (H : Hp) (C : Addr) (cl : List (Str × Addr)) (fp : List Addr), PE (X.blk s H scope (compEnvC scope cl C X.env) fp) elt (rd (PD P D) F (fun _ _ => False) p)) ∧
    (∀ j, j ∈ ixs tgI → j ∈ own'.map (·.2)) ∧ ∀ x, foldedSetIterable iter X.env x = pure x
def Comp2Ok (X : Cx) (P : Par) (F : Nat → List D → M D) (W : Nat → Hp → Prop) (own own1 : List Nat) (p : E) (tgI : Tg) (it : Tn.It) (tgI1 : Tg) (it1 : Tn.It) (e : Expr) : Prop :=
  ∃ (elt tg iter tg1 iter1 : Expr) (scope : Scope) (pos : Pos) (own' : List (Str × Nat)), e = .ListComp elt [⟨tg, iter, [], 0⟩, ⟨tg1, iter1, [], 0⟩] scope pos ∧ own'.map (·.2) = own ∧ PI X tg iter (rdI P F W true it) ∧ BlkOk X.N X.env.scope scope own' ∧ (∀ i ∈ own1, i ∈ own'.map (·.2)) ∧
    (∀ (D : Addr) (s : Shared) (H : Hp) (C : Addr) (cl : List (Str × Addr)) (fp : List Addr), PG (X.blk s H scope (compEnvC scope cl C X.env) fp) tg (rdG (PD P D) tgI)) ∧
    (∀ (D : Addr) (s : Shared) (H : Hp) (C : Addr) (cl : List (Str × Addr)) (fp : List Addr), PI (X.blk s H scope (compEnvC scope cl C X.env) fp) tg1 iter1 (rdI (PD P D) F (fun _ _ => False) true it1)) ∧
    (∀ (D : Addr) (s : Shared) (H : Hp) (C : Addr) (cl : List (Str × Addr)) (fp : List Addr), PG (X.blk s H scope (compEnvC scope cl C X.env) fp) tg1 (rdG (PD P D) tgI1)) ∧
    (∀ (D : Addr) (s : Shared) (H : Hp) (C : Addr) (cl : List (Str × Addr)) (fp : List Addr), PE (X.blk s H scope (compEnvC scope cl C X.env) fp) elt (rd (PD P D) F (fun _ _ => False) p)) ∧
    (∀ j, j ∈ ixs tgI → j ∈ own'.map (·.2)) ∧ (∀ j, j ∈ ixs tgI1 → j ∈ own1) ∧ (∀ x, foldedSetIterable iter X.env x = pure x) ∧ ∀ env x, foldedSetIterable iter1 env x = pure x
theorem compOk_of (G : Good S F sc P X) {own : List Nat} {p : E} {tgI : Tg} {it : Tn.It} {c : Oe} {md : Mode} {e : Expr} (h : ckE S (.comp own p tgI it c) md sc e = true)
    (hI : ∀ y z, ckI S it true sc y z = true → PI X y z (rdI P F W true it))
    (hC : ∀ (scope : Scope) (ifs : List Expr) (P : Par) (X : Cx), Good S F scope P X → ckC S c scope ifs = true → PTs X ifs (rdC P F (fun _ _ => False) c))
    (hE : ∀ (scope : Scope) (x : Expr) (P : Par) (X : Cx), Good S F scope P X → ckE S p .V scope x = true → PE X x (rd P F (fun _ _ => False) p)) : CompOk X P F W own p tgI it c e := by
  unfold ckE at h
  split at h
  · rename_i x y z ifs k scope pos
    obtain ⟨h, h9⟩ := and2 h
    obtain ⟨h, h8⟩ := and2 h
    obtain ⟨h, h7⟩ := and2 h
    obtain ⟨h, h6⟩ := and2 h
    obtain ⟨h, h5⟩ := and2 h
    obtain ⟨h, h4⟩ := and2 h
    obtain ⟨h, h3⟩ := and2 h
    obtain ⟨h1, h2⟩ := and2 h
    cases of_decide_eq_true h1
    have e2 := of_decide_eq_true h2
    refine ⟨x, y, z, ifs, scope, pos, ownP S own, rfl, e2, hI y z h6, G.blkOk h3, fun D s H C cl fp => ckG_ok (G.blk D s H C cl fp) tgI y h7, fun D s H C cl fp => hC scope ifs _ _ (G.blk D s H C cl fp) h8, fun D s H C cl fp => hE scope x _ _ (G.blk D s H C cl fp) h9, fun j hj => ?_, noFold h5⟩
    rw [e2]
    exact of_decide_eq_true (List.all_eq_true.mp h4 j hj)
  · cases h
theorem comp2Ok_of (G : Good S F sc P X) {own own1 : List Nat} {p : E} {tgI tgI1 : Tg} {it it1 : Tn.It} {md : Mode} {e : Expr} (h : ckE S (.comp2 own own1 p tgI it tgI1 it1) md sc e = true)
    (hI : ∀ y z, ckI S it true sc y z = true → PI X y z (rdI P F W true it))
    (hI1 : ∀ (scope : Scope) (y z : Expr) (P : Par) (X : Cx), Good S F scope P X → ckI S it1 true scope y z = true → PI X y z (rdI P F (fun _ _ => False) true it1))
    (hE : ∀ (scope : Scope) (x : Expr) (P : Par) (X : Cx), Good S F scope P X → ckE S p .V scope x = true → PE X x (rd P F (fun _ _ => False) p)) : Comp2Ok X P F W own own1 p tgI it tgI1 it1 e := by
  unfold ckE at h
  split at h
  · rename_i x y z k y1 z1 k1 scope pos
    obtain ⟨h, h14⟩ := and2 h
    obtain ⟨h, h13⟩ := and2 h
    obtain ⟨h, h12⟩ := and2 h
    obtain ⟨h, h11⟩ := and2 h
    obtain ⟨h, h10⟩ := and2 h
    obtain ⟨h, h9⟩ := and2 h
    obtain ⟨h, h8⟩ := and2 h
    obtain ⟨h, h7⟩ := and2 h
    obtain ⟨h, h6⟩ := and2 h
    obtain ⟨h, h5⟩ := and2 h
    obtain ⟨h, h4⟩ := and2 h
    obtain ⟨h, h3⟩ := and2 h
    obtain ⟨h1, h2⟩ := and2 h
    cases of_decide_eq_true h1
    cases of_decide_eq_true h2
    have e2 := of_decide_eq_true h3
    refine ⟨x, y, z, y1, z1, scope, pos, ownP S own, rfl, e2, hI y z h10, G.blkOk h4, fun j hj => ?_, fun D s H C cl fp => ckG_ok (G.blk D s H C cl fp) tgI y h11, fun D s H C cl fp => hI1 scope y1 z1 _ _ (G.blk D s H C cl fp) h12, fun D s H C cl fp => ckG_ok (G.blk D s H C cl fp) tgI1 y1 h13, fun D s H C cl fp => hE scope x _ _ (G.blk D s H C cl fp) h14,
      fun j hj => ?_, fun j hj => of_decide_eq_true (List.all_eq_true.mp h7 j hj), noFold h8, fun env => noFold h9⟩
    · rw [e2]
      exact of_decide_eq_true (List.all_eq_true.mp h5 j hj)
    · rw [e2]
      exact of_decide_eq_true (List.all_eq_true.mp h6 j hj)
  · cases h
theorem isTup_shape {e : Expr} (h : isTup e = true) : ∃ es k p, e = .Tuple es k p := by
  cases e <;> first
    | exact ⟨_, _, _, rfl⟩
    | (exact absurd (show false = true from h) Bool.false_ne_true)
mutual
theorem ckE_ok : ∀ (p : E) (md : Mode) (sc : Scope) (e : Expr) (P : Par) (X : Cx) (W : Nat → Hp → Prop), Good S F sc P X → ckE S p md sc e = true → J X P F W md p e
  | .var i, md, sc, e, P, X, W, G, h => by
    unfold ckE at h
    obtain ⟨h1, h2⟩ := and2 h
    split at h2
    · obtain ⟨a, b, c, d⟩ := G.vis h2
      exact jV G (s_var a b c d) rfl (of_decide_eq_true h1)
    · cases h2
  | .bor i, md, sc, e, P, X, W, G, h => by
    unfold ckE at h
    obtain ⟨h1, h2⟩ := and2 h
    have hm := of_decide_eq_true h1
    subst hm
    split at h2
    · obtain ⟨a, b, c, d⟩ := G.vis h2
      exact s_bor a b c d
    · cases h2
  | .con d, md, sc, e, P, X, W, G, h => by
    unfold ckE at h
    obtain ⟨h1, h2⟩ := and2 h
    obtain ⟨a, b⟩ := con_ok (W := W) G h2
    exact jV G a b (of_decide_eq_true h1)
  | .bin o a b, md, sc, e, P, X, W, G, h => by
    unfold ckE at h
    split at h
    · obtain ⟨h, h3⟩ := and2 h
      obtain ⟨h1, h2⟩ := and2 h
      have ha := ckE_ok a .O sc _ P X W G h2
      have hb := ckE_ok b .O sc _ P X W G h3
      have ho := of_decide_eq_true h1
      by_cases hm : md = .F
      · subst hm
        exact f_bin G.fr ho ha hb
      · exact jV G (s_bin G.fr ho ha hb) rfl hm
    · cases h
  | .cmp o a b, md, sc, e, P, X, W, G, h => by
    unfold ckE at h
    obtain ⟨h0, h⟩ := and2 h
    split at h
    · obtain ⟨h, h4⟩ := and2 h
      obtain ⟨h, h3⟩ := and2 h
      obtain ⟨h1, h2⟩ := and2 h
      have ha := ckE_ok a .O sc _ P X W G h3
      have hb := ckE_ok b .O sc _ P X W G h4
      have ho := of_decide_eq_true h1
      have hk := notE h2
      cases md with
      | V => exact s_cmp G.fr ho hk ha hb
      | O => exact rd_op (s_cmp G.fr ho hk ha hb)
      | F => exact absurd rfl (of_decide_eq_true h0)
      | T => exact t_cmp G.fr ho hk ha hb
    · cases h
  | .cmp2 o p a b c, md, sc, e, P, X, W, G, h => by
    unfold ckE at h
    obtain ⟨h0, h⟩ := and2 h
    split at h
    · obtain ⟨h, h6⟩ := and2 h
      obtain ⟨h, h5⟩ := and2 h
      obtain ⟨h, h4⟩ := and2 h
      obtain ⟨h, h3⟩ := and2 h
      obtain ⟨h1, h2⟩ := and2 h
      have ha := ckE_ok a .O sc _ P X W G h4
      have hb := ckE_ok b .O sc _ P X W G h5
      have hc := ckE_ok c .O sc _ P X W G h6
      have ho := of_decide_eq_true h1
      have ho2 := of_decide_eq_true h2
      have hk := notE h3
      cases md with
      | V => exact s_cmp2 G.fr ho ho2 hk ha hb hc
      | O => exact rd_op (s_cmp2 G.fr ho ho2 hk ha hb hc)
      | F => exact absurd rfl (of_decide_eq_true h0)
      | T => exact t_cmp2 G.fr ho ho2 hk ha hb hc
    · cases h
  | .and_ a b, md, sc, e, P, X, W, G, h => by
    unfold ckE at h
    split at h
    · split at h
      · rename_i hm
        subst hm
        obtain ⟨h1, h2⟩ := and2 h
        exact (w_and (ckE_ok a .T sc _ P X W G h1) (pw_tailA (ckE_ok b .T sc _ P X W G h2))).pt
      · rename_i hm
        obtain ⟨h, h2⟩ := and2 h
        obtain ⟨h0, h1⟩ := and2 h
        have hh := s_and G.fr (ckE_ok a .V sc _ P X W G h1) (pe_tail (ckE_ok b .V sc _ P X W G h2))
        cases md with
        | V => exact hh
        | O => exact rd_op hh
        | F => exact absurd rfl (of_decide_eq_true h0)
        | T => exact absurd rfl hm
    · cases h
  | .or_ a b, md, sc, e, P, X, W, G, h => by
    unfold ckE at h
    split at h
    · split at h
      · rename_i hm
        subst hm
        obtain ⟨h1, h2⟩ := and2 h
        exact (w_or (ckE_ok a .T sc _ P X W G h1) (pw_tailO (ckE_ok b .T sc _ P X W G h2))).pt
      · rename_i hm
        obtain ⟨h, h2⟩ := and2 h
        obtain ⟨h0, h1⟩ := and2 h
        have hh := s_or G.fr (ckE_ok a .V sc _ P X W G h1) (pe_tail (ckE_ok b .V sc _ P X W G h2))
        cases md with
        | V => exact hh
        | O => exact rd_op hh
        | F => exact absurd rfl (of_decide_eq_true h0)
        | T => exact absurd rfl hm
    · cases h
  | .not_ a, md, sc, e, P, X, W, G, h => by
    unfold ckE at h
    split at h
    · split at h
      · rename_i hm
        subst hm
        exact t_not (ckE_ok a .T sc _ P X W G h)
      · rename_i hm
        obtain ⟨h0, h1⟩ := and2 h
        have hh := s_not (pos := by assumption) G.fr (ckE_ok a .V sc _ P X W G h1)
        cases md with
        | V => exact hh
        | O => exact rd_op hh
        | F => exact absurd rfl (of_decide_eq_true h0)
        | T => exact absurd rfl hm
    · cases h
  | .neg a, md, sc, e, P, X, W, G, h => by
    unfold ckE at h
    obtain ⟨h0, h⟩ := and2 h
    split at h
    · exact jV G (s_neg (ckE_ok a .V sc _ P X W G h)) rfl (of_decide_eq_true h0)
    · cases h
  | .ite c a b, md, sc, e, P, X, W, G, h => by
    unfold ckE at h
    obtain ⟨h, h3⟩ := and2 h
    obtain ⟨h0, h00⟩ := and2 h
    split at h3
    · obtain ⟨h, h2⟩ := and2 h3
      obtain ⟨h4, h1⟩ := and2 h
      have hh := s_ite (pos := by assumption) (ckE_ok c .T sc _ P X W G h4) (ckE_ok a .V sc _ P X W G h1) (ckE_ok b .V sc _ P X W G h2)
      cases md with
      | V => exact hh
      | O => exact rd_op hh
      | F => exact absurd rfl (of_decide_eq_true h0)
      | T => exact absurd rfl (of_decide_eq_true h00)
    · cases h3
  | .tup es, md, sc, e, P, X, W, G, h => by
    unfold ckE at h
    obtain ⟨h0, h⟩ := and2 h
    split at h
    · exact jV G (s_tup (ckA_ok es .V sc _ P X W G (.inl rfl) h).2) rfl (of_decide_eq_true h0)
    · cases h
  | .lst es, md, sc, e, P, X, W, G, h => by
    unfold ckE at h
    split at h
    · exact jF G (f_lst (ckA_ok es .V sc _ P X W G (.inl rfl) h).2) lists_lst rfl
    · cases h
  | .idx a b, md, sc, e, P, X, W, G, h => by
    unfold ckE at h
    obtain ⟨h0, h⟩ := and2 h
    split at h
    · obtain ⟨h, h3⟩ := and2 h
      obtain ⟨h1, h2⟩ := and2 h
      exact jV G (s_idx G.fr h1 (ckE_ok a .O sc _ P X W G h2) (ckE_ok b .O sc _ P X W G h3)) rfl (of_decide_eq_true h0)
    · cases h
  | .slice a lo hi, md, sc, e, P, X, W, G, h => by
    unfold ckE at h
    obtain ⟨h0, h⟩ := and2 h
    split at h
    · obtain ⟨h, h3⟩ := and2 h
      obtain ⟨h1, h2⟩ := and2 h
      exact jV G (s_slice G.fr (ckE_ok a .O sc _ P X W G h1) (ckO_ok lo sc _ P X W G h2) (ckO_ok hi sc _ P X W G h3)) rfl (of_decide_eq_true h0)
    · cases h
  | .call f es, md, sc, e, P, X, W, G, h => by
    unfold ckE at h
    obtain ⟨h0, h⟩ := and2 h
    split at h
    · obtain ⟨h, h3⟩ := and2 h
      obtain ⟨h1, h2⟩ := and2 h
      obtain ⟨g1, g2⟩ := G.gl h1
      obtain ⟨k, f', fd, ns, ex, c1, c2, c3, c4, c5⟩ := G.call _ _ (of_decide_eq_true h2)
      obtain ⟨a1, a2⟩ := ckA_ok es .V sc _ P X W G (.inl rfl) h3
      exact jV G (s_call G.fr c1 c2 g1 c3 c4 c5 pass0 g2 a1 a2) rfl (of_decide_eq_true h0)
    · cases h
  | .blt b es, md, sc, e, P, X, W, G, h => by
    unfold ckE at h
    split at h
    · obtain ⟨h, h4⟩ := and2 h
      obtain ⟨h, h3⟩ := and2 h
      obtain ⟨h1, h2⟩ := and2 h
      obtain ⟨g1, g2⟩ := G.blt h2
      obtain ⟨a1, a2⟩ := ckA_ok es .O sc _ P X W G (.inr rfl) h4
      by_cases hm : md = .F
      · subst hm
        rcases Bool.or_eq_true_iff.mp h1 with z | z
        · exact absurd rfl (of_decide_eq_true z)
        · obtain ⟨h6, h7⟩ := and2 z
          have hb := of_decide_eq_true h6
          subst hb
          have hys := List.isEmpty_iff.mp h7
          subst hys
          exact f_listA G.fr (bltOf_list (of_decide_eq_true h3)) g1 g2 (and2 a1).1 a2
      · exact jV G (s_blt G.fr (of_decide_eq_true h3) g1 g2 a1 a2) rfl hm
    · cases h
  | .isi t a, md, sc, e, P, X, W, G, h => by
    unfold ckE at h
    obtain ⟨h0, h⟩ := and2 h
    split at h
    · obtain ⟨h, h6⟩ := and2 h
      obtain ⟨h, h5⟩ := and2 h
      obtain ⟨h, h4⟩ := and2 h
      obtain ⟨h, h3⟩ := and2 h
      obtain ⟨h1, h2⟩ := and2 h
      have hx := of_decide_eq_true h1
      subst hx
      obtain ⟨g1, g2⟩ := G.blt h2
      obtain ⟨g3, g4⟩ := G.blt h4
      exact jV G (s_isi G.fr (of_decide_eq_true h3) g1 g2 g3 g4 h5 (ckE_ok a .V sc _ P X W G h6)) rfl (of_decide_eq_true h0)
    · cases h
  | .comp own elt tg it c, md, sc, e, P, X, W, G, h => by
    obtain ⟨x, y, z, ifs, scope, pos, own', rfl, rfl, c1, c2, c3, c4, c5, c6, c7⟩ := compOk_of (W := W) G h (fun y z hh => ckI_ok it true sc y z P X W G hh) (fun scope ifs P X G hh => ckC_ok c scope ifs P X (fun _ _ => False) G hh) (fun scope x P X G hh => ckE_ok elt .V scope x P X (fun _ _ => False) G hh)
    exact jF G (f_comp G.fr c1 c2 c3 c4 c5 c6 c7) lists_comp rfl
  | .comp2 own own1 elt tg it tg1 it1, md, sc, e, P, X, W, G, h => by
    obtain ⟨x, y, z, y1, z1, scope, pos, own', rfl, rfl, c1, c2, c3, c4, c5, c6, c7, c8, c9, c10, c11⟩ := comp2Ok_of (W := W) G h (fun y z hh => ckI_ok it true sc y z P X W G hh) (fun scope y z P X G hh => ckI_ok it1 true scope y z P X (fun _ _ => False) G hh) (fun scope x P X G hh => ckE_ok elt .V scope x P X (fun _ _ => False) G hh)
    exact jF G (f_comp2 G.fr c1 c2 c3 c4 c5 c6 c7 c8 c9 c10 c11) lists_comp2 rfl
  | .listIt it, md, sc, e, P, X, W, G, h => by
    unfold ckE at h
    cases h
  | .getF kind fld a, md, sc, e, P, X, W, G, h => by
    unfold ckE at h
    obtain ⟨h0, h⟩ := and2 h
    split at h
    · obtain ⟨h1, h2⟩ := and2 h
      obtain ⟨ks, k1, k2, k3, k4⟩ := G.kind h1
      exact jV G (s_getF G.fr k1 k2 k4 (ckE_ok a .V sc _ P X W G h2)) rfl (of_decide_eq_true h0)
    · cases h
  | .popF kind fld a, md, sc, e, P, X, W, G, h => by
    unfold ckE at h
    obtain ⟨h0, h⟩ := and2 h
    split at h
    · obtain ⟨h, h5⟩ := and2 h
      obtain ⟨h, h4⟩ := and2 h
      obtain ⟨h, h3⟩ := and2 h
      obtain ⟨h1, h2⟩ := and2 h
      have hx := of_decide_eq_true h1
      have hj := of_decide_eq_true h2
      subst hx hj
      obtain ⟨ks, k1, k2, k3, k4⟩ := G.kind h4
      exact jV G (s_popF G.fr k1 k2 k4 (ckE_ok a .V sc _ P X W G h5) h3) rfl (of_decide_eq_true h0)
    · cases h
  | .neF kind fld a, md, sc, e, P, X, W, G, h => by
    unfold ckE at h
    obtain ⟨h0, h⟩ := and2 h
    split at h
    · obtain ⟨h1, h2⟩ := and2 h
      obtain ⟨ks, k1, k2, k3, k4⟩ := G.kind h1
      have ha := ckE_ok a .V sc _ P X W G h2
      cases md with
      | V => exact s_neF G.fr k1 k2 k4 ha
      | O => exact rd_op (s_neF G.fr k1 k2 k4 ha)
      | F => exact absurd rfl (of_decide_eq_true h0)
      | T => exact t_neF G.fr k1 k2 k4 ha
    · cases h
  | .dget i k d, md, sc, e, P, X, W, G, h => by
    unfold ckE at h
    obtain ⟨h0, h⟩ := and2 h
    split at h
    · obtain ⟨h, h7⟩ := and2 h
      obtain ⟨h, h6⟩ := and2 h
      obtain ⟨h, h5⟩ := and2 h
      obtain ⟨h, h4⟩ := and2 h
      obtain ⟨h, h3⟩ := and2 h
      obtain ⟨h1, h2⟩ := and2 h
      have hx := of_decide_eq_true h1
      subst hx
      obtain ⟨a, b, c, dd⟩ := G.vis h2
      exact jV G (s_dget G.fr a b c dd h4 h5 (ckE_ok k .V sc _ P X W G h6) (ckE_ok d .V sc _ P X W G h7) h3) rfl (of_decide_eq_true h0)
    · cases h
  | .dix i k, md, sc, e, P, X, W, G, h => by
    unfold ckE at h
    obtain ⟨h0, h⟩ := and2 h
    split at h
    · obtain ⟨h, h3⟩ := and2 h
      obtain ⟨h1, h2⟩ := and2 h
      obtain ⟨a, b, c, dd⟩ := G.vis h1
      exact jV G (s_dix G.fr a b c dd h2 (ckE_ok k .V sc _ P X W G h3)) rfl (of_decide_eq_true h0)
    · cases h
  | .dsorted i, md, sc, e, P, X, W, G, h => by
    unfold ckE at h
    split at h
    · obtain ⟨h, h3⟩ := and2 h
      obtain ⟨h1, h2⟩ := and2 h
      have hx := of_decide_eq_true h1
      subst hx
      obtain ⟨g1, g2⟩ := G.blt h2
      obtain ⟨a, b, c, dd⟩ := G.vis h3
      exact jF G (f_dsorted G.fr g1 g2 a b c dd) lists_dsorted rfl
    · cases h
theorem ckA_ok : ∀ (ps : Es) (md : Mode) (sc : Scope) (es : List Expr) (P : Par) (X : Cx) (W : Nat → Hp → Prop), Good S F sc P X → (md = .V ∨ md = .O) → ckA S ps md sc es = true → es.all okE = true ∧ PA X es (rdA P F W (RM P md) ps)
  | .nil, md, sc, es, P, X, W, G, hm, h => by
    unfold ckA at h
    cases es with
    | nil => exact ⟨rfl, a_nil⟩
    | cons _ _ => cases h
  | .cons p ps, md, sc, es, P, X, W, G, hm, h => by
    unfold ckA at h
    split at h
    · rename_i e es
      obtain ⟨h, h3⟩ := and2 h
      obtain ⟨h1, h2⟩ := and2 h
      obtain ⟨i1, i2⟩ := ckA_ok ps md sc es P X W G hm h3
      have h4 := ckE_ok p md sc e P X W G h2
      refine ⟨by rw [List.all_cons, h1, i1]; rfl, ?_⟩
      rcases hm with rfl | rfl
      · exact a_cons (R := RV P) (fun s r => Rep.step s r) h1 h4 i2
      · exact a_cons (R := RepT P) (fun s r => RepT.step s r) h1 h4 i2
    · cases h
theorem ckO_ok : ∀ (o : Oe) (sc : Scope) (e : Option Expr) (P : Par) (X : Cx) (W : Nat → Hp → Prop), Good S F sc P X → ckO S o sc e = true → PO X e (rdP P F W o)
  | .none, sc, e, P, X, W, G, h => by
    unfold ckO at h
    cases e with
    | none => exact o_none
    | some _ => cases h
  | .some p, sc, e, P, X, W, G, h => by
    unfold ckO at h
    split at h
    · exact o_some (ckE_ok p .V sc _ P X W G h)
    · cases h
theorem ckC_ok : ∀ (o : Oe) (sc : Scope) (es : List Expr) (P : Par) (X : Cx) (W : Nat → Hp → Prop), Good S F sc P X → ckC S o sc es = true → PTs X es (rdC P F W o)
  | .none, sc, e, P, X, W, G, h => by
    unfold ckC at h
    cases e with
    | nil => exact c_none
    | cons _ _ => cases h
  | .some p, sc, e, P, X, W, G, h => by
    unfold ckC at h
    split at h
    · exact c_some (ckE_ok p .T sc _ P X W G h)
    · cases h
theorem ckI_ok : ∀ (it : Tn.It) (b : Bool) (sc : Scope) (tg e : Expr) (P : Par) (X : Cx) (W : Nat → Hp → Prop), Good S F sc P X → ckI S it b sc tg e = true → PI X tg e (rdI P F W b it)
  | .seq p, b, sc, tg, e, P, X, W, G, h => by
    unfold ckI at h
    cases b with
    | true => exact i_seq G.fr (rdO_b (ckE_ok p .O sc _ P X W G h))
    | false => exact i_seq G.fr (rd_b (ckE_ok p .V sc _ P X W G h))
  | .rng1 p, b, sc, tg, e, P, X, W, G, h => by
    unfold ckI at h
    split at h
    · obtain ⟨h, h4⟩ := and2 h
      obtain ⟨h, h3⟩ := and2 h
      obtain ⟨h1, h2⟩ := and2 h
      have hx := of_decide_eq_true h1
      subst hx
      obtain ⟨g1, g2⟩ := G.blt h2
      exact i_rng1 G.fr g1 g2 h3 (ckE_ok p .V sc _ P X W G h4)
    · cases h
  | .rng2 p q, b, sc, tg, e, P, X, W, G, h => by
    unfold ckI at h
    split at h
    · obtain ⟨h, h6⟩ := and2 h
      obtain ⟨h, h5⟩ := and2 h
      obtain ⟨h, h4⟩ := and2 h
      obtain ⟨h, h3⟩ := and2 h
      obtain ⟨h1, h2⟩ := and2 h
      have hx := of_decide_eq_true h1
      subst hx
      obtain ⟨g1, g2⟩ := G.blt h2
      exact i_rng2 G.fr g1 g2 h3 h4 (ckE_ok p .V sc _ P X W G h5) (ckE_ok q .V sc _ P X W G h6)
    · cases h
  | .zip2 p q, b, sc, tg, e, P, X, W, G, h => by
    unfold ckI at h
    obtain ⟨h0, hh⟩ := and2 h
    clear h
    obtain ⟨es, k, tp, rfl⟩ := isTup_shape h0
    clear h0
    split at hh
    · obtain ⟨h, h6⟩ := and2 hh
      obtain ⟨h, h5⟩ := and2 h
      obtain ⟨h, h4⟩ := and2 h
      obtain ⟨h, h3⟩ := and2 h
      obtain ⟨h1, h2⟩ := and2 h
      have hx := of_decide_eq_true h1
      subst hx
      obtain ⟨g1, g2⟩ := G.blt h2
      cases b with
      | true => exact i_zip G.fr g1 g2 h3 h4 (rdO_b (ckE_ok p .O sc _ P X W G h5)) (rdO_b (ckE_ok q .O sc _ P X W G h6))
      | false => exact i_zip G.fr g1 g2 h3 h4 (rd_b (ckE_ok p .V sc _ P X W G h5)) (rd_b (ckE_ok q .V sc _ P X W G h6))
    · cases hh
  | .enum p, b, sc, tg, e, P, X, W, G, h => by
    unfold ckI at h
    obtain ⟨h0, hh⟩ := and2 h
    clear h
    obtain ⟨es, k, tp, rfl⟩ := isTup_shape h0
    clear h0
    split at hh
    · obtain ⟨h, h4⟩ := and2 hh
      obtain ⟨h, h3⟩ := and2 h
      obtain ⟨h1, h2⟩ := and2 h
      have hx := of_decide_eq_true h1
      subst hx
      obtain ⟨g1, g2⟩ := G.blt h2
      cases b with
      | true => exact i_enum G.fr g1 g2 h3 (rdO_b (ckE_ok p .O sc _ P X W G h4))
      | false => exact i_enum G.fr g1 g2 h3 (rd_b (ckE_ok p .V sc _ P X W G h4))
    · cases hh
end
end
end Tn
set_option Elab.async false
set_option linter.all false
set_option maxRecDepth 100000
set_option maxHeartbeats 8000000
namespace Tn
open PySem PySem.Spec PyProof.Rows L2
/-! ### which stores are exchanged -/
def swNames (sc : Scope) (ts : List Expr) : List Str := ts.filterMap fun
    | .Name id pos => if sc.names.lookup id == some .local && pos.line == (ts.head?.map (·.pos.line)).getD 0 then some id else none
    | _ => none
def swStar (vs : List Expr) : Bool := vs.any (fun | .Starred .. => true | _ => false)
def swCalc (sc : Scope) (ts vs : List Expr) : Option (Option (List Str)) :=
  if (!(ts.length == 2 || ts.length == 3) || vs.length != ts.length) = true then some none else
  if swStar vs = true then some none else
  if ((swNames sc ts).length != ts.length || (swNames sc ts).eraseDups.length != (swNames sc ts).length) = true then some none else
  if vs.all (foldedForSure 8) = true then some none else
  if vs.all (constantsAlone 8) = true then none else some (some (swNames sc ts))
theorem swCalc_ok {sc : Scope} {env : PySem.Env} (h1 : env.scope = sc) (h2 : sc.kind = .function) {ts vs : List Expr} {k k2 : Nat} {p p2 : Pos} {r : Option (List Str)} (h : swCalc sc ts vs = some r) : swappedStores [.Tuple ts k p] (.Tuple vs k2 p2) env = pure r := by
  have hb : env.blockKind = .function := by unfold Env.blockKind; rw [h1, h2]; rfl
  subst h1
  unfold swCalc at h
  unfold swappedStores
  have hb2 : (env.blockKind != ScopeKind.function) = false := by rw [hb]; rfl
  show (if (!(ts.length == 2 || ts.length == 3) || vs.length != ts.length || env.blockKind != ScopeKind.function) = true then pure none
    else if swStar vs = true then pure none
    else if ((swNames env.scope ts).length != ts.length || (swNames env.scope ts).eraseDups.length != (swNames env.scope ts).length) = true then pure none
    else if vs.all (foldedForSure 8) = true then pure none
    else if vs.all (constantsAlone 8) = true then (unsupported "assign.tuple-of-constant-expressions:order-of-the-stores" >>= fun _ => pure (some (swNames env.scope ts)))
    else pure (some (swNames env.scope ts)) : Sem (Option (List Str))) = pure r
  rw [hb2, Bool.or_false]
  by_cases c1 : (!(ts.length == 2 || ts.length == 3) || vs.length != ts.length) = true
  · rw [if_pos c1] at h ⊢; cases h; rfl
  rw [if_neg c1] at h ⊢
  by_cases c2 : swStar vs = true
  · rw [if_pos c2] at h ⊢; cases h; rfl
  rw [if_neg c2] at h ⊢
  by_cases c3 : ((swNames env.scope ts).length != ts.length || (swNames env.scope ts).eraseDups.length != (swNames env.scope ts).length) = true
  · rw [if_pos c3] at h ⊢; cases h; rfl
  rw [if_neg c3] at h ⊢
  by_cases c4 : vs.all (foldedForSure 8) = true
  · rw [if_pos c4] at h ⊢; cases h; rfl
  rw [if_neg c4] at h ⊢
  by_cases c5 : vs.all (constantsAlone 8) = true
  · rw [if_pos c5] at h; cases h
  rw [if_neg c5] at h ⊢
  cases h
  rfl
def swB (sc : Scope) (x : Str) (xp : Pos) (e : Expr) : Bool := match e with
  | .ListComp _ _ scope pos => decide (sc.names.lookup x = some .local) && (xp.line == pos.line) && !(scope.names.any fun (n, k) => n == x && (k == .local || k == .cell))
  | _ => false
def listComp : Expr → Bool
  | .SetComp _ _ _ _ => false
  | .DictComp _ _ _ _ _ => false
  | _ => true
theorem swB_ok {sc : Scope} {env : PySem.Env} (h1 : env.scope = sc) (h2 : sc.kind = .function) {x : Str} {xp : Pos} {e : Expr} {l : Nat} (hl : listComp e = true) : swapsWith e (some (.Name x xp)) l env = pure (swB sc x xp e) := by
  have hb : env.blockKind = .function := by unfold Env.blockKind; rw [h1, h2]; rfl
  subst h1
  cases e with
  | ListComp elt gs scope pos =>
    unfold swapsWith swB
    have e1 : (env.kindOf x == some NameKind.local) = decide (env.scope.names.lookup x = some .local) := by
      show (env.scope.names.lookup x == some NameKind.local) = _
      rw [Bool.eq_iff_iff]
      simp
    simp only [hb, e1]
    rfl
  | SetComp _ _ _ _ => cases hl
  | DictComp _ _ _ _ _ => cases hl
  | _ => rfl
theorem swOther {e tg : Expr} {l : Nat} {env : PySem.Env} (h : ∀ x p, tg ≠ .Name x p) : swapsWith e (some tg) l env = pure false := by
  cases e <;> first
    | rfl
    | (cases tg <;> first
        | rfl
        | exact absurd rfl (h _ _))
section
variable (S : Stat) (sc : Scope)
def ckAsg (t : Tg) (p : E) (tg e : Expr) : Bool := match tg with
  | .Name x xp => (match t with
    | .nm i => decide (S.N[i]? = some x) && locB sc x && listComp e && (if swB sc x xp e then (match p with
        | .comp _ _ _ _ _ => ckE S p .F sc e
        | .comp2 _ _ _ _ _ _ _ => ckE S p .F sc e
        | _ => false) else ckE S p .V sc e)
    | _ => false)
  | .Tuple ts _ _ => ckG S t sc tg && ckE S p .V sc e && (match e with
    | .Tuple vs _ _ => (match swCalc sc ts vs with
      | some none => true
      | _ => false)
    | _ => true)
  | _ => false
def ckOwn (i : Nat) (p : E) (tg e : Expr) : Bool := match tg with
  | .Name x xp => decide (S.N[i]? = some x) && locB sc x && listComp e && ckE S p .F sc e && (if swB sc x xp e then (match p with
        | .comp _ _ _ _ _ => true
        | .comp2 _ _ _ _ _ _ _ => true
        | _ => false) else true)
  | _ => false
def ckPar (is : List Nat) (ps : Es) (tg e : Expr) : Bool := match tg, e with
  | .Tuple ts _ _, .Tuple vs _ _ => ckA S ps .V sc vs && (match is, ts with
    | [i, j], [.Name x _, .Name y _] => decide (S.N[i]? = some x) && decide (S.N[j]? = some y) && decide (i ≠ j) && decide (sc.names.lookup x = some .local) && decide (sc.names.lookup y = some .local) && decide (vs.length = 2) && decide (swCalc sc ts vs = some (some [x, y]))
    | [i, j, l], [.Name x _, .Name y _, .Name z _] => decide (S.N[i]? = some x) && decide (S.N[j]? = some y) && decide (S.N[l]? = some z) && decide (i ≠ j) && decide (i ≠ l) && decide (j ≠ l) &&
        decide (sc.names.lookup x = some .local) && decide (sc.names.lookup y = some .local) && decide (sc.names.lookup z = some .local) && decide (vs.length = 3) && decide (swCalc sc ts vs = some (some [x, y, z]))
    | _, _ => false)
  | _, _ => false
def ckParO (i j : Nat) (p q : E) (tg e : Expr) : Bool := match tg, e with
  | .Tuple [.Name x xp, .Name y yp] _ _, .Tuple [a, b] _ _ => decide (S.N[i]? = some x) && decide (S.N[j]? = some y) && decide (sc.names.lookup x = some .local) && decide (sc.names.lookup y = some .local) && decide (swCalc sc [.Name x xp, .Name y yp] [a, b] = some (some [x, y])) &&
      okE a && okE b && ckE S p .F sc a && ckE S q .V sc b && decide (i ≠ j)
  | _, _ => false
def ckFs : List Str → List (Bool × E) → List (Option Expr) → List Expr → Bool
  | [], [], [], [] => true
  | k :: ks, (false, p) :: fs, some (.Constant (.str y) _ _) :: keys, v :: vs => decide (y = k) && ckE S p .V sc v && ckFs ks fs keys vs
  | k :: ks, (true, .var i) :: fs, some (.Constant (.str y) _ _) :: keys, .Name x _ :: vs => decide (y = k) && okV S sc i x && ckFs ks fs keys vs
  | _, _, _, _ => false
mutual
def ckS : Tn.S → Stmt → Bool
  | .set t p, st => match st with
    | .Assign [tg] e _ => ckAsg S sc t p tg e
    | _ => false
  | .own i p, st => match st with
    | .Assign [tg] e _ => ckOwn S sc i p tg e
    | _ => false
  | .par is ps, st => match st with
    | .Assign [tg] e _ => ckPar S sc is ps tg e
    | _ => false
  | .parO i j p q, st => match st with
    | .Assign [tg] e _ => ckParO S sc i j p q tg e
    | _ => false
  | .dnew i, st => match st with
    | .Assign [.Name x _] (.Dict [] [] _) _ => decide (S.N[i]? = some x) && locB sc x
    | _ => false
  | .ret p, st => match st with
    | .Return (some e) _ => ckE S p .V sc e
    | _ => false
  | .retObj kind fs, st => match st with
    | .Return (some (.Dict keys values _)) _ => (match S.kinds[kind]? with
      | some ks => decide ks.Nodup && decide (ks.length ≤ 15) && !keys.isEmpty && ckFs S sc ks fs keys values
      | none => false)
    | _ => false
  | .retN, st => match st with
    | .Return none _ => true
    | _ => false
  | .ite c a b, st => match st with
    | .If x y z _ => ckE S c .T sc x && ckSs a y && ckSs b z
    | _ => false
  | .whl c b, st => match st with
    | .While x y [] _ => ckE S c .T sc x && ckSs b y
    | _ => false
  | .for_ tg it b, st => match st with
    | .For x y z [] _ => notSet y && ckI S it false sc x y && ckG S tg sc x && ckSs b z
    | _ => false
  | .expr p, st => match st with
    | .Expr e _ => (match p, e with
      | .con .none, .Constant (.str _) _ _ => true
      | _, _ => !isComp e && ckE S p .V sc e)
    | _ => false
  | .append i p, st => match st with
    | .Expr (.Call (.Attribute (.Name x _) m p4) [e] [] pos) _ => decide (m = "append") && okV S sc i x && okE e && ckE S p .V sc e && (p4.endLine == pos.line)
    | _ => false
  | .extend i p, st => match st with
    | .Expr (.Call (.Attribute (.Name x _) m p4) [e] [] pos) _ => decide (m = "extend") && okV S sc i x && okE e && ckE S p .F sc e && (p4.endLine == pos.line)
    | _ => false
  | .seti i k v, st => match st with
    | .Assign [.Subscript (.Name x _) y _] e _ => okV S sc i x && okE y && ckE S k .V sc y && ckE S v .V sc e
    | _ => false
  | .dset i k v, st => match st with
    | .Assign [.Subscript (.Name x _) y _] e _ => okV S sc i x && okE y && ckE S k .V sc y && ckE S v .V sc e
    | _ => false
  | .setF kind fld o v, st => match st with
    | .Assign [.Subscript x (.Constant (.str y) _ _) _] e _ => ckKind S kind fld y && ckE S o .V sc x && ckE S v .V sc e
    | _ => false
  | .raise c, st => false
  | .brk, st => match st with
    | .Break _ => true
    | _ => false
  | .cont, st => match st with
    | .Continue _ => true
    | _ => false
  | .frz is s, st => ckS s st
  | .fail, st => true
def ckSs : Ss → List Stmt → Bool
  | .nil, l => l.isEmpty
  | .cons s ss, l => match l with
    | st :: sts => ckS s st && ckSs ss sts
    | [] => false
end
end
structure GoodS (S : Stat) (F : Nat → List D → M D) (sc : Scope) (P : Par) (X : Cx) : Prop extends Good S F sc P X where
  scope : X.env.scope = sc
  fun_ : sc.kind = .function
  po : PassesOwn (model X.prog X.w) X.A X.env X.xe
section
variable {S : Stat} {F : Nat → List D → M D} {W : Nat → Hp → Prop} {sc : Scope} {P : Par} {X : Cx} {pos : Pos}
theorem Good.pd (G : Good S F sc P X) (q : Addr) : Good S F sc (PD P q) X :=
  ⟨⟨G.fr.K, G.fr.calm, G.fr.hu, G.fr.nd⟩, G.N, G.kinds, G.sco, G.call, G.mgb, G.mgi⟩
theorem comp_of (G : Good S F sc P X) {own : List Nat} {p : E} {tgI : Tg} {it : Tn.It} {c : Oe} {md : Mode} {e : Expr} (h : ckE S (.comp own p tgI it c) md sc e = true) : CompOk X P F W own p tgI it c e :=
  compOk_of (W := W) G h (fun y z hh => ckI_ok it true sc y z P X W G hh) (fun scope ifs P X G hh => ckC_ok c scope ifs P X (fun _ _ => False) G hh) (fun scope x P X G hh => ckE_ok p .V scope x P X (fun _ _ => False) G hh)
theorem comp2_of (G : Good S F sc P X) {own own1 : List Nat} {p : E} {tgI tgI1 : Tg} {it it1 : Tn.It} {md : Mode} {e : Expr} (h : ckE S (.comp2 own own1 p tgI it tgI1 it1) md sc e = true) : Comp2Ok X P F W own own1 p tgI it tgI1 it1 e :=
  comp2Ok_of (W := W) G h (fun y z hh => ckI_ok it true sc y z P X W G hh) (fun scope y z P X G hh => ckI_ok it1 true scope y z P X (fun _ _ => False) G hh) (fun scope x P X G hh => ckE_ok p .V scope x P X (fun _ _ => False) G hh)
theorem swB_local {x : Str} {xp : Pos} {e : Expr} (h : swB sc x xp e = true) : sc.names.lookup x = some .local := by
  unfold swB at h
  split at h
  · exact of_decide_eq_true (and2 (and2 h).1).1
  · cases h
theorem asg_comp (G : GoodS S F sc P X) {i : Nat} {x : Str} {xp : Pos} {p : E} {e : Expr} (hN : S.N[i]? = some x) (hl : listComp e = true) (hs : swB sc x xp e = true) {own : List Nat} {elt : E} {tg : Tg} {it : Tn.It} {c : Oe} (hp : p = .comp own elt tg it c) (h : ckE S p .F sc e = true) :
    PS X (.Assign [.Name x xp] e pos) (tAsg (rdF P F W p) (gName i)) := by
  subst hp
  have hsw := swB_ok (x := x) (xp := xp) (e := e) (l := pos.line) G.scope G.fun_ hl
  rw [hs] at hsw
  obtain ⟨x', y, z, ifs, scope, pos', own', rfl, rfl, c1, c2, c3, c4, c5, c6, c7⟩ := comp_of (W := W) G.toGood h
  exact set_comp G.fr (by rw [G.N]; exact hN) (by rw [G.scope]; exact swB_local hs) hsw c1 c2 c3 c4 c5 c6 c7
theorem asg_comp2 (G : GoodS S F sc P X) {i : Nat} {x : Str} {xp : Pos} {p : E} {e : Expr} (hN : S.N[i]? = some x) (hl : listComp e = true) (hs : swB sc x xp e = true) {own own1 : List Nat} {elt : E} {tg tg1 : Tg} {it it1 : Tn.It} (hp : p = .comp2 own own1 elt tg it tg1 it1) (h : ckE S p .F sc e = true) :
    PS X (.Assign [.Name x xp] e pos) (tAsg (rdF P F W p) (gName i)) := by
  subst hp
  have hsw := swB_ok (x := x) (xp := xp) (e := e) (l := pos.line) G.scope G.fun_ hl
  rw [hs] at hsw
  obtain ⟨x', y, z, y1, z1, scope, pos', own', rfl, rfl, c1, c2, c3, c4, c5, c6, c7, c8, c9, c10, c11⟩ := comp2_of (W := W) G.toGood h
  exact set_comp2 G.fr (by rw [G.N]; exact hN) (by rw [G.scope]; exact swB_local hs) hsw c1 c2 c3 c4 c5 c6 c7 c8 c9 c10 c11
theorem swNone {ts : List Expr} {k : Nat} {p : Pos} {e : Expr} (G : GoodS S F sc P X) (h : (match e with
    | .Tuple vs _ _ => (match swCalc sc ts vs with
      | some none => true
      | _ => false)
    | _ => true) = true) : swappedStores [.Tuple ts k p] e X.env = pure none := by
  cases e with
  | Tuple vs k2 p2 =>
    dsimp only at h
    split at h
    · rename_i hh
      exact swCalc_ok G.scope G.fun_ hh
    · cases h
  | _ => rfl
theorem ckAsg_ok (G : GoodS S F sc P X) {t : Tg} {p : E} {tg e : Expr} (h : ckAsg S sc t p tg e = true) : PS X (.Assign [tg] e pos) (rdS P F W (.set t p)) := by
  unfold ckAsg at h
  split at h
  · rename_i x xp
    split at h
    · rename_i i
      obtain ⟨h, h4⟩ := and2 h
      obtain ⟨h, h3⟩ := and2 h
      obtain ⟨h1, h2⟩ := and2 h
      have hN := of_decide_eq_true h1
      obtain ⟨g1, g2⟩ := G.loc h2
      split at h4
      · rename_i hs
        split at h4
        · exact st_setF lists_comp (asg_comp G hN h3 hs rfl h4)
        · exact st_setF lists_comp2 (asg_comp2 G hN h3 hs rfl h4)
        · cases h4
      · rename_i hs
        have hsw := swB_ok (x := x) (xp := xp) (e := e) (l := pos.line) G.scope G.fun_ h3
        rw [show swB sc x xp e = false by simpa using hs] at hsw
        exact st_set G.fr (by rw [G.N]; exact hN) g1 g2 (ckE_ok p .V sc e P X W G.toGood h4) hsw
    · cases h
  · rename_i ts k tp
    obtain ⟨h, h3⟩ := and2 h
    obtain ⟨h1, h2⟩ := and2 h
    exact st_unp G.fr (ckG_ok G.toGood t _ h1) (ckE_ok p .V sc e P X W G.toGood h2) (show swapsWith e (some (.Tuple ts k tp)) pos.line X.env = pure false from swOther (tg := .Tuple ts k tp) (by intro _ _ z; cases z)) (swNone G h3) rfl
  · cases h
theorem ckOwn_ok (G : GoodS S F sc P X) {i : Nat} {p : E} {tg e : Expr} (h : ckOwn S sc i p tg e = true) : PS X (.Assign [tg] e pos) (rdS P F W (.own i p)) := by
  unfold ckOwn at h
  split at h
  · rename_i x xp
    obtain ⟨h, h5⟩ := and2 h
    obtain ⟨h, h4⟩ := and2 h
    obtain ⟨h, h3⟩ := and2 h
    obtain ⟨h1, h2⟩ := and2 h
    have hN := of_decide_eq_true h1
    obtain ⟨g1, g2⟩ := G.loc h2
    split at h5
    · rename_i hs
      split at h5
      · exact st_own (asg_comp G hN h3 hs rfl h4)
      · exact st_own (asg_comp2 G hN h3 hs rfl h4)
      · cases h5
    · rename_i hs
      have hsw := swB_ok (x := x) (xp := xp) (e := e) (l := pos.line) G.scope G.fun_ h3
      rw [show swB sc x xp e = false by simpa using hs] at hsw
      exact st_own (asg_name G.fr (by rw [G.N]; exact hN) g1 g2 (ckE_ok p .F sc e P X W G.toGood h4) hsw)
  · cases h
theorem ckPar_ok (G : GoodS S F sc P X) {is : List Nat} {ps : Es} {tg e : Expr} (h : ckPar S sc is ps tg e = true) : PS X (.Assign [tg] e pos) (rdS P F W (.par is ps)) := by
  unfold ckPar at h
  split at h
  · rename_i ts k tp vs k2 tp2
    obtain ⟨h0, h⟩ := and2 h
    obtain ⟨_, ha⟩ := ckA_ok ps .V sc vs P X W G.toGood (.inl rfl) h0
    split at h
    · obtain ⟨h, h7⟩ := and2 h
      obtain ⟨h, h6⟩ := and2 h
      obtain ⟨h, h5⟩ := and2 h
      obtain ⟨h, h4⟩ := and2 h
      obtain ⟨h, h3⟩ := and2 h
      obtain ⟨h1, h2⟩ := and2 h
      have hl := of_decide_eq_true h6
      match vs, hl, ha, h7 with
      | [a, b], _, ha, h7 =>
        exact st_par2 G.fr (by rw [G.N]; exact of_decide_eq_true h1) (by rw [G.N]; exact of_decide_eq_true h2) (of_decide_eq_true h3) (by rw [G.scope]; exact of_decide_eq_true h4) (by rw [G.scope]; exact of_decide_eq_true h5) ha (swCalc_ok G.scope G.fun_ (of_decide_eq_true h7))
    · obtain ⟨h, h11⟩ := and2 h
      obtain ⟨h, h10⟩ := and2 h
      obtain ⟨h, h9⟩ := and2 h
      obtain ⟨h, h8⟩ := and2 h
      obtain ⟨h, h7⟩ := and2 h
      obtain ⟨h, h6⟩ := and2 h
      obtain ⟨h, h5⟩ := and2 h
      obtain ⟨h, h4⟩ := and2 h
      obtain ⟨h, h3⟩ := and2 h
      obtain ⟨h1, h2⟩ := and2 h
      have hl := of_decide_eq_true h10
      match vs, hl, ha, h11 with
      | [a, b, c], _, ha, h11 =>
        exact st_par3 G.fr (by rw [G.N]; exact of_decide_eq_true h1) (by rw [G.N]; exact of_decide_eq_true h2) (by rw [G.N]; exact of_decide_eq_true h3) (of_decide_eq_true h4) (of_decide_eq_true h5) (of_decide_eq_true h6) (by rw [G.scope]; exact of_decide_eq_true h7) (by rw [G.scope]; exact of_decide_eq_true h8) (by rw [G.scope]; exact of_decide_eq_true h9) ha (swCalc_ok G.scope G.fun_ (of_decide_eq_true h11))
    · cases h
  · cases h
theorem ckParO_ok (G : GoodS S F sc P X) {i j : Nat} {p q : E} {tg e : Expr} (h : ckParO S sc i j p q tg e = true) : PS X (.Assign [tg] e pos) (rdS P F W (.parO i j p q)) := by
  unfold ckParO at h
  split at h
  · obtain ⟨h, h10⟩ := and2 h
    obtain ⟨h, h9⟩ := and2 h
    obtain ⟨h, h8⟩ := and2 h
    obtain ⟨h, h7⟩ := and2 h
    obtain ⟨h, h6⟩ := and2 h
    obtain ⟨h, h5⟩ := and2 h
    obtain ⟨h, h4⟩ := and2 h
    obtain ⟨h, h3⟩ := and2 h
    obtain ⟨h1, h2⟩ := and2 h
    exact st_parO G.fr (by rw [G.N]; exact of_decide_eq_true h1) (by rw [G.N]; exact of_decide_eq_true h2) (of_decide_eq_true h10) (by rw [G.scope]; exact of_decide_eq_true h3) (by rw [G.scope]; exact of_decide_eq_true h4) h6 h7 (ckE_ok p .F sc _ P X W G.toGood h8)
      (fun a => ckE_ok q .V sc _ (PD P a) X W (G.toGood.pd a) h9) (swCalc_ok G.scope G.fun_ (of_decide_eq_true h5))
  · cases h
theorem ckFs_ok (G : Good S F sc P X) {dp : Pos} : ∀ (ks : List Str) (fs : List (Bool × E)) (keys : List (Option Expr)) (vs : List Expr), ckFs S sc ks fs keys vs = true → PPs X dp keys vs (trsOf P F W ks fs) ∧ ks.length = fs.length ∧ keys.length = ks.length ∧ vs.length = ks.length ∧ keys.all (·.isSome) = true := by
  intro ks fs keys vs
  fun_induction ckFs S sc ks fs keys vs with
  | case1 => intro _; exact ⟨pps_nil, rfl, rfl, rfl, rfl⟩
  | case2 k ks p fs y j kp keys v vs ih =>
    intro h
    obtain ⟨h, h3⟩ := and2 h
    obtain ⟨h1, h2⟩ := and2 h
    cases of_decide_eq_true h1
    obtain ⟨i1, i2, i3, i4, i5⟩ := ih h3
    exact ⟨pps_cons pe_str (pe_ex fun q => ckE_ok p .V sc v (PD P q) X W (G.pd q) h2) i1, congrArg Nat.succ i2, congrArg Nat.succ i3, congrArg Nat.succ i4, by rw [List.all_cons, i5]; rfl⟩
  | case3 k ks i fs y j kp keys x xp vs ih =>
    intro h
    obtain ⟨h, h3⟩ := and2 h
    obtain ⟨h1, h2⟩ := and2 h
    cases of_decide_eq_true h1
    obtain ⟨i1, i2, i3, i4, i5⟩ := ih h3
    obtain ⟨a, b, c, d⟩ := G.vis h2
    exact ⟨pps_cons pe_str (pe_var a b c d) i1, congrArg Nat.succ i2, congrArg Nat.succ i3, congrArg Nat.succ i4, by rw [List.all_cons, i5]; rfl⟩
  | case4 => intro h; cases h
theorem noComp {e : Expr} {tg : Option Expr} {l : Nat} {env : PySem.Env} (h : isComp e = false) : swapsWith e tg l env = pure false := by
  cases e <;> first
    | rfl
    | cases h
mutual
theorem ckS_ok (G : GoodS S F sc P X) : ∀ (s : Tn.S) (st : Stmt), ckS S sc s st = true → PS X st (rdS P F W s)
  | .set t p, st, h => by
    unfold ckS at h
    split at h
    · exact ckAsg_ok G h
    · cases h
  | .own i p, st, h => by
    unfold ckS at h
    split at h
    · exact ckOwn_ok G h
    · cases h
  | .par is ps, st, h => by
    unfold ckS at h
    split at h
    · exact ckPar_ok G h
    · cases h
  | .parO i j p q, st, h => by
    unfold ckS at h
    split at h
    · exact ckParO_ok G h
    · cases h
  | .dnew i, st, h => by
    unfold ckS at h
    split at h
    · obtain ⟨h1, h2⟩ := and2 h
      obtain ⟨g1, g2⟩ := G.loc h2
      exact st_dnew G.fr (by rw [G.N]; exact of_decide_eq_true h1) g1 g2
    · cases h
  | .ret p, st, h => by
    unfold ckS at h
    split at h
    · exact st_ret (ckE_ok p .V sc _ P X W G.toGood h)
    · cases h
  | .retObj kind fs, st, h => by
    unfold ckS at h
    split at h
    · split at h
      · rename_i ks hk
        obtain ⟨h, h4⟩ := and2 h
        obtain ⟨h, h3⟩ := and2 h
        obtain ⟨h1, h2⟩ := and2 h
        obtain ⟨c1, c2, c3, c4, c5⟩ := ckFs_ok (W := W) G.toGood ks fs _ _ h4
        exact st_retObj G.fr (by rw [G.kinds]; exact hk) (of_decide_eq_true h1) c2 (of_decide_eq_true h2) c1 c5 (c3.trans c4.symm) (fun z => by rw [z] at h3; cases h3) (by rw [c3]; exact of_decide_eq_true h2)
      · cases h
    · cases h
  | .retN, st, h => by
    unfold ckS at h
    split at h
    · exact st_retN
    · cases h
  | .ite c a b, st, h => by
    unfold ckS at h
    split at h
    · obtain ⟨h, h3⟩ := and2 h
      obtain ⟨h1, h2⟩ := and2 h
      exact st_if (ckE_ok c .T sc _ P X W G.toGood h1) (ckSs_ok G a _ h2) (ckSs_ok G b _ h3)
    · cases h
  | .whl c b, st, h => by
    unfold ckS at h
    split at h
    · obtain ⟨h1, h2⟩ := and2 h
      exact st_while G.po (ckE_ok c .T sc _ P X W G.toGood h1) (ckSs_ok G b _ h2)
    · cases h
  | .for_ tg it b, st, h => by
    unfold ckS at h
    split at h
    · obtain ⟨h, h4⟩ := and2 h
      obtain ⟨h, h3⟩ := and2 h
      obtain ⟨h1, h2⟩ := and2 h
      exact st_for G.fr G.po (ckI_ok it false sc _ _ P X W G.toGood h2) (ckG_ok G.toGood tg _ h3) (ckSs_ok G b _ h4) (noFold h1)
    · cases h
  | .expr p, st, h => by
    unfold ckS at h
    split at h
    · split at h
      · exact st_doc
      · obtain ⟨h1, h2⟩ := and2 h
        exact st_expr (ckE_ok p .V sc _ P X W G.toGood h2) (noComp (notE h1))
    · cases h
  | .append i p, st, h => by
    unfold ckS at h
    split at h
    · obtain ⟨h, h5⟩ := and2 h
      obtain ⟨h, h4⟩ := and2 h
      obtain ⟨h, h3⟩ := and2 h
      obtain ⟨h1, h2⟩ := and2 h
      have hx := of_decide_eq_true h1
      subst hx
      obtain ⟨a, b, c, d⟩ := G.vis h2
      exact st_append G.fr a b c d h3 (ckE_ok p .V sc _ P X W G.toGood h4) h5
    · cases h
  | .extend i p, st, h => by
    unfold ckS at h
    split at h
    · obtain ⟨h, h5⟩ := and2 h
      obtain ⟨h, h4⟩ := and2 h
      obtain ⟨h, h3⟩ := and2 h
      obtain ⟨h1, h2⟩ := and2 h
      have hx := of_decide_eq_true h1
      subst hx
      obtain ⟨a, b, c, d⟩ := G.vis h2
      exact st_extend G.fr a b c d h3 (ckE_ok p .F sc _ P X W G.toGood h4) h5
    · cases h
  | .seti i k v, st, h => by
    unfold ckS at h
    split at h
    · rename_i x _ y _ e _
      obtain ⟨h, h4⟩ := and2 h
      obtain ⟨h, h3⟩ := and2 h
      obtain ⟨h1, h2⟩ := and2 h
      obtain ⟨a, b, c, d⟩ := G.vis h1
      refine st_seti G.fr a b c d (ckE_ok v .V sc _ P X W G.toGood h4) (ckE_ok k .V sc _ P X W G.toGood h3) (swOther (by intro _ _ z; cases z)) rfl fun w => ?_
      cases y <;> first
        | rfl
        | (exact absurd (show false = true from h2) Bool.false_ne_true)
    · cases h
  | .dset i k v, st, h => by
    unfold ckS at h
    split at h
    · obtain ⟨h, h4⟩ := and2 h
      obtain ⟨h, h3⟩ := and2 h
      obtain ⟨h1, h2⟩ := and2 h
      obtain ⟨a, b, c, d⟩ := G.vis h1
      exact st_dset G.fr a b c d (ckE_ok v .V sc _ P X W G.toGood h4) (ckE_ok k .V sc _ P X W G.toGood h3) (swOther (by intro _ _ z; cases z))
    · cases h
  | .setF kind fld o v, st, h => by
    unfold ckS at h
    split at h
    · obtain ⟨h, h3⟩ := and2 h
      obtain ⟨h1, h2⟩ := and2 h
      obtain ⟨ks, k1, k2, k3, k4⟩ := G.kind h1
      exact st_setO G.fr k1 k2 k3 k4 (ckE_ok o .V sc _ P X W G.toGood h2) (ckE_ok v .V sc _ P X W G.toGood h3) (swOther (by intro _ _ z; cases z))
    · cases h
  | .raise c, st, h => by
    unfold ckS at h
    cases h
  | .brk, st, h => by
    unfold ckS at h
    split at h
    · exact st_brk
    · cases h
  | .cont, st, h => by
    unfold ckS at h
    split at h
    · exact st_cont
    · cases h
  | .frz is s, st, h => by
    unfold ckS at h
    exact st_frz (ckS_ok G s st h)
  | .fail, st, h => st_fail
theorem ckSs_ok (G : GoodS S F sc P X) : ∀ (ss : Ss) (sts : List Stmt), ckSs S sc ss sts = true → PSs X sts (rdSs P F W ss)
  | .nil, sts, h => by
    unfold ckSs at h
    cases sts with
    | nil => exact ss_nil
    | cons _ _ => cases h
  | .cons s ss, sts, h => by
    unfold ckSs at h
    split at h
    · obtain ⟨h1, h2⟩ := and2 h
      exact ss_cons (ckS_ok G s _ h1) (ckSs_ok G ss _ h2)
    · cases h
end
end
end Tn
set_option linter.all false
set_option maxRecDepth 100000
set_option maxHeartbeats 1000000
namespace Tn
open PySem
/-! ### runs as equations -/
@[simp] theorem bpure {α β : Type} (a : α) (f : α → M β) : M.bind (M.pure a) f = f a := rfl
@[simp] theorem bstuck {α β : Type} (f : α → M β) : M.bind (M.stuck : M α) f = M.stuck := rfl
theorem bassoc {α β γ : Type} (x : M α) (f : α → M β) (g : β → M γ) : M.bind (M.bind x f) g = M.bind x fun a => M.bind (f a) g := by
  funext o
  unfold M.bind
  cases x o with
  | none => rfl
  | some r => cases r <;> rfl
@[simp] theorem lsome {α : Type} (a : α) : M.lift (some a) = M.pure a := rfl
@[simp] theorem gtrue : guardB true = M.pure () := rfl
@[simp] theorem nopure {α : Type} (a : α) : M.noex (M.pure a) = M.pure a := rfl
@[simp] theorem getV_v {env : Env} {i : Nat} {d : D} (h : env[i]? = some (some (.v d))) : getV env i = M.pure d := by
  unfold getV
  rw [h]
@[simp] theorem getB_v {env : Env} {i : Nat} {d : D} (h : env[i]? = some (some (.v d))) : getB env i = M.pure d := by
  unfold getB
  rw [h]
@[simp] theorem getB_own {env : Env} {i : Nat} {d : List D} (h : env[i]? = some (some (.own d))) : getB env i = M.pure (.list d) := by
  unfold getB
  rw [h]
@[simp] theorem getD_dic {env : Env} {i : Nat} {d : List (List Int × D)} (h : env[i]? = some (some (.dic d))) : Tn.getD env i = M.pure d := by
  unfold Tn.getD
  rw [h]
@[simp] theorem ownAt_own {env : Env} {i : Nat} {d : List D} (h : env[i]? = some (some (.own d))) : ownAt env i = some d := by
  unfold ownAt
  rw [h]
/-- all items give their values -/
theorem collect_eq {f : D → M (Option D)} {g : D → D} : ∀ {xs : List D}, (∀ x ∈ xs, f x = M.pure (some (g x))) → collect f xs = M.pure (xs.map g)
  | [], _ => rfl
  | x :: xs, h => by
    unfold collect
    rw [h x List.mem_cons_self, collect_eq fun y hy => h y (List.mem_cons_of_mem _ hy)]
    rfl
theorem collect_map {α : Type} {f : D → M (Option D)} {enc : α → D} {g : α → D} : ∀ {xs : List α}, (∀ x ∈ xs, f (enc x) = M.pure (some (g x))) → collect f (xs.map enc) = M.pure (xs.map g)
  | [], _ => rfl
  | x :: xs, h => by
    rw [List.map_cons, List.map_cons]
    unfold collect
    rw [h x List.mem_cons_self, collect_map fun y hy => h y (List.mem_cons_of_mem _ hy)]
    rfl
/-- some of them -/
theorem collect_filter {α : Type} {f : D → M (Option D)} {enc : α → D} {q : α → Bool} {g : α → D} : ∀ {xs : List α}, (∀ x ∈ xs, f (enc x) = M.pure (if q x then some (g x) else none)) → collect f (xs.map enc) = M.pure ((xs.filter q).map g)
  | [], _ => rfl
  | x :: xs, h => by
    rw [List.map_cons]
    unfold collect
    rw [h x List.mem_cons_self, collect_filter fun y hy => h y (List.mem_cons_of_mem _ hy)]
    by_cases e : q x = true
    · rw [if_pos e, List.filter_cons_of_pos e]
      rfl
    · rw [if_neg e, List.filter_cons_of_neg e]
      rfl
theorem collect2_map {α : Type} {f : D → M (List D)} {enc : α → D} {g : α → List D} : ∀ {xs : List α}, (∀ x ∈ xs, f (enc x) = M.pure (g x)) → collect2 f (xs.map enc) = M.pure (xs.flatMap g)
  | [], _ => rfl
  | x :: xs, h => by
    rw [List.map_cons, List.flatMap_cons]
    unfold collect2
    rw [h x List.mem_cons_self, collect2_map fun y hy => h y (List.mem_cons_of_mem _ hy)]
    rfl
/-- a loop that ends by itself -/
theorem forL_map {α : Type} {f : D → Env → M (Fl × Env)} {enc : α → D} (st : List α → Env) : ∀ {xs done : List α}, (∀ ys x zs, done ++ xs = ys ++ x :: zs → f (enc x) (st ys) = M.pure (.nx, st (ys ++ [x]))) →
    forL f (xs.map enc) (st done) = M.pure (.nx, st (done ++ xs))
  | [], done, _ => by rw [List.append_nil]; rfl
  | x :: xs, done, h => by
    rw [List.map_cons]
    unfold forL
    rw [h done x xs rfl, bpure]
    have e : done ++ x :: xs = (done ++ [x]) ++ xs := by simp
    rw [e]
    exact forL_map st fun ys y zs hh => h ys y zs (by rw [← hh]; simp)
/-- a loop by an invariant on the environment -/
theorem forL_inv {f : D → Env → M (Fl × Env)} (I : Nat → Env → Prop) : ∀ {xs : List D} {n : Nat} {env : Env}, I n env → (∀ i env x, xs[i]? = some x → I (n + i) env → ∃ env', f x env = M.pure (.nx, env') ∧ I (n + i + 1) env') →
    ∃ env', forL f xs env = M.pure (.nx, env') ∧ I (n + xs.length) env'
  | [], n, env, h, _ => ⟨env, rfl, h⟩
  | x :: xs, n, env, h, k => by
    obtain ⟨e1, h1, h2⟩ := k 0 env x rfl h
    obtain ⟨e2, h3, h4⟩ := forL_inv I (xs := xs) (n := n + 1) h2 fun i env y hy hi => by
      have := k (i + 1) env y (by simpa using hy) (by rw [show n + (i + 1) = n + 1 + i by omega]; exact hi)
      rw [show n + (i + 1) = n + 1 + i by omega] at this
      exact this
    refine ⟨e2, ?_, by rw [List.length_cons, show n + (xs.length + 1) = n + 1 + xs.length by omega]; exact h4⟩
    unfold forL
    rw [h1, bpure]
    exact h3
/-! ### while -/
theorem whlN_succ {c : Env → M Bool} {b : Env → M (Fl × Env)} {n : Nat} {env : Env} : whlN c b (n + 1) env = M.bind (c env) fun t => if t then M.bind (b env) fun r => match r.1 with
      | .nx => whlN c b n r.2
      | .ct => whlN c b n r.2
      | .bk => M.pure (.nx, r.2)
      | .rt d => M.pure (.rt d, r.2)
    else M.pure (.nx, env) := rfl
theorem whlN_mono {c : Env → M Bool} {b : Env → M (Fl × Env)} : ∀ {n m : Nat} {env : Env} {o : Objs} {r : Out (Fl × Env)}, whlN c b n env o = some r → n ≤ m → whlN c b m env o = some r
  | 0, _, _, _, _, h, _ => by cases h
  | n + 1, 0, _, _, _, _, hm => absurd hm (Nat.not_succ_le_zero _)
  | n + 1, m + 1, env, o, r, h, hm => by
    rw [whlN_succ] at h ⊢
    unfold M.bind at h ⊢
    cases e : c env o with
    | none => rw [e] at h; cases h
    | some r1 =>
      rw [e] at h
      cases r1 with
      | ex k o1 => exact h
      | ok t o1 =>
        simp only at h ⊢
        cases t with
        | false => exact h
        | true =>
          simp only [if_true] at h ⊢
          cases e2 : b env o1 with
          | none => rw [e2] at h; cases h
          | some r2 =>
            rw [e2] at h
            cases r2 with
            | ex k o2 => exact h
            | ok r2 o2 =>
              obtain ⟨fl, env2⟩ := r2
              simp only at h ⊢
              cases fl with
              | nx => exact whlN_mono h (by omega)
              | ct => exact whlN_mono h (by omega)
              | bk => exact h
              | rt d => exact h
theorem whl_of {c : Env → M Bool} {b : Env → M (Fl × Env)} {n : Nat} {env : Env} {o : Objs} {r : Out (Fl × Env)} (h : whlN c b n env o = some r) : whl c b env o = some r := by
  have hx : ∃ n, (whlN c b n env o).isSome = true := ⟨n, by rw [h]; rfl⟩
  unfold whl
  rw [dif_pos hx]
  have h2 := Classical.choose_spec hx
  obtain ⟨r2, h3⟩ := Option.isSome_iff_exists.mp h2
  rw [h3]
  rcases Nat.le_total n (Classical.choose hx) with q | q
  · rw [← whlN_mono h q, ← h3]
  · rw [← whlN_mono h3 q, h]
theorem whl_pure {c : Env → M Bool} {b : Env → M (Fl × Env)} {env env' : Env} (h : ∃ n, whlN c b n env = M.pure (.nx, env')) : whl c b env = M.pure (.nx, env') := by
  obtain ⟨n, h⟩ := h
  funext o
  exact whl_of (n := n) (by rw [h]; rfl)
theorem whl_end {c : Env → M Bool} {b : Env → M (Fl × Env)} {env : Env} (h : c env = M.pure false) : whl c b env = M.pure (.nx, env) :=
  whl_pure ⟨1, by rw [whlN_succ, h]; rfl⟩
theorem whl_step {c : Env → M Bool} {b : Env → M (Fl × Env)} {env env1 env2 : Env} (h : c env = M.pure true) (h2 : b env = M.pure (.nx, env1)) (h3 : ∃ n, whlN c b n env1 = M.pure (.nx, env2)) : ∃ n, whlN c b n env = M.pure (.nx, env2) := by
  obtain ⟨n, h3⟩ := h3
  refine ⟨n + 1, ?_⟩
  rw [whlN_succ, h]
  simp only [bpure, if_true, h2]
  exact h3
theorem whlN_end {c : Env → M Bool} {b : Env → M (Fl × Env)} {env : Env} (h : c env = M.pure false) : ∃ n, whlN c b n env = M.pure (.nx, env) := ⟨1, by rw [whlN_succ, h]; rfl⟩

@[simp] theorem big_eq : big = 16777216 := rfl
/-! ### expressions, one by one -/
section
variable {F : Nat → List D → M D} {env : Env}
@[simp] theorem x_var {i : Nat} : ev F (.var i) env = getV env i := rfl
@[simp] theorem x_bor {i : Nat} : ev F (.bor i) env = getB env i := rfl
@[simp] theorem x_con {d : D} : ev F (.con d) env = M.pure d := rfl
@[simp] theorem x_bin {o : Bin} {a b : E} : ev F (.bin o a b) env = M.bind (ev F a env) fun x => M.bind (ev F b env) fun y => M.lift (binD o x y) := rfl
@[simp] theorem x_cmp {o : Cmp} {a b : E} : ev F (.cmp o a b) env = M.bind (ev F a env) fun x => M.bind (ev F b env) fun y => M.bind (M.lift (cmpD o x y)) fun r => M.pure (.bool r) := rfl
@[simp] theorem x_cmp2 {o p : Cmp} {a b c : E} : ev F (.cmp2 o p a b c) env = M.bind (ev F a env) fun x => M.bind (ev F b env) fun y => M.bind (M.lift (cmpD o x y)) fun r =>
      if r then M.bind (ev F c env) fun z => M.bind (M.lift (cmpD p y z)) fun r => M.pure (.bool r) else M.pure (.bool false) := rfl
@[simp] theorem x_and {a b : E} : ev F (.and_ a b) env = M.bind (ev F a env) fun x => M.bind (M.lift (truD x)) fun t => if t then ev F b env else M.pure x := rfl
@[simp] theorem x_or {a b : E} : ev F (.or_ a b) env = M.bind (ev F a env) fun x => M.bind (M.lift (truD x)) fun t => if t then M.pure x else ev F b env := rfl
@[simp] theorem x_not {a : E} : ev F (.not_ a) env = M.bind (ev F a env) fun x => M.bind (M.lift (truD x)) fun t => M.pure (.bool (!t)) := rfl
@[simp] theorem x_neg {a : E} : ev F (.neg a) env = M.bind (ev F a env) fun x => M.bind (M.lift (intOf x)) fun i => M.pure (.int (-i)) := rfl
@[simp] theorem x_ite {c a b : E} : ev F (.ite c a b) env = M.bind (ev F c env) fun x => M.bind (M.lift (truD x)) fun t => if t then ev F a env else ev F b env := rfl
@[simp] theorem x_tup {es : Es} : ev F (.tup es) env = M.bind (evs F es env) fun ds => if ds.length ≤ big then M.pure (.tuple ds) else M.stuck := rfl
@[simp] theorem x_lst {es : Es} : ev F (.lst es) env = M.bind (evs F es env) fun ds => if ds.length ≤ big then M.pure (.list ds) else M.stuck := rfl
@[simp] theorem x_idx {a b : E} : ev F (.idx a b) env = M.bind (ev F a env) fun x => M.bind (ev F b env) fun y => M.lift (idxD x y) := rfl
@[simp] theorem x_slice {a : E} {lo hi : Oe} : ev F (.slice a lo hi) env = M.bind (ev F a env) fun x => M.bind (evo F lo env) fun l => M.bind (evo F hi env) fun h => M.lift (sliceD x l h) := rfl
@[simp] theorem x_call {f : Nat} {es : Es} : ev F (.call f es) env = M.bind (evs F es env) fun ds => F f ds := rfl
@[simp] theorem x_blt {b : Blt} {es : Es} : ev F (.blt b es) env = M.bind (evs F es env) fun ds => M.lift (bltD b ds) := rfl
@[simp] theorem x_isi {t : Ty} {a : E} : ev F (.isi t a) env = M.bind (ev F a env) fun x => M.bind (M.lift (isiD t x)) fun r => M.pure (.bool r) := rfl
@[simp] theorem x_getF {k f : Nat} {a : E} : ev F (.getF k f a) env = M.bind (ev F a env) fun x => getO k f x := rfl
@[simp] theorem x_popF {k f : Nat} {a : E} : ev F (.popF k f a) env = M.bind (ev F a env) fun x => popO k f x := rfl
@[simp] theorem x_neF {k f : Nat} {a : E} : ev F (.neF k f a) env = M.bind (ev F a env) fun x => neO k f x := rfl
@[simp] theorem x_dget {i : Nat} {k d : E} : ev F (.dget i k d) env = M.bind (Tn.getD env i) fun kvs => M.bind (ev F k env) fun x => M.bind (ev F d env) fun y => M.bind (M.lift (tupOf x)) fun k => M.pure ((lookD kvs k).getD y) := rfl
@[simp] theorem x_dix {i : Nat} {k : E} : ev F (.dix i k) env = M.bind (Tn.getD env i) fun kvs => M.bind (ev F k env) fun x => M.bind (M.lift (tupOf x)) fun k => M.lift (lookD kvs k) := rfl
@[simp] theorem x_dsorted {i : Nat} : ev F (.dsorted i) env = M.bind (Tn.getD env i) fun kvs => if kvs.all (fun kv => !kv.1.isEmpty) && decide (kvs.length ≤ big) then M.pure (.list (((kvs.map (·.1)).mergeSort lexLe).map tup)) else M.stuck := rfl
@[simp] theorem xs_nil : evs F .nil env = M.pure [] := rfl
@[simp] theorem xs_cons {e : E} {es : Es} : evs F (.cons e es) env = M.bind (ev F e env) fun x => M.bind (evs F es env) fun xs => M.pure (x :: xs) := rfl
@[simp] theorem xo_none : evo F .none env = M.pure none := rfl
@[simp] theorem xo_some {e : E} : evo F (.some e) env = M.bind (ev F e env) fun x => M.bind (M.lift (intOf x)) fun i => M.pure (some i) := rfl
@[simp] theorem xi_seq {e : E} : iters F (.seq e) env = M.bind (ev F e env) fun x => M.lift (itemsS x) := rfl
@[simp] theorem xi_rng1 {a : E} : iters F (.rng1 a) env = M.bind (ev F a env) fun x => M.bind (M.lift (intOf x)) fun j => if -(big : Int) ≤ j ∧ j ≤ big then M.pure (rngL 0 j.toNat) else M.stuck := rfl
@[simp] theorem xi_zip2 {a b : E} : iters F (.zip2 a b) env = M.bind (ev F a env) fun x => M.bind (ev F b env) fun y => M.lift (zipD x y) := rfl
@[simp] theorem xi_enum {a : E} : iters F (.enum a) env = M.bind (ev F a env) fun x => M.lift (enumD x) := rfl
/-- a comprehension of pure items -/
theorem x_comp {own : List Nat} {p : E} {tg : Tg} {it : It} {α : Type} (xs : List α) (enc : α → D) (g : α → D) (hi : iters F it env = M.pure (xs.map enc)) (hc : clearE env own = true)
    (h : ∀ x ∈ xs, ∃ e, asg tg (enc x) (wipeE env own) = some e ∧ ev F p e = M.pure (g x)) (hl : xs.length ≤ big) : ev F (.comp own p tg it .none) env = M.pure (.list (xs.map g)) := by
  show M.bind (iters F it env) (fun ds => M.bind (guardB (clearE env own)) fun _ => M.bind (M.noex (collect (fun d => M.bind (M.lift (asg tg d (wipeE env own))) fun e =>
      M.bind (evc F .none e) fun t => if t then M.bind (ev F p e) fun y => M.pure (some y) else M.pure none) ds)) fun ys => if ys.length ≤ big then M.pure (PyData.list ys) else M.stuck) = _
  rw [hi, bpure, hc, gtrue, bpure, collect_map (g := g) fun x hx => ?_, nopure, bpure, if_pos (by rw [List.length_map]; exact hl)]
  obtain ⟨e, h1, h2⟩ := h x hx
  rw [h1, lsome, bpure]
  show M.bind (M.pure true) _ = _
  rw [bpure, if_pos rfl, h2, bpure]
/-- .. of some items -/
theorem x_compF {own : List Nat} {p c : E} {tg : Tg} {it : It} {α : Type} (xs : List α) (enc : α → D) (q : α → Bool) (g : α → D) (hi : iters F it env = M.pure (xs.map enc)) (hc : clearE env own = true)
    (h : ∀ x ∈ xs, ∃ e d, asg tg (enc x) (wipeE env own) = some e ∧ ev F c e = M.pure d ∧ truD d = some (q x) ∧ (q x = true → ev F p e = M.pure (g x))) (hl : xs.length ≤ big) : ev F (.comp own p tg it (.some c)) env = M.pure (.list ((xs.filter q).map g)) := by
  show M.bind (iters F it env) (fun ds => M.bind (guardB (clearE env own)) fun _ => M.bind (M.noex (collect (fun d => M.bind (M.lift (asg tg d (wipeE env own))) fun e =>
      M.bind (evc F (.some c) e) fun t => if t then M.bind (ev F p e) fun y => M.pure (some y) else M.pure none) ds)) fun ys => if ys.length ≤ big then M.pure (PyData.list ys) else M.stuck) = _
  rw [hi, bpure, hc, gtrue, bpure, collect_filter (q := q) (g := g) fun x hx => ?_, nopure, bpure, if_pos (by rw [List.length_map]; exact Nat.le_trans (List.length_filter_le _ _) hl)]
  obtain ⟨e, d, h1, h2, h3, h4⟩ := h x hx
  rw [h1, lsome, bpure]
  show M.bind (M.bind (ev F c e) fun x => M.lift (truD x)) _ = _
  rw [h2, bpure, h3, lsome, bpure]
  by_cases z : q x = true
  · rw [if_pos z, if_pos z, h4 z, bpure]
  · rw [if_neg z, if_neg z]
/-- a double comprehension -/
theorem x_comp2 {own own1 : List Nat} {p : E} {tg tg1 : Tg} {it it1 : It} {α β : Type} (xs : List α) (enc : α → D) (ys : α → List β) (enc1 : β → D) (g : α → β → D) (hi : iters F it env = M.pure (xs.map enc)) (hc : clearE env own = true)
    (h : ∀ x ∈ xs, ∃ e, asg tg (enc x) (wipeE env own) = some e ∧ iters F it1 e = M.pure ((ys x).map enc1) ∧ clearE e own1 = true ∧ ∀ y ∈ ys x, ∃ e1, asg tg1 (enc1 y) (wipeE e own1) = some e1 ∧ ev F p e1 = M.pure (g x y))
    (hl : (xs.flatMap fun x => (ys x).map (g x)).length ≤ big) : ev F (.comp2 own own1 p tg it tg1 it1) env = M.pure (.list (xs.flatMap fun x => (ys x).map (g x))) := by
  show M.bind (iters F it env) (fun ds => M.bind (guardB (clearE env own)) fun _ => M.bind (M.noex (collect2 (fun d => M.bind (M.lift (asg tg d (wipeE env own))) fun e =>
      M.bind (iters F it1 e) fun ds1 => M.bind (guardB (clearE e own1)) fun _ => collect (fun d1 => M.bind (M.lift (asg tg1 d1 (wipeE e own1))) fun e1 => M.bind (ev F p e1) fun y => M.pure (some y)) ds1) ds)) fun ys =>
      if ys.length ≤ big then M.pure (PyData.list ys) else M.stuck) = _
  rw [hi, bpure, hc, gtrue, bpure, collect2_map (g := fun x => (ys x).map (g x)) fun x hx => ?_, nopure, bpure, if_pos hl]
  obtain ⟨e, h1, h2, h3, h4⟩ := h x hx
  rw [h1, lsome, bpure, h2, bpure, h3, gtrue, bpure]
  refine collect_map fun y hy => ?_
  obtain ⟨e1, h5, h6⟩ := h4 y hy
  rw [h5, lsome, bpure, h6, bpure]
end
/-! ### statements, one by one -/
section
variable {F : Nat → List D → M D} {env env' : Env} {s : S} {ss : Ss}
theorem exs_nil : execs F .nil env = M.pure (.nx, env) := rfl
theorem exs_nx (h : exec F s env = M.pure (.nx, env')) : execs F (.cons s ss) env = execs F ss env' := by
  show M.bind (exec F s env) _ = _
  rw [h]
  rfl
theorem exs_rt {d : D} (h : exec F s env = M.pure (.rt d, env')) : execs F (.cons s ss) env = M.pure (.rt d, env') := by
  show M.bind (exec F s env) _ = _
  rw [h]
  rfl
theorem run_rt {fn : Fn} {ds : List D} {d : D} (hn : ds.length = fn.np) (h : execs F fn.body (startE fn ds) = M.pure (.rt d, env')) : runF F fn ds = M.pure d := by
  unfold runF
  rw [if_pos hn, h]
  rfl
theorem run_nx {fn : Fn} {ds : List D} (hn : ds.length = fn.np) (h : execs F fn.body (startE fn ds) = M.pure (.nx, env')) : runF F fn ds = M.pure .none := by
  unfold runF
  rw [if_pos hn, h]
  rfl
theorem ex_set {t : Tg} {p : E} {d : D} (h : ev F p env = M.pure d) (h2 : asg t d env = some env') : exec F (.set t p) env = M.pure (.nx, env') := by
  show M.bind (ev F p env) _ = _
  rw [h, bpure, h2]
  rfl
theorem ex_own {i : Nat} {p : E} {xs : List D} (h : ev F p env = M.pure (.list xs)) (hi : i < env.length) : exec F (.own i p) env = M.pure (.nx, env.set i (some (.own xs))) := by
  show M.bind (ev F p env) _ = _
  rw [h, bpure]
  show M.bind (setC env i (.own xs)) _ = _
  unfold setC
  rw [if_pos hi]
  rfl
theorem ex_ret {p : E} {d : D} (h : ev F p (frz env) = M.pure d) : exec F (.ret p) env = M.pure (.rt d, env) := by
  show M.bind (ev F p (frz env)) _ = _
  rw [h]
  rfl
theorem ex_if {c : E} {a b : Ss} {d : D} {t : Bool} (h : ev F c env = M.pure d) (ht : truD d = some t) : exec F (.ite c a b) env = if t then execs F a env else execs F b env := by
  show M.bind (ev F c env) _ = _
  rw [h, bpure, ht]
  rfl
theorem ex_whl {c : E} {b : Ss} (h : ∃ n, whlN (fun env => M.bind (ev F c env) fun x => M.lift (truD x)) (fun env => execs F b env) n env = M.pure (.nx, env')) : exec F (.whl c b) env = M.pure (.nx, env') := whl_pure h
theorem ex_for {tg : Tg} {it : It} {b : Ss} {xs : List D} (hi : iters F it env = M.pure xs) (h : forL (fun d env => M.bind (M.lift (asg tg d env)) fun e => execs F b e) xs env = M.pure (.nx, env')) : exec F (.for_ tg it b) env = M.pure (.nx, env') := by
  show M.bind (iters F it env) _ = _
  rw [hi]
  exact h
theorem ex_expr {p : E} {d : D} (h : ev F p env = M.pure d) : exec F (.expr p) env = M.pure (.nx, env) := by
  show M.bind (ev F p env) _ = _
  rw [h]
  rfl
theorem ex_append {i : Nat} {p : E} {xs : List D} {d : D} (ho : ownAt env i = some xs) (h : ev F p env = M.pure d) (hl : xs.length < big) : exec F (.append i p) env = M.pure (.nx, env.set i (some (.own (xs ++ [d])))) := by
  show M.bind (M.lift (ownAt env i)) _ = _
  rw [ho, lsome, bpure, h, bpure, if_pos hl]
theorem ex_extend {i : Nat} {p : E} {xs ds : List D} (ho : ownAt env i = some xs) (h : ev F p env = M.pure (.list ds)) (hl : xs.length + ds.length ≤ big) : exec F (.extend i p) env = M.pure (.nx, env.set i (some (.own (xs ++ ds)))) := by
  show M.bind (M.lift (ownAt env i)) _ = _
  rw [ho, lsome, bpure, h, bpure]
  show M.bind (M.pure ds) _ = _
  rw [bpure, if_pos hl]
end
@[simp] theorem eqD_int {a b : Int} : eqD (.int a) (.int b) = some (decide (a = b)) := by simp [eqD, sh, shN, eqv]
@[simp] theorem cmp_eq {d e : D} : cmpD .eq d e = eqD d e := rfl
@[simp] theorem cmp_ne {d e : D} : cmpD .ne d e = (eqD d e).map not := rfl
@[simp] theorem cmp_lt {d e : Int} : cmpD .lt (.int d) (.int e) = some (decide (d < e)) := rfl
@[simp] theorem cmp_le {d e : Int} : cmpD .le (.int d) (.int e) = some (decide (d ≤ e)) := rfl
@[simp] theorem cmp_gt {d e : Int} : cmpD .gt (.int d) (.int e) = some (decide (e < d)) := rfl
@[simp] theorem cmp_ge {d e : Int} : cmpD .ge (.int d) (.int e) = some (decide (e ≤ d)) := rfl
@[simp] theorem tru_b {b : Bool} : truD (.bool b) = some b := rfl
@[simp] theorem len_l {xs : List D} : lenD (.list xs) = some (.int (xs.length : Nat)) := rfl
@[simp] theorem len_t {xs : List D} : lenD (.tuple xs) = some (.int (xs.length : Nat)) := rfl
@[simp] theorem its_l {xs : List D} : itemsS (.list xs) = some xs := rfl
@[simp] theorem its_t {xs : List D} : itemsS (.tuple xs) = some xs := rfl
@[simp] theorem ito_l {xs : List D} : itemsOf (.list xs) = some xs := rfl
@[simp] theorem ito_t {xs : List D} : itemsOf (.tuple xs) = some xs := rfl
end Tn
set_option linter.all false
set_option maxRecDepth 100000
set_option maxHeartbeats 1000000
namespace Tn
open PySem
/-- the functions up to n -/
noncomputable def tab (fs : List Fn) : Nat → Nat → List D → M D
  | 0 => fun _ _ => M.stuck
  | n + 1 => fun i ds => if i = n then (match fs[n]? with
    | some fn => runF (tab fs n) fn ds
    | none => M.stuck) else tab fs n i ds
theorem tab_lt {fs : List Fn} {i : Nat} : ∀ {n : Nat}, i < n → tab fs n i = tab fs (i + 1) i
  | 0, h => absurd h (Nat.not_lt_zero _)
  | n + 1, h => by
    by_cases e : i = n
    · subst e; rfl
    · have h2 : i < n := by omega
      rw [← tab_lt h2]
      funext ds
      show (if i = n then _ else tab fs n i ds) = _
      rw [if_neg e]
theorem tab_at {fs : List Fn} {i : Nat} {fn : Fn} (h : fs[i]? = some fn) : tab fs (i + 1) i = runF (tab fs i) fn := by
  funext ds
  show (if i = i then _ else _) = _
  rw [if_pos rfl, h]
def fin (r : Fl × Env) : M D := match r.1 with
  | .rt d => M.pure d
  | .nx => M.pure .none
  | _ => M.stuck
theorem runF_eq {F : Nat → List D → M D} {fn : Fn} {ds : List D} (h : ds.length = fn.np) : runF F fn ds = M.bind (execs F fn.body (startE fn ds)) fin := by
  unfold runF
  rw [if_pos h]
  rfl
end Tn
set_option Elab.async false
set_option linter.all false
set_option maxRecDepth 100000
set_option maxHeartbeats 4000000
namespace Tn
open PySem PySem.Spec PyProof.Rows L2
/-- what is known of a def -/
structure DefI where
  name : Str
  N : List Str
  ps : List Str
  body : List Stmt
  scope : Scope
/-- its static sight: it calls what is below k -/
def statOf (kinds : List (List Str)) (fns : List (Str × Nat)) (cints : List (Str × Int)) (bl : List Str) (d : DefI) (k : Nat) : Stat :=
  ⟨d.N, kinds, fns.filter fun p => decide (p.2 < k), cints, bl⟩
def ckDef (kinds : List (List Str)) (fns : List (Str × Nat)) (cints : List (Str × Int)) (bl : List Str) (d : DefI) (fn : Fn) (k : Nat) : Bool :=
  C8.scC d.N d.ps d.scope && decide (fn.np = d.ps.length) && decide (fn.nv = d.N.length) && ckSs (statOf kinds fns cints bl d k) d.scope fn.body d.body
theorem lookup_filter {k : Nat} : ∀ {l : List (Str × Nat)} {x : Str} {i : Nat}, (l.filter fun p => decide (p.2 < k)).lookup x = some i → ∃ y, (y, i) ∈ l ∧ (x == y) = true ∧ i < k
  | [], _, _, h => by simp at h
  | (n, j) :: l, x, i, h => by
    by_cases hj : j < k
    · rw [List.filter_cons_of_pos (by simpa using hj)] at h
      by_cases hx : (x == n) = true
      · simp only [List.lookup_cons, hx] at h
        cases h
        exact ⟨n, List.mem_cons_self, hx, hj⟩
      · simp only [List.lookup_cons, Bool.eq_false_iff.mpr hx] at h
        obtain ⟨y, h1, h2⟩ := lookup_filter h
        exact ⟨y, List.mem_cons_of_mem _ h1, h2⟩
    · rw [List.filter_cons_of_neg (by simpa using hj)] at h
      obtain ⟨y, h1, h2⟩ := lookup_filter h
      exact ⟨y, List.mem_cons_of_mem _ h1, h2⟩
section
variable {Pr : Program} {w : World} {K : PySem.W.Frag} {mg : Str → Option Value} {base : Heap} {kinds : List (List Str)} {fs : List Fn} {ex : Nat → Value}
theorem startE_get {fn : Fn} {ds : List PyData} {i : Nat} {c : Cell} (h : (startE fn ds)[i]? = some (some c)) : ∃ d, ds[i]? = some d ∧ c = .v d := by
  unfold startE at h
  by_cases hi : i < ds.length
  · rw [List.getElem?_append_left (by rw [List.length_map]; exact hi), List.getElem?_map] at h
    obtain ⟨d, h1, h2⟩ := Option.map_eq_some_iff.mp h
    cases h2
    exact ⟨d, h1, rfl⟩
  · rw [List.getElem?_append_right (by rw [List.length_map]; omega)] at h
    have := List.mem_of_getElem? h
    have := List.eq_of_mem_replicate this
    cases this
theorem start_len {N : List Str} {vs : List V} (h : vs.length ≤ N.length) : (L2.start N vs).length = N.length := by
  unfold L2.start
  rw [List.length_append, List.length_map, List.length_replicate]
  omega
theorem start_get {N : List Str} {vs : List V} {i : Nat} {v : V} (h : vs[i]? = some v) : (L2.start N vs)[i]? = some (some v) := by
  unfold L2.start
  have hi := (List.getElem?_eq_some_iff.mp h).1
  rw [List.getElem?_append_left (by rw [List.length_map]; exact hi), List.getElem?_map, h]
  rfl
/-- THE RULE: a def keeps its promise -/
theorem def_ok {fns : List (Str × Nat)} {cints : List (Str × Int)} {bl : List Str} {d : DefI} {fn : Fn} {k : Nat} {f : Addr} {fd : FuncData} {qual : Str} {params : Arguments} (FD : FunD K d.name qual params d.body d.scope [] [] f fd) (hfn : fs[k]? = some fn)
    (hck : ckDef kinds fns cints bl d fn k = true)
    (hcall : ∀ x i, (x, i) ∈ fns → i < k → ∃ (f : Addr) (fd : FuncData) (ns : List Str), FnOk Pr w K mg base CX0 (i + 1) f fd ns (spD K kinds ex (tab fs (i + 1) i)) ∧ mg x = some (.ref f) ∧ PySem.W.keepIn K (.ref f) = true ∧ Binds K fd ns [])
    (hbl : ∀ x, x ∈ bl → mg x = none) (hint : ∀ x i, cints.lookup x = some i → ∃ t, mg x = some (.int i t)) : FnOk Pr w K mg base CX0 (k + 1) f fd d.ps (spD K kinds ex (tab fs (k + 1) k)) := by
  unfold ckDef at hck
  obtain ⟨hck, h4⟩ := and2 hck
  obtain ⟨hck, h3⟩ := and2 hck
  obtain ⟨h1, h2⟩ := and2 hck
  have SC := C8.fnScope_by h1
  have hnp := of_decide_eq_true h2
  have hnv := of_decide_eq_true h3
  have hpn : d.ps.length ≤ d.N.length := by
    have := congrArg List.length SC.pre
    rw [List.length_take] at this
    omega
  rw [tab_at hfn]
  have hlen : ∀ vs H Q E, spD K kinds ex (runF (tab fs k) fn) vs H Q E → vs.length = d.ps.length := by
    rintro vs H Q E ⟨O, objs, m, ds, rel, hs, ht, ra, h⟩
    rw [ra.len, ← hnp]
    by_cases e : ds.length = fn.np
    · exact e
    · exfalso
      have : runF (tab fs k) fn ds objs = none := by
        unfold runF
        rw [if_neg e]
        rfl
      rw [this] at h
      exact h
  refine FD.ok SC hlen fun cdv A outer s H vs Q E hr h => ?_
  have hl := hlen _ _ _ _ h
  obtain ⟨O, objs, m, ds, rel, hs, ht, ra, h⟩ := h
  have hdl : ds.length = fn.np := by rw [hnp, ← hl, ra.len]
  let P : Par := ⟨K, O, kinds⟩
  refine ⟨rdSs P (tab fs k) (fun c H' => ∀ dx, E (ex c) dx H') fn.body, ?_, ?_⟩
  · refine PSs.nox ?_
    refine ckSs_ok (S := statOf kinds fns cints bl d k) (sc := d.scope) ?_ fn.body d.body h4
    refine ⟨⟨⟨rfl, rfl, ?_, SC.nd⟩, rfl, rfl, ⟨fun x k h => ⟨k, h, .inl rfl⟩, fun x h => rfl⟩, fun x i hx => ?_, hbl, hint⟩, rfl, SC.kind, PassesOwn.never⟩
    · have := hr.un
      show (A.deeper _).units + 100 < cLine
      omega
    · obtain ⟨y, h1, h2, h3⟩ := lookup_filter hx
      have hy : x = y := eq_of_beq h2
      subst hy
      obtain ⟨f', fd', ns, c1, c2, c3, c4⟩ := hcall x i h1 h3
      rw [← tab_lt h3] at c1
      exact ⟨i + 1, f', fd', ns, ex, c1, hr.mono h3, c2, c3, c4⟩
  · refine ⟨startE fn ds, objs, m, ⟨rel, ?_, fun i c e => ?_⟩, ht, ?_⟩
    · rw [start_len (by omega)]
      unfold startE
      rw [List.length_append, List.length_map, List.length_replicate]
      omega
    · obtain ⟨d', h1, rfl⟩ := startE_get e
      obtain ⟨v, h2, h3⟩ := ra.get h1
      exact ⟨v, start_get h2, h3⟩
    · have hrun : runF (tab fs k) fn ds = M.bind (execs (tab fs k) fn.body (startE fn ds)) (fun r => match r.1 with
          | .rt d => M.pure d
          | .nx => M.pure .none
          | _ => M.stuck) := by
        unfold runF
        rw [if_pos hdl]
        all_goals rfl
      rw [hrun] at h
      cases e : execs (tab fs k) fn.body (startE fn ds) objs with
      | none => rw [M.bind_none e] at h; exact h
      | some r =>
        cases r with
        | ex c o => rw [M.bind_ex e] at h; exact fun H' m' a b c' st dx => h H' m' dx a b c' st
        | ok r o =>
          rw [M.bind_ok e] at h
          obtain ⟨fl, env'⟩ := r
          cases fl with
          | nx => exact fun σ' H' m' R t st => h .non H' (mob m') (relO_mob R.toRelO) (fun _ => rfl) rfl (step_mob st) .non
          | rt d => exact fun v H' m' a b c st r => h v H' m' a b c st r
          | bk => exact h.elim
          | ct => exact h.elim
end
end Tn
set_option Elab.async false
set_option linter.all false
set_option maxRecDepth 100000
set_option maxHeartbeats 4000000
namespace Tn
open PySem PySem.Spec PyProof.Rows L2
/-- a def of the row's top: g, the global name by which it is called -/
structure DefE where
  g : Str
  name : Str
  N : List Str
  ps : List Str
  st : Stmt
def DefE.d (e : DefE) : He.DefD := ⟨(e.g, none), e.name, e.name, defArgs e.st, defBody e.st, defScope e.st, [], []⟩
def DefE.i (e : DefE) : DefI := ⟨e.name, e.N, e.ps, defBody e.st, defScope e.st⟩
def BindOk (e : DefE) : Prop := ∀ (kV doc pm : Value) (an : Option Addr) (cdv ct : Value) (us : List Value), us.length = e.ps.length → bindArgs (PySem.W.fnOf e.name e.name (defArgs e.st) (defBody e.st) (defScope e.st) .none kV doc pm an cdv ct) ⟨us, []⟩ = pure (e.ps.zip us)
def fnsOf (es : List DefE) : List (Str × Nat) := (es.map (·.g)).zipIdx
theorem fnsOf_mem {es : List DefE} {x : Str} {i : Nat} (h : (x, i) ∈ fnsOf es) : ∃ e, es[i]? = some e ∧ e.g = x := by
  unfold fnsOf at h
  have := List.mem_zipIdx_iff_getElem?.mp h
  simp only at this
  rw [List.getElem?_map] at this
  exact Option.map_eq_some_iff.mp this
theorem lookup_mem {β : Type} : ∀ {l : List (Str × β)} {x : Str} {i : β}, l.lookup x = some i → (x, i) ∈ l
  | [], _, _, h => by simp at h
  | (n, j) :: l, x, i, h => by
    by_cases hx : (x == n) = true
    · simp only [List.lookup_cons, hx] at h
      cases h
      have : x = n := eq_of_beq hx
      subst this
      exact List.mem_cons_self
    · simp only [List.lookup_cons, Bool.eq_false_iff.mpr hx] at h
      exact List.mem_cons_of_mem _ (lookup_mem h)
def ckRow (kinds : List (List Str)) (fns : List (Str × Nat)) (cints : List (Str × Int)) (bl : List Str) : Nat → List DefE → List Fn → Bool
  | _, [], [] => true
  | k, e :: es, fn :: fs => ckDef kinds fns cints bl e.i fn k && ckRow kinds fns cints bl (k + 1) es fs
  | _, _, _ => false
theorem ckRow_at {kinds : List (List Str)} {fns : List (Str × Nat)} {cints : List (Str × Int)} {bl : List Str} : ∀ {k : Nat} {es : List DefE} {fs : List Fn}, ckRow kinds fns cints bl k es fs = true → ∀ j e, es[j]? = some e → ∃ fn, fs[j]? = some fn ∧ ckDef kinds fns cints bl e.i fn (k + j) = true
  | _, [], [], _, j, e, he => by simp at he
  | k, e :: es, fn :: fs, h, j, e', he => by
    unfold ckRow at h
    obtain ⟨h1, h2⟩ := and2 h
    cases j with
    | zero =>
      simp at he
      subst he
      exact ⟨fn, rfl, h1⟩
    | succ j =>
      obtain ⟨fn', h3, h4⟩ := ckRow_at h2 j e' (by simpa using he)
      exact ⟨fn', by simpa using h3, by rw [show k + (j + 1) = k + 1 + j by omega]; exact h4⟩
  | _, [], _ :: _, h, _, _, _ => by cases h
  | _, _ :: _, [], h, _, _, _ => by cases h
theorem fact_mem {fa : List He.Fa} {fn : List He.DefD} {K : PySem.W.Frag} (c : He.SaysD fa fn K) {f : He.Fa} (h : f ∈ fa) : f.ok K = true := by
  obtain ⟨i, hi⟩ := List.getElem?_of_mem h
  exact c.fact i hi
theorem row_ok {Pr : Program} {w : World} {K : PySem.W.Frag} {mg : Str → Option Value} {base h : Heap} {es : List DefE} {fs : List Fn} {kinds : List (List Str)} {cints : List (Str × Int)} {bl : List Str} {fa : List He.Fa} {ex : Nat → Value}
    (X : K.In h) (G : h.Ns mainGlobals mg) (c : He.SaysD fa (es.map DefE.d) K) (hglo : ∀ e ∈ es, He.Fa.glo e.g ∈ fa) (hint : ∀ p ∈ cints, He.Fa.int p.1 p.2 ∈ fa) (hbl : ∀ x ∈ bl, He.Fa.free x ∈ fa) (hb : ∀ e ∈ es, BindOk e)
    (hck : ckRow kinds (fnsOf es) cints bl 0 es fs = true) : ∀ k e, es[k]? = some e → ∃ fd, FunD K e.name e.name (defArgs e.st) (defBody e.st) (defScope e.st) [] [] (He.ga K e.g) fd ∧ FnOk Pr w K mg base CX0 (k + 1) (He.ga K e.g) fd e.ps (spD K kinds ex (tab fs (k + 1) k)) ∧ mg e.g = some (.ref (He.ga K e.g)) ∧ PySem.W.keepIn K (.ref (He.ga K e.g)) = true ∧ Binds K fd e.ps [] := by
  intro k
  induction k using Nat.strongRecOn with
  | ind k ih =>
    intro e he
    have hm := List.mem_of_getElem? he
    obtain ⟨fd, FD⟩ := c.def_ k (d := e.d) (by rw [List.getElem?_map, he]; rfl)
    have FD : FunD K e.name e.name (defArgs e.st) (defBody e.st) (defScope e.st) [] [] (He.ga K e.g) fd := FD
    obtain ⟨fn, h1, h2⟩ := ckRow_at hck k e he
    rw [Nat.zero_add] at h2
    refine ⟨fd, FD, def_ok (d := e.i) FD h1 h2 (fun x i hx hi => ?_) (fun x hx => He.free_ok X G (fact_mem c (hbl x hx))) (fun x i hx => He.int_ok X G (fact_mem c (hint _ (lookup_mem hx)))), He.glo_ok X G (fact_mem c (hglo e hm)), FD.kp, FD.bindsN (hb e hm)⟩
    obtain ⟨e', h3, rfl⟩ := fnsOf_mem hx
    obtain ⟨fd', _, g1, g2, g3, g4⟩ := ih i hi e' h3
    exact ⟨_, fd', _, g1, g2, g3, g4⟩
theorem funD_inj {K : PySem.W.Frag} {x qual : Str} {params : Arguments} {body : List Stmt} {scope : Scope} {f : Addr} {fd fd' : FuncData} (F : FunD K x qual params body scope [] [] f fd) (F' : FunD K x qual params body scope [] [] f fd') : fd = fd' := by
  obtain ⟨_, _, _, _, _, _, _, _, _, _, _, l1, _⟩ := F.ex
  obtain ⟨_, _, _, _, _, _, _, _, _, _, _, l2, _⟩ := F'.ex
  rw [l1] at l2
  injection l2 with l2
  injection l2 with _ _ l2
  injection l2
/-- the law's promise, at the head -/
theorem law_sp {K : PySem.W.Frag} {kinds : List (List Str)} {ex : Nat → Value} {f : List PyData → M PyData} {H : Hp} {a : Addr} {ns : List Int} (hO : Only H) (hS : SqL K H a (ns.map V.int)) (h : ∃ o, f [scrD (ns.map .int)] [] = some (.ok (.bool true) o)) :
    spD K kinds ex f [.ref a] H (fun v _ => v = .bl true) (fun _ _ _ => False) := by
  obtain ⟨o, h⟩ := h
  have hs : Scr K H a (ns.map V.int) := by
    rcases hS with (z | z) | z
    · rcases hO a with q | ⟨o, xs, q⟩
      · rw [z] at q; cases q
      · rw [z] at q; cases q
    · exact .inl z
    · exact .inr z
  refine ⟨fun _ => False, [], fun _ => none, [scrD (ns.map .int)], ⟨fun _ _ _ z => (by cases z), fun _ _ z => (by cases z), fun _ _ z => (by cases z), fun _ z => z.elim, fun _ _ z => (by simp at z), fun _ _ => rfl⟩, fun _ => rfl, rfl, .cons (.scr hs (RepAll.of_ints ns)) .nil, ?_⟩
  rw [h]
  intro v H' m' _ _ _ _ r
  exact r.boolI
end Tn
set_option linter.all false
set_option maxRecDepth 100000
set_option maxHeartbeats 1000000
namespace Tn
open PySem
/-! ### runs that change objects -/
def Wp {α : Type} (x : M α) (o : Objs) (Q : α → Objs → Prop) : Prop := ∃ a o', x o = some (.ok a o') ∧ Q a o'
theorem Wp.pure {α : Type} {a : α} {o : Objs} {Q : α → Objs → Prop} (h : Q a o) : Wp (M.pure a) o Q := ⟨a, o, rfl, h⟩
theorem Wp.bind {α β : Type} {x : M α} {f : α → M β} {o : Objs} {Q : β → Objs → Prop} (h : Wp x o fun a o' => Wp (f a) o' Q) : Wp (M.bind x f) o Q := by
  obtain ⟨a, o1, h1, b, o2, h2, h3⟩ := h
  refine ⟨b, o2, ?_, h3⟩
  unfold M.bind
  rw [h1]
  exact h2
theorem Wp.imp {α : Type} {x : M α} {o : Objs} {Q Q' : α → Objs → Prop} (h : Wp x o Q) (k : ∀ a o', Q a o' → Q' a o') : Wp x o Q' := by
  obtain ⟨a, o', h1, h2⟩ := h
  exact ⟨a, o', h1, k _ _ h2⟩
theorem Wp.eq {α : Type} {x y : M α} {o : Objs} {Q : α → Objs → Prop} (e : x = y) (h : Wp y o Q) : Wp x o Q := e ▸ h
theorem Wp.noex {α : Type} {x : M α} {o : Objs} {Q : α → Objs → Prop} (h : Wp x o Q) : Wp (M.noex x) o Q := by
  obtain ⟨a, o', h1, h2⟩ := h
  refine ⟨a, o', ?_, h2⟩
  unfold M.noex
  rw [h1]
theorem Wp.lift {α : Type} {x : Option α} {a : α} {o : Objs} {Q : α → Objs → Prop} (e : x = some a) (h : Q a o) : Wp (M.lift x) o Q := by
  rw [e]
  exact .pure h
/-- gathering, by an invariant on the objects -/
theorem wp_collect {f : D → M (Option D)} {R : D → Prop} {I : Nat → Objs → Prop} : ∀ (xs : List D) (i : Nat) (o : Objs), I i o → (∀ x ∈ xs, ∀ j o, i ≤ j → j < i + xs.length → I j o → Wp (f x) o fun y o' => ∃ d, y = some d ∧ R d ∧ I (j + 1) o') →
    Wp (collect f xs) o fun ys o' => ys.length = xs.length ∧ (∀ d ∈ ys, R d) ∧ I (i + xs.length) o'
  | [], i, o, hi, _ => .pure ⟨rfl, fun d hd => by simp at hd, hi⟩
  | x :: xs, i, o, hi, h => by
    unfold collect
    refine Wp.bind ((h x List.mem_cons_self i o (Nat.le_refl _) (by rw [List.length_cons]; omega) hi).imp ?_)
    rintro y o1 ⟨d, rfl, hr, hi1⟩
    refine Wp.bind ((wp_collect xs (i + 1) o1 hi1 fun x' hx' j o hj hj2 => h x' (List.mem_cons_of_mem _ hx') j o (by omega) (by rw [List.length_cons]; omega)).imp ?_)
    rintro ys o2 ⟨h1, h2, h3⟩
    refine .pure ⟨congrArg Nat.succ h1, fun d' hd' => ?_, by rw [List.length_cons, show i + (xs.length + 1) = i + 1 + xs.length by omega]; exact h3⟩
    rcases List.mem_cons.mp hd' with rfl | hd'
    · exact hr
    · exact h2 d' hd'
/-- a comprehension -/
theorem wp_comp {F : Nat → List D → M D} {env : Env} {own : List Nat} {p : E} {tg : Tg} {it : It} {R : D → Prop} {I : Nat → Objs → Prop} {o : Objs} {Q : D → Objs → Prop} (hc : clearE env own = true)
    (hi : Wp (iters F it env) o fun xs o1 => xs.length ≤ 16777216 ∧ ∃ i, I i o1 ∧ (∀ x ∈ xs, ∀ j o, i ≤ j → j < i + xs.length → I j o → ∃ e, asg tg x (wipeE env own) = some e ∧ Wp (ev F p e) o fun d o' => R d ∧ I (j + 1) o') ∧
      ∀ ys o2, ys.length = xs.length → (∀ d ∈ ys, R d) → I (i + xs.length) o2 → Q (.list ys) o2) : Wp (ev F (.comp own p tg it .none) env) o Q := by
  show Wp (M.bind (iters F it env) (fun ds => M.bind (guardB (clearE env own)) fun _ => M.bind (M.noex (collect (fun d => M.bind (M.lift (asg tg d (wipeE env own))) fun e =>
      M.bind (evc F .none e) fun t => if t then M.bind (ev F p e) fun y => M.pure (some y) else M.pure none) ds)) fun ys => if ys.length ≤ big then M.pure (PyData.list ys) else M.stuck)) o Q
  refine Wp.bind (hi.imp ?_)
  rintro xs o1 ⟨hl, i, hI, hs, hq⟩
  rw [hc, gtrue, bpure]
  refine Wp.bind (Wp.noex ((wp_collect (R := R) (I := I) xs i o1 hI fun x hx j o hj hj2 hIj => ?_).imp ?_))
  · obtain ⟨e, e1, e2⟩ := hs x hx j o hj hj2 hIj
    rw [e1, lsome, bpure]
    show Wp (M.bind (M.pure true) _) o _
    rw [bpure, if_pos rfl]
    refine Wp.bind (e2.imp ?_)
    rintro d o' ⟨h1, h2⟩
    exact .pure ⟨d, rfl, h1, h2⟩
  · rintro ys o2 ⟨h1, h2, h3⟩
    rw [if_pos (by rw [h1]; exact hl)]
    exact .pure (hq ys o2 h1 h2 h3)
/-- a loop, by an invariant -/
theorem wp_forL {f : D → Env → M (Fl × Env)} (I : Nat → Env → Objs → Prop) : ∀ (xs : List D) (n : Nat) (env : Env) (o : Objs), I n env o → (∀ i env o x, xs[i]? = some x → I (n + i) env o → Wp (f x env) o fun r o' => r.1 = .nx ∧ I (n + i + 1) r.2 o') →
    Wp (forL f xs env) o fun r o' => r.1 = .nx ∧ I (n + xs.length) r.2 o'
  | [], n, env, o, h, _ => .pure ⟨rfl, h⟩
  | x :: xs, n, env, o, h, k => by
    unfold forL
    refine Wp.bind ((k 0 env o x rfl h).imp ?_)
    rintro ⟨fl, env1⟩ o1 ⟨h1, h2⟩
    have h1 : fl = .nx := h1
    subst h1
    refine (wp_forL I xs (n + 1) env1 o1 h2 fun i env o y hy hi => ?_).imp ?_
    · have := k (i + 1) env o y (by simpa using hy) (by rw [show n + (i + 1) = n + 1 + i by omega]; exact hi)
      rw [show n + (i + 1) = n + 1 + i by omega] at this
      exact this
    · rintro r o2 ⟨h3, h4⟩
      exact ⟨h3, by rw [List.length_cons, show n + (xs.length + 1) = n + 1 + xs.length by omega]; exact h4⟩
/-! ### statements -/
section
variable {F : Nat → List D → M D} {env : Env} {o : Objs}
theorem wp_cons {s : S} {ss : Ss} {Q : Fl × Env → Objs → Prop} (h : Wp (exec F s env) o fun r o' => r.1 = .nx ∧ Wp (execs F ss r.2) o' Q) : Wp (execs F (.cons s ss) env) o Q := by
  show Wp (M.bind (exec F s env) _) o Q
  refine Wp.bind (h.imp ?_)
  rintro ⟨fl, env1⟩ o1 ⟨h1, h2⟩
  have h1 : fl = .nx := h1
  subst h1
  exact h2
theorem wp_last {s : S} {ss : Ss} {Q : Fl × Env → Objs → Prop} (h : Wp (exec F s env) o fun r o' => (∃ d, r.1 = .rt d) ∧ Q r o') : Wp (execs F (.cons s ss) env) o Q := by
  show Wp (M.bind (exec F s env) _) o Q
  refine Wp.bind (h.imp ?_)
  rintro ⟨fl, env1⟩ o1 ⟨⟨d, h1⟩, h2⟩
  have h1 : fl = .rt d := h1
  subst h1
  exact .pure h2
theorem wp_nil {Q : Fl × Env → Objs → Prop} (h : Q (.nx, env) o) : Wp (execs F .nil env) o Q := .pure h
theorem wp_fin {x : M (Fl × Env)} {Q : D → Objs → Prop} (h : Wp x o fun r o' => ∃ d, r.1 = .rt d ∧ Q d o') : Wp (M.bind x fin) o Q := by
  refine Wp.bind (h.imp ?_)
  rintro ⟨fl, env1⟩ o1 ⟨d, h1, h2⟩
  have h1 : fl = .rt d := h1
  subst h1
  exact .pure h2
theorem wp_ret {p : E} {Q : Fl × Env → Objs → Prop} (h : Wp (ev F p (frz env)) o fun d o' => Q (.rt d, env) o') : Wp (exec F (.ret p) env) o Q := by
  show Wp (M.bind (ev F p (frz env)) _) o Q
  exact Wp.bind (h.imp fun d o' q => .pure q)
theorem wp_set {t : Tg} {p : E} {Q : Fl × Env → Objs → Prop} (h : Wp (ev F p env) o fun d o' => ∃ env', asg t d env = some env' ∧ Q (.nx, env') o') : Wp (exec F (.set t p) env) o Q := by
  show Wp (M.bind (ev F p env) _) o Q
  refine Wp.bind (h.imp ?_)
  rintro d o' ⟨env', e, q⟩
  rw [e, lsome, bpure]
  exact .pure q
theorem wp_if {c : E} {a b : Ss} {Q : Fl × Env → Objs → Prop} (h : Wp (ev F c env) o fun d o' => ∃ t, truD d = some t ∧ Wp (if t then execs F a env else execs F b env) o' Q) : Wp (exec F (.ite c a b) env) o Q := by
  show Wp (M.bind (ev F c env) _) o Q
  refine Wp.bind (h.imp ?_)
  rintro d o' ⟨t, e, q⟩
  rw [e, lsome, bpure]
  exact q
theorem wp_for {tg : Tg} {it : It} {b : Ss} {Q : Fl × Env → Objs → Prop} (h : Wp (iters F it env) o fun xs o' => Wp (forL (fun d env => M.bind (M.lift (asg tg d env)) fun e => execs F b e) xs env) o' Q) : Wp (exec F (.for_ tg it b) env) o Q := Wp.bind h
end
end Tn
set_option linter.all false
set_option maxRecDepth 100000
set_option maxHeartbeats 1000000
namespace Tn
open PySem
/-! ### names that all hold data, as a function -/
def V (n : Nat) (f : Nat → Option D) : Env := (List.range n).map fun i => (f i).map Cell.v
def upd (f : Nat → Option D) (i : Nat) (d : D) : Nat → Option D := fun j => if j = i then some d else f j
def wips (f : Nat → Option D) (vs : List Nat) : Nat → Option D := fun j => if vs.contains j then none else f j
theorem V_at {n i : Nat} {f : Nat → Option D} (h : i < n) : (V n f)[i]? = some ((f i).map .v) := by
  simp [V, h]
theorem V_len {n : Nat} {f : Nat → Option D} : (V n f).length = n := by simp [V]
@[simp] theorem V_getV {n i : Nat} {f : Nat → Option D} (h : i < n) : getV (V n f) i = M.lift (f i) := by
  unfold getV
  rw [V_at h]
  cases f i <;> rfl
@[simp] theorem V_getB {n i : Nat} {f : Nat → Option D} (h : i < n) : getB (V n f) i = M.lift (f i) := by
  unfold getB
  rw [V_at h]
  cases f i <;> rfl
theorem V_set {n i : Nat} {f : Nat → Option D} {d : D} : (V n f).set i (some (.v d)) = V n (upd f i d) := by
  apply List.ext_getElem
  · simp [V]
  · intro k h1 h2
    simp only [V, upd, List.getElem_set, List.getElem_map, List.getElem_range]
    by_cases e : i = k
    · subst e; simp
    · rw [if_neg e, if_neg (fun z => e z.symm)]
@[simp] theorem V_asg {n i : Nat} {f : Nat → Option D} {d : D} (h : i < n) : asg (.nm i) d (V n f) = some (V n (upd f i d)) := by
  unfold asg
  rw [V_len, if_pos h, V_set]
@[simp] theorem V_frz {n : Nat} {f : Nat → Option D} : frz (V n f) = V n f := by
  unfold frz V
  rw [List.map_map]
  apply List.map_congr_left
  intro i _
  simp only [Function.comp]
  cases f i <;> rfl
@[simp] theorem V_clear {n : Nat} {f : Nat → Option D} {own : List Nat} : clearE (V n f) own = true := by
  unfold clearE
  rw [List.all_eq_true]
  intro i _
  by_cases h : i < n
  · rw [V_at h]
    cases f i <;> rfl
  · have : (V n f)[i]? = none := by rw [List.getElem?_eq_none_iff, V_len]; omega
    rw [this]
@[simp] theorem V_wipe {n : Nat} {f : Nat → Option D} : ∀ {own : List Nat}, wipeE (V n f) own = V n (wips f own)
  | [] => by
    unfold wipeE
    congr 1
  | v :: vs => by
    unfold wipeE
    rw [V_wipe]
    apply List.ext_getElem
    · simp [V]
    · intro k h1 h2
      simp only [V, wips, List.getElem_set, List.getElem_map, List.getElem_range, List.contains_cons]
      by_cases e : v = k
      · subst e; simp
      · have : (k == v) = false := by simpa using fun z => e z.symm
        rw [if_neg e, this, Bool.false_or]
@[simp] theorem V_par0 {n : Nat} {f : Nat → Option D} : setAll (V n f) [] [] = some (V n f) := rfl
@[simp] theorem V_par {n i : Nat} {is : List Nat} {d : D} {ds : List D} {f : Nat → Option D} (h : i < n) (h2 : i ∉ is) : setAll (V n f) (i :: is) (d :: ds) = setAll (V n (upd f i d)) is ds := by
  rw [setAll, V_len, if_pos ⟨h, h2⟩, V_set]
theorem asg_tp {ts : Tgs} {ds : List D} {env : Env} : asg (.tp ts) (.tuple ds) env = asgs ts ds env := rfl
theorem asgs_nil {env : Env} : asgs .nil [] env = some env := rfl
theorem asgs_cons {t : Tg} {ts : Tgs} {d : D} {ds : List D} {env : Env} : asgs (.cons t ts) (d :: ds) env = (asg t d env).bind fun e => asgs ts ds e := rfl
@[simp] theorem upd_at {f : Nat → Option D} {i j : Nat} {d : D} : upd f i d j = if j = i then some d else f j := rfl
@[simp] theorem wips_at {f : Nat → Option D} {vs : List Nat} {j : Nat} : wips f vs j = if vs.contains j then none else f j := rfl
theorem V_start {fn : Fn} {n : Nat} {ds : List D} (h : ds.length + (fn.nv - fn.np) = n) : startE fn ds = V n fun i => ds[i]? := by
  subst h
  unfold startE V
  apply List.ext_getElem
  · simp
  · intro k h1 h2
    simp only [List.getElem_map, List.getElem_range]
    by_cases e : k < ds.length
    · rw [List.getElem_append_left (by simpa using e)]; simp [e]
    · rw [List.getElem_append_right (by simpa using Nat.le_of_not_lt e)]
      simp [Nat.le_of_not_lt e]
/-! ### one and the same -/
mutual
theorem eqv_refl : ∀ (n : Nat) (d : D), shN n d = true → eqv d d = true
  | _, .none, _ => rfl
  | _, .bool b, _ => by simp [eqv]
  | _, .int i, _ => by simp [eqv]
  | _, .str x, _ => by simp [eqv]
  | 0, .list _, h => nomatch h
  | 0, .tuple _, h => nomatch h
  | n + 1, .list ds, h => by
    unfold eqv
    exact eqvs_refl n ds (List.all_eq_true.mp h)
  | n + 1, .tuple ds, h => by
    unfold eqv
    exact eqvs_refl n ds (List.all_eq_true.mp h)
  | 0, .dict _, h => nomatch h
  | _ + 1, .dict _, h => nomatch h
theorem eqvs_refl : ∀ (n : Nat) (ds : List D), (∀ d ∈ ds, shN n d = true) → eqvs ds ds = true
  | _, [], _ => rfl
  | n, d :: ds, h => by
    unfold eqvs
    rw [eqv_refl n d (h d List.mem_cons_self), eqvs_refl n ds fun x hx => h x (List.mem_cons_of_mem _ hx)]
    rfl
end
theorem eqD_refl {d : D} (h : sh d = true) : eqD d d = some true := by
  unfold eqD
  rw [h, Bool.true_and, if_pos rfl, eqv_refl 8 d h]
theorem shN_ints (n : Nat) (xs : List Int) : (xs.map (PyData.int : Int → D)).all (shN n) = true := by
  rw [List.all_eq_true]
  intro d hd
  obtain ⟨i, _, rfl⟩ := List.mem_map.mp hd
  cases n <;> rfl
theorem shN_tup {n : Nat} {xs : List Int} : shN (n + 1) (tup xs) = true := by
  unfold tup shN
  exact shN_ints n xs
/-! ### slices -/
theorem slice_to {xs : List D} {k : Nat} : sliceD (.tuple xs) none (some (k : Int)) = some (.tuple (xs.take k)) := by
  have h : ¬ ((k : Int) < 0) := by omega
  simp only [sliceD, cutL, cutAt, if_neg h, Int.toNat_natCast, List.drop_zero, Nat.sub_zero]
  congr 2
  rw [Nat.min_comm]
  rcases Nat.le_total xs.length k with q | q
  · rw [Nat.min_eq_left q, List.take_of_length_le q, List.take_of_length_le (Nat.le_refl _)]
  · rw [Nat.min_eq_right q]
theorem slice_from {xs : List D} {k : Nat} : sliceD (.tuple xs) (some (k : Int)) none = some (.tuple (xs.drop k)) := by
  have h : ¬ ((k : Int) < 0) := by omega
  simp only [sliceD, cutL, cutAt, if_neg h, Int.toNat_natCast]
  congr 2
  rcases Nat.le_total xs.length k with q | q
  · rw [Nat.min_eq_right q, List.drop_eq_nil_of_le q, List.drop_eq_nil_of_le (Nat.le_refl _)]; simp
  · rw [Nat.min_eq_left q, List.take_of_length_le (by rw [List.length_drop]; omega)]
theorem Wp.pure' {α : Type} {x : M α} {a : α} {o : Objs} {Q : α → Objs → Prop} (e : x = M.pure a) (h : Q a o) : Wp x o Q := e ▸ .pure h
/-- a pure statement -/
theorem wp_step {F : Nat → List D → M D} {env env' : Env} {o : Objs} {s : S} {ss : Ss} {Q : Fl × Env → Objs → Prop} (h : exec F s env = M.pure (.nx, env')) (h2 : Wp (execs F ss env') o Q) : Wp (execs F (.cons s ss) env) o Q :=
  wp_cons (.pure' h ⟨rfl, h2⟩)
/-- a test that is not met -/
theorem ex_no {F : Nat → List D → M D} {env : Env} {c : E} {a : Ss} {d : D} (h : ev F c env = M.pure d) (ht : truD d = some false) : exec F (.ite c a .nil) env = M.pure (.nx, env) := by
  rw [ex_if h ht]
  rfl
/-- a loop of pure steps, by an invariant on what names hold -/
theorem forL_V {n : Nat} {f : D → Env → M (Fl × Env)} (I : Nat → (Nat → Option D) → Prop) {xs : List D} {v : Nat → Option D} (h0 : I 0 v) (h : ∀ i v x, xs[i]? = some x → I i v → ∃ v', f x (V n v) = M.pure (.nx, V n v') ∧ I (i + 1) v') :
    ∃ v', forL f xs (V n v) = M.pure (.nx, V n v') ∧ I xs.length v' := by
  obtain ⟨env', h1, v', rfl, h2⟩ := forL_inv (f := f) (fun i env => ∃ v, env = V n v ∧ I i v) (xs := xs) (n := 0) (env := V n v) ⟨v, rfl, h0⟩ (by
    rintro i env x hx ⟨v, rfl, hi⟩
    rw [Nat.zero_add] at *
    obtain ⟨v', h1, h2⟩ := h i v x hx hi
    exact ⟨_, h1, v', rfl, h2⟩)
  rw [Nat.zero_add] at h2
  exact ⟨v', h1, h2⟩
end Tn
set_option Elab.async false
set_option linter.all false
set_option maxRecDepth 100000
set_option maxHeartbeats 0
namespace NS
open Tn
open PySem (PyData Str)
/-- _law_begun -/
def f0 : Fn := ⟨1, 3,
 (.cons (.own 1 (.comp [2] (.bin .sub (.blt .abs (.cons (.var 2) .nil)) (.bin .pow (.con (.int 10)) (.con (.int 18)))) (.nm 2) (.seq (.var 0)) (.some (.cmp .ge (.blt .abs (.cons (.var 2) .nil)) (.bin .pow (.con (.int 10)) (.con (.int 18)))))))
 (.cons (.retObj 0 [(true, .var 1), (false, (.comp [2] (.bin .mod (.blt .int (.cons (.blt .abs (.cons (.var 2) .nil)) .nil)) (.con (.int 2147483629))) (.nm 2) (.seq (.var 0)) .none)), (false, (.con (.int 0))), (false, (.con (.int 0)))])
 .nil))⟩
/-- _law_columns -/
def f1 : Fn := ⟨1, 3,
 (.cons (.ret (.comp [2] (.blt .tuple (.cons (.comp [1] (.idx (.var 1) (.var 2)) (.nm 1) (.seq (.idx (.var 0) (.con (.int 2)))) .none) .nil)) (.nm 2) (.rng1 (.blt .len (.cons (.idx (.idx (.var 0) (.con (.int 2))) (.con (.int 0))) .nil))) .none))
 .nil)⟩
/-- _law_mixed -/
def f2 : Fn := ⟨1, 6,
 (.cons (.par [1, 2] (.cons (.bin .add (.getF 0 3 (.var 0)) (.con (.int 1))) (.cons (.con (.int 0)) .nil)))
 (.cons (.setF 0 3 (.var 0) (.var 1))
 (.cons (.for_ (.nm 3) (.seq (.lst (.cons (.con (.int 2147483647)) (.cons (.con (.int 2147483629)) (.cons (.con (.int 2147483587)) (.cons (.con (.int 2147483579)) .nil)))))) (.cons (.set (.nm 4) (.bin .add (.bin .mul (.con (.int 48271)) (.var 1)) (.bin .fdiv (.var 3) (.con (.int 37)))))
 (.cons (.for_ (.nm 5) (.seq (.getF 0 1 (.var 0))) (.cons (.set (.nm 4) (.bin .mod (.blt .int (.cons (.bin .add (.bin .add (.bin .mul (.var 4) (.con (.int 69621))) (.var 5)) (.var 1)) .nil)) (.var 3)))
 .nil))
 (.cons (.set (.nm 2) (.bin .add (.bin .mul (.var 2) (.con (.int 2147483648))) (.var 4)))
 .nil))))
 (.cons (.ret (.var 2))
 .nil))))⟩
/-- _law_take -/
def f3 : Fn := ⟨2, 3,
 (.cons (.ite (.cmp .eq (.getF 0 2 (.var 0)) (.con (.int 0))) (.cons (.setF 0 2 (.var 0) (.ite (.neF 0 0 (.var 0)) (.popF 0 0 (.var 0)) (.call 2 (.cons (.var 0) .nil))))
 .nil)
 .nil)
 (.cons (.set (.nm 2) (.bin .mod (.blt .int (.cons (.getF 0 2 (.var 0)) .nil)) (.var 1)))
 (.cons (.setF 0 2 (.var 0) (.bin .fdiv (.blt .int (.cons (.getF 0 2 (.var 0)) .nil)) (.var 1)))
 (.cons (.ret (.var 2))
 .nil))))⟩
/-- _law_pick -/
def f4 : Fn := ⟨2, 2,
 (.cons (.ret (.idx (.var 1) (.call 3 (.cons (.var 0) (.cons (.blt .len (.cons (.var 1) .nil)) .nil)))))
 .nil)⟩
/-- _law_row -/
def f5 : Fn := ⟨3, 7,
 (.cons (.parO 3 4 (.bin .mul (.lst (.cons (.con (.int 0)) .nil)) (.var 2)) (.comp [5] (.call 3 (.cons (.var 0) (.cons (.var 2) .nil))) (.nm 5) (.rng1 (.bin .add (.con (.int 1)) (.call 3 (.cons (.var 0) (.cons (.con (.int 4)) .nil))))) .none))
 (.cons (.for_ (.nm 5) (.rng1 (.var 1)) (.cons (.set (.nm 6) (.call 4 (.cons (.var 0) (.cons (.var 4) .nil))))
 (.cons (.seti 3 (.var 6) (.bin .add (.idx (.bor 3) (.var 6)) (.con (.int 1))))
 .nil)))
 (.cons (.ret (.blt .tuple (.cons (.var 3) .nil)))
 .nil)))⟩
/-- _law_garbler -/
def f6 : Fn := ⟨3, 5,
 (.cons (.set (.nm 3) (.bin .add (.con (.int 1)) (.call 3 (.cons (.var 0) (.cons (.con (.int 6)) .nil)))))
 (.cons (.ret (.tup (.cons (.con (.str "garbler")) (.cons (.var 3) (.cons (.blt .tuple (.cons (.comp [4] (.call 5 (.cons (.var 0) (.cons (.var 3) (.cons (.var 2) .nil)))) (.nm 4) (.rng1 (.var 1)) .none) .nil)) .nil)))))
 .nil))⟩
/-- _law_less -/
def f7 : Fn := ⟨2, 2,
 (.cons (.ret (.cmp .lt (.bin .mul (.idx (.var 0) (.con (.int 0))) (.idx (.var 1) (.con (.int 1)))) (.bin .mul (.idx (.var 1) (.con (.int 0))) (.idx (.var 0) (.con (.int 1))))))
 .nil)⟩
/-- _law_stakes -/
def f8 : Fn := ⟨3, 6,
 (.cons (.own 3 (.lst .nil))
 (.cons (.for_ (.nm 4) (.rng1 (.bin .add (.con (.int 1)) (.call 3 (.cons (.var 0) (.cons (.con (.int 4)) .nil))))) (.cons (.append 3 (.blt .tuple (.cons (.comp [5] (.bin .add (.var 2) (.call 3 (.cons (.var 0) (.cons (.con (.int 12)) .nil)))) (.nm 5) (.rng1 (.var 1)) .none) .nil)))
 .nil))
 (.cons (.ret (.tup (.cons (.con (.str "stakes")) (.cons (.blt .tuple (.cons (.var 3) .nil)) .nil))))
 .nil)))⟩
/-- _law_gcd -/
def f9 : Fn := ⟨2, 2,
 (.cons (.whl (.cmp .ne (.var 1) (.con (.int 0))) (.cons (.par [0, 1] (.cons (.var 1) (.cons (.bin .mod (.var 0) (.var 1)) .nil)))
 .nil))
 (.cons (.ret (.blt .abs (.cons (.var 0) .nil)))
 .nil))⟩
/-- _law_ratio -/
def f10 : Fn := ⟨2, 3,
 (.cons (.set (.nm 2) (.call 9 (.cons (.var 0) (.cons (.var 1) .nil))))
 (.cons (.ret (.tup (.cons (.bin .fdiv (.var 0) (.var 2)) (.cons (.bin .fdiv (.var 1) (.var 2)) .nil))))
 .nil))⟩
/-- _law_sum -/
def f11 : Fn := ⟨2, 2,
 (.cons (.ret (.call 10 (.cons (.bin .add (.bin .mul (.idx (.var 0) (.con (.int 0))) (.idx (.var 1) (.con (.int 1)))) (.bin .mul (.idx (.var 1) (.con (.int 0))) (.idx (.var 0) (.con (.int 1))))) (.cons (.bin .mul (.idx (.var 0) (.con (.int 1))) (.idx (.var 1) (.con (.int 1)))) .nil))))
 .nil)⟩
/-- _law_sums -/
def f12 : Fn := ⟨2, 5,
 (.cons (.ret (.comp [4] (.blt .sum (.cons (.comp [2, 3] (.bin .mul (.var 2) (.var 3)) (.tp (.cons (.nm 2) (.cons (.nm 3) .nil))) (.zip2 (.var 4) (.var 0)) .none) .nil)) (.nm 4) (.seq (.idx (.var 1) (.con (.int 1)))) .none))
 .nil)⟩
/-- _law_teller -/
def f13 : Fn := ⟨3, 7,
 (.cons (.set (.tp (.cons (.nm 3) (.cons (.nm 4) .nil))) (.tup (.cons (.bin .add (.con (.int 1)) (.call 3 (.cons (.var 0) (.cons (.con (.int 12)) .nil)))) (.cons (.bin .add (.con (.int 1)) (.call 3 (.cons (.var 0) (.cons (.var 2) .nil)))) .nil))))
 (.cons (.set (.nm 5) (.comp [6] (.call 5 (.cons (.var 0) (.cons (.var 3) (.cons (.var 4) .nil)))) (.nm 6) (.rng1 (.var 1)) .none))
 (.cons (.ite (.cmp .eq (.call 3 (.cons (.var 0) (.cons (.con (.int 6)) .nil))) (.con (.int 0))) (.cons (.set (.nm 5) (.bin .mul (.lst (.cons (.idx (.var 5) (.con (.int 0))) .nil)) (.var 1)))
 .nil)
 .nil)
 (.cons (.ret (.tup (.cons (.con (.str "teller")) (.cons (.var 3) (.cons (.blt .tuple (.cons (.var 5) .nil)) .nil)))))
 .nil))))⟩
/-- _law_worth -/
def f14 : Fn := ⟨2, 3,
 (.cons (.ret (.call 10 (.cons (.blt .sum (.cons (.comp [2] (.blt .max (.cons (.call 12 (.cons (.var 2) (.cons (.var 1) .nil))) .nil)) (.nm 2) (.seq (.call 1 (.cons (.var 0) .nil))) .none) .nil)) (.cons (.idx (.var 0) (.con (.int 1))) .nil))))
 .nil)⟩
/-- are_stakes -/
def f15 : Fn := ⟨1, 4,
 (.cons (.ite (.or_ (.not_ (.isi .tuple (.var 0))) (.or_ (.cmp .ne (.blt .len (.cons (.var 0) .nil)) (.con (.int 2))) (.or_ (.not_ (.isi .str (.idx (.var 0) (.con (.int 0))))) (.cmp .ne (.idx (.var 0) (.con (.int 0))) (.con (.str "stakes")))))) (.cons (.ret (.con (.bool false)))
 .nil)
 .nil)
 (.cons (.set (.nm 1) (.idx (.var 0) (.con (.int 1))))
 (.cons (.ite (.or_ (.not_ (.isi .tuple (.var 1))) (.not_ (.cmp2 .le .le (.con (.int 1)) (.blt .len (.cons (.var 1) .nil)) (.con (.int 12))))) (.cons (.ret (.con (.bool false)))
 .nil)
 .nil)
 (.cons (.ite (.not_ (.blt .all (.cons (.comp [2] (.and_ (.isi .tuple (.var 2)) (.cmp2 .le .le (.con (.int 1)) (.blt .len (.cons (.var 2) .nil)) (.con (.int 6)))) (.nm 2) (.seq (.var 1)) .none) .nil))) (.cons (.ret (.con (.bool false)))
 .nil)
 .nil)
 (.cons (.ite (.not_ (.blt .all (.cons (.comp2 [2, 3] [3] (.and_ (.isi .int (.var 3)) (.not_ (.isi .bool (.var 3)))) (.nm 2) (.seq (.var 1)) (.nm 3) (.seq (.var 2))) .nil))) (.cons (.ret (.con (.bool false)))
 .nil)
 .nil)
 (.cons (.ret (.blt .all (.cons (.comp [2] (.cmp .eq (.blt .len (.cons (.var 2) .nil)) (.blt .len (.cons (.idx (.var 1) (.con (.int 0))) .nil))) (.nm 2) (.seq (.var 1)) .none) .nil)))
 .nil))))))⟩
/-- are_stakes_for -/
def f16 : Fn := ⟨2, 2,
 (.cons (.ret (.and_ (.call 15 (.cons (.var 1) .nil)) (.cmp .eq (.blt .len (.cons (.idx (.idx (.var 1) (.con (.int 1))) (.con (.int 0))) .nil)) (.var 0))))
 .nil)⟩
/-- check_stakes_for -/
def f17 : Fn := ⟨2, 2,
 (.cons (.ite (.not_ (.call 16 (.cons (.var 0) (.cons (.var 1) .nil)))) (.cons .fail
 .nil)
 .nil)
 .nil)⟩
/-- is_number -/
def f18 : Fn := ⟨3, 3,
 (.cons (.ite (.or_ (.isi .bool (.var 0)) (.not_ (.isi .int (.var 0)))) (.cons (.ret (.con (.bool false)))
 .nil)
 .nil)
 (.cons (.ret (.and_ (.cmp .ge (.var 0) (.var 1)) (.or_ (.cmp .isN (.var 2) (.con .none)) (.cmp .le (.var 0) (.var 2)))))
 .nil))⟩
/-- are_rows_tellers -/
def f19 : Fn := ⟨4, 6,
 (.cons (.ite (.or_ (.not_ (.isi .tuple (.var 0))) (.not_ (.cmp2 .le .le (.con (.int 1)) (.blt .len (.cons (.var 0) .nil)) (.var 2)))) (.cons (.ret (.con (.bool false)))
 .nil)
 .nil)
 (.cons (.ite (.not_ (.blt .all (.cons (.comp [4] (.and_ (.isi .tuple (.var 4)) (.cmp2 .le .le (.con (.int 1)) (.blt .len (.cons (.var 4) .nil)) (.var 3))) (.nm 4) (.seq (.var 0)) .none) .nil))) (.cons (.ret (.con (.bool false)))
 .nil)
 .nil)
 (.cons (.ite (.not_ (.blt .all (.cons (.comp2 [4, 5] [5] (.call 18 (.cons (.var 5) (.cons (.con (.int 0)) (.cons (.con .none) .nil)))) (.nm 4) (.seq (.var 0)) (.nm 5) (.seq (.var 4))) .nil))) (.cons (.ret (.con (.bool false)))
 .nil)
 .nil)
 (.cons (.ret (.blt .all (.cons (.comp [4] (.and_ (.cmp .eq (.blt .len (.cons (.var 4) .nil)) (.blt .len (.cons (.idx (.var 0) (.con (.int 0))) .nil))) (.cmp .eq (.blt .sum (.cons (.var 4) .nil)) (.var 1))) (.nm 4) (.seq (.var 0)) .none) .nil)))
 .nil))))⟩
/-- is_teller -/
def f20 : Fn := ⟨1, 1,
 (.cons (.ite (.or_ (.not_ (.isi .tuple (.var 0))) (.or_ (.cmp .ne (.blt .len (.cons (.var 0) .nil)) (.con (.int 3))) (.or_ (.not_ (.isi .str (.idx (.var 0) (.con (.int 0))))) (.cmp .ne (.idx (.var 0) (.con (.int 0))) (.con (.str "teller")))))) (.cons (.ret (.con (.bool false)))
 .nil)
 .nil)
 (.cons (.ret (.and_ (.call 18 (.cons (.idx (.var 0) (.con (.int 1))) (.cons (.con (.int 1)) (.cons (.con (.int 1000000000000000000000000000000)) .nil)))) (.call 19 (.cons (.idx (.var 0) (.con (.int 2))) (.cons (.idx (.var 0) (.con (.int 1))) (.cons (.con (.int 6)) (.cons (.con (.int 12)) .nil)))))))
 .nil))⟩
/-- check_teller -/
def f21 : Fn := ⟨1, 1,
 (.cons (.ite (.not_ (.call 20 (.cons (.var 0) .nil))) (.cons .fail
 .nil)
 .nil)
 .nil)⟩
/-- check_word -/
def f22 : Fn := ⟨2, 2,
 (.cons (.ite (.not_ (.call 18 (.cons (.var 1) (.cons (.con (.int 0)) (.cons (.bin .sub (.blt .len (.cons (.idx (.idx (.var 0) (.con (.int 2))) (.con (.int 0))) .nil)) (.con (.int 1))) .nil))))) (.cons .fail
 .nil)
 .nil)
 .nil)⟩
/-- columns_of -/
def f23 : Fn := ⟨1, 4,
 (.cons (.set (.nm 1) (.idx (.var 0) (.con (.int 2))))
 (.cons (.ret (.comp [3] (.blt .tuple (.cons (.comp [2] (.idx (.var 2) (.var 3)) (.nm 2) (.seq (.var 1)) .none) .nil)) (.nm 3) (.rng1 (.blt .len (.cons (.idx (.var 1) (.con (.int 0))) .nil))) .none))
 .nil))⟩
/-- sums_at -/
def f24 : Fn := ⟨2, 5,
 (.cons (.ret (.comp [4] (.blt .sum (.cons (.comp [2, 3] (.bin .mul (.var 2) (.var 3)) (.tp (.cons (.nm 2) (.cons (.nm 3) .nil))) (.zip2 (.var 4) (.var 1)) .none) .nil)) (.nm 4) (.seq (.idx (.var 0) (.con (.int 1)))) .none))
 .nil)⟩
/-- best_deeds -/
def f25 : Fn := ⟨3, 6,
 (.cons (.expr (.call 21 (.cons (.var 0) .nil)))
 (.cons (.expr (.call 17 (.cons (.blt .len (.cons (.idx (.var 0) (.con (.int 2))) .nil)) (.cons (.var 1) .nil))))
 (.cons (.expr (.call 22 (.cons (.var 0) (.cons (.var 2) .nil))))
 (.cons (.set (.nm 3) (.call 24 (.cons (.var 1) (.cons (.idx (.call 23 (.cons (.var 0) .nil)) (.var 2)) .nil))))
 (.cons (.ret (.blt .tuple (.cons (.comp [4, 5] (.var 4) (.tp (.cons (.nm 4) (.cons (.nm 5) .nil))) (.enum (.var 3)) (.some (.cmp .eq (.var 5) (.blt .max (.cons (.var 3) .nil))))) .nil)))
 .nil)))))⟩
/-- is_whole -/
def f26 : Fn := ⟨2, 2,
 (.cons (.ret (.and_ (.isi .int (.var 0)) (.and_ (.not_ (.isi .bool (.var 0))) (.cmp .ge (.var 0) (.var 1)))))
 .nil)⟩
/-- are_rows_garblers -/
def f27 : Fn := ⟨3, 5,
 (.cons (.ite (.or_ (.not_ (.isi .tuple (.var 0))) (.not_ (.cmp2 .le .le (.con (.int 1)) (.blt .len (.cons (.var 0) .nil)) (.var 2)))) (.cons (.ret (.con (.bool false)))
 .nil)
 .nil)
 (.cons (.for_ (.nm 3) (.seq (.var 0)) (.cons (.ite (.or_ (.not_ (.isi .tuple (.var 3))) (.or_ (.not_ (.cmp2 .le .le (.con (.int 1)) (.blt .len (.cons (.var 3) .nil)) (.con (.int 12)))) (.cmp .ne (.blt .len (.cons (.var 3) .nil)) (.blt .len (.cons (.idx (.var 0) (.con (.int 0))) .nil))))) (.cons (.ret (.con (.bool false)))
 .nil)
 .nil)
 (.cons (.ite (.or_ (.not_ (.blt .all (.cons (.comp [4] (.call 26 (.cons (.var 4) (.cons (.con (.int 0)) .nil))) (.nm 4) (.seq (.var 3)) .none) .nil))) (.cmp .ne (.blt .sum (.cons (.var 3) .nil)) (.var 1))) (.cons (.ret (.con (.bool false)))
 .nil)
 .nil)
 .nil)))
 (.cons (.ret (.con (.bool true)))
 .nil)))⟩
/-- is_garbler -/
def f28 : Fn := ⟨1, 1,
 (.cons (.ite (.or_ (.not_ (.isi .tuple (.var 0))) (.or_ (.cmp .ne (.blt .len (.cons (.var 0) .nil)) (.con (.int 3))) (.or_ (.not_ (.isi .str (.idx (.var 0) (.con (.int 0))))) (.cmp .ne (.idx (.var 0) (.con (.int 0))) (.con (.str "garbler")))))) (.cons (.ret (.con (.bool false)))
 .nil)
 .nil)
 (.cons (.ret (.and_ (.call 26 (.cons (.idx (.var 0) (.con (.int 1))) (.cons (.con (.int 1)) .nil))) (.call 27 (.cons (.idx (.var 0) (.con (.int 2))) (.cons (.idx (.var 0) (.con (.int 1))) (.cons (.con (.int 12)) .nil))))))
 .nil))⟩
/-- check_garbler -/
def f29 : Fn := ⟨2, 2,
 (.cons (.ite (.or_ (.not_ (.call 28 (.cons (.var 1) .nil))) (.cmp .ne (.blt .len (.cons (.idx (.var 1) (.con (.int 2))) .nil)) (.blt .len (.cons (.idx (.idx (.var 0) (.con (.int 2))) (.con (.int 0))) .nil)))) (.cons .fail
 .nil)
 .nil)
 .nil)⟩
/-- common_garblers -/
def f30 : Fn := ⟨1, 4,
 (.cons (.set (.nm 1) (.con (.int 0)))
 (.cons (.for_ (.nm 2) (.seq (.var 0)) (.cons (.set (.nm 3) (.var 2))
 (.cons (.whl (.cmp .ne (.var 3) (.con (.int 0))) (.cons (.par [1, 3] (.cons (.var 3) (.cons (.bin .mod (.var 1) (.var 3)) .nil)))
 .nil))
 .nil)))
 (.cons (.ret (.var 1))
 .nil)))⟩
/-- lowered_rows -/
def f31 : Fn := ⟨2, 5,
 (.cons (.set (.nm 2) (.call 30 (.cons (.bin .add (.lst (.cons (.var 0) .nil)) (.comp2 [3, 4] [4] (.var 4) (.nm 3) (.seq (.var 1)) (.nm 4) (.seq (.var 3)))) .nil)))
 (.cons (.ret (.tup (.cons (.bin .fdiv (.var 0) (.var 2)) (.cons (.blt .tuple (.cons (.comp [3] (.blt .tuple (.cons (.comp [4] (.bin .fdiv (.var 4) (.var 2)) (.nm 4) (.seq (.var 3)) .none) .nil)) (.nm 3) (.seq (.var 1)) .none) .nil)) .nil))))
 .nil))⟩
/-- product -/
def f32 : Fn := ⟨2, 6,
 (.cons (.own 2 (.lst .nil))
 (.cons (.for_ (.nm 3) (.seq (.var 0)) (.cons (.append 2 (.blt .tuple (.cons (.comp [5] (.blt .sum (.cons (.comp [4] (.bin .mul (.idx (.var 3) (.var 4)) (.idx (.idx (.var 1) (.var 4)) (.var 5))) (.nm 4) (.rng1 (.blt .len (.cons (.var 3) .nil))) .none) .nil)) (.nm 5) (.rng1 (.blt .len (.cons (.idx (.var 1) (.con (.int 0))) .nil))) .none) .nil)))
 .nil))
 (.cons (.ret (.blt .tuple (.cons (.var 2) .nil)))
 .nil)))⟩
/-- garbled -/
def f33 : Fn := ⟨2, 4,
 (.cons (.ite (.not_ (.call 20 (.cons (.var 0) .nil))) (.cons .fail
 .nil)
 .nil)
 (.cons (.expr (.call 29 (.cons (.var 0) (.cons (.var 1) .nil))))
 (.cons (.set (.tp (.cons (.nm 2) (.cons (.nm 3) .nil))) (.call 31 (.cons (.bin .mul (.idx (.var 0) (.con (.int 1))) (.idx (.var 1) (.con (.int 1)))) (.cons (.call 32 (.cons (.idx (.var 0) (.con (.int 2))) (.cons (.idx (.var 1) (.con (.int 2))) .nil))) .nil))))
 (.cons (.ite (.cmp .gt (.var 2) (.con (.int 1000000000000000000000000000000))) (.cons .fail
 .nil)
 .nil)
 (.cons (.ret (.tup (.cons (.con (.str "teller")) (.cons (.var 2) (.cons (.var 3) .nil)))))
 .nil)))))⟩
/-- divisor -/
def f34 : Fn := ⟨2, 2,
 (.cons (.whl (.cmp .ne (.var 1) (.con (.int 0))) (.cons (.par [0, 1] (.cons (.var 1) (.cons (.bin .mod (.var 0) (.var 1)) .nil)))
 .nil))
 (.cons (.ret (.blt .abs (.cons (.var 0) .nil)))
 .nil))⟩
/-- common_tellers -/
def f35 : Fn := ⟨1, 3,
 (.cons (.set (.nm 1) (.con (.int 0)))
 (.cons (.for_ (.nm 2) (.seq (.var 0)) (.cons (.set (.nm 1) (.call 34 (.cons (.var 1) (.cons (.var 2) .nil))))
 .nil))
 (.cons (.ret (.var 1))
 .nil)))⟩
/-- direction_of -/
def f36 : Fn := ⟨1, 3,
 (.cons (.set (.nm 1) (.call 35 (.cons (.var 0) .nil)))
 (.cons (.ret (.ite (.cmp .gt (.var 1) (.con (.int 0))) (.blt .tuple (.cons (.comp [2] (.bin .fdiv (.var 2) (.var 1)) (.nm 2) (.seq (.var 0)) .none) .nil)) (.con .none)))
 .nil))⟩
/-- made -/
def f37 : Fn := ⟨2, 5,
 (.cons (.ite (.cmp .gt (.blt .len (.cons (.idx (.var 1) (.con (.int 0))) .nil)) (.con (.int 12))) (.cons .fail
 .nil)
 .nil)
 (.cons (.set (.nm 2) (.call 35 (.cons (.bin .add (.lst (.cons (.var 0) .nil)) (.comp2 [3, 4] [4] (.var 4) (.nm 3) (.seq (.var 1)) (.nm 4) (.seq (.var 3)))) .nil)))
 (.cons (.ite (.cmp .gt (.bin .fdiv (.var 0) (.var 2)) (.con (.int 1000000000000000000000000000000))) (.cons .fail
 .nil)
 .nil)
 (.cons (.ret (.tup (.cons (.con (.str "teller")) (.cons (.bin .fdiv (.var 0) (.var 2)) (.cons (.blt .tuple (.cons (.comp [3] (.blt .tuple (.cons (.comp [4] (.bin .fdiv (.var 4) (.var 2)) (.nm 4) (.seq (.var 3)) .none) .nil)) (.nm 3) (.seq (.var 1)) .none) .nil)) .nil)))))
 .nil))))⟩
/-- plain_of -/
def f38 : Fn := ⟨2, 10,
 (.cons (.dnew 2)
 (.cons (.for_ (.nm 3) (.seq (.var 1)) (.cons (.set (.nm 4) (.call 36 (.cons (.var 3) .nil)))
 (.cons (.ite (.cmp .isntN (.var 4) (.con .none)) (.cons (.set (.nm 5) (.dget 2 (.var 4) (.bin .mul (.tup (.cons (.con (.int 0)) .nil)) (.blt .len (.cons (.var 3) .nil)))))
 (.cons (.dset 2 (.var 4) (.blt .tuple (.cons (.comp [6, 7] (.bin .add (.var 6) (.var 7)) (.tp (.cons (.nm 6) (.cons (.nm 7) .nil))) (.zip2 (.var 5) (.var 3)) .none) .nil)))
 .nil))
 .nil)
 .nil)))
 (.cons (.set (.nm 8) (.comp [4] (.dix 2 (.var 4)) (.nm 4) (.seq (.dsorted 2)) .none))
 (.cons (.ret (.call 37 (.cons (.var 0) (.cons (.blt .tuple (.cons (.comp [9] (.blt .tuple (.cons (.comp [3] (.idx (.var 3) (.var 9)) (.nm 3) (.seq (.var 8)) .none) .nil)) (.nm 9) (.rng1 (.blt .len (.cons (.idx (.var 8) (.con (.int 0))) .nil))) .none) .nil)) .nil))))
 .nil))))⟩
/-- plain_told -/
def f39 : Fn := ⟨1, 1,
 (.cons (.ret (.call 38 (.cons (.idx (.var 0) (.con (.int 1))) (.cons (.call 23 (.cons (.var 0) .nil)) .nil))))
 .nil)⟩
/-- plain -/
def f40 : Fn := ⟨1, 1,
 (.cons (.expr (.call 21 (.cons (.var 0) .nil)))
 (.cons (.ret (.call 39 (.cons (.var 0) .nil)))
 .nil))⟩
/-- check_second -/
def f41 : Fn := ⟨2, 2,
 (.cons (.ite (.not_ (.call 16 (.cons (.blt .len (.cons (.idx (.idx (.var 0) (.con (.int 1))) (.con (.int 0))) .nil)) (.cons (.var 1) .nil)))) (.cons .fail
 .nil)
 .nil)
 .nil)⟩
/-- check_stakes -/
def f42 : Fn := ⟨1, 1,
 (.cons (.ite (.not_ (.call 15 (.cons (.var 0) .nil))) (.cons .fail
 .nil)
 .nil)
 .nil)⟩
/-- made_stakes -/
def f43 : Fn := ⟨1, 1,
 (.cons (.ite (.cmp .gt (.blt .len (.cons (.var 0) .nil)) (.con (.int 12))) (.cons .fail
 .nil)
 .nil)
 (.cons (.ret (.tup (.cons (.con (.str "stakes")) (.cons (.blt .tuple (.cons (.var 0) .nil)) .nil))))
 .nil))⟩
/-- stakes_either -/
def f44 : Fn := ⟨2, 2,
 (.cons (.expr (.call 42 (.cons (.var 0) .nil)))
 (.cons (.expr (.call 41 (.cons (.var 0) (.cons (.var 1) .nil))))
 (.cons (.ret (.call 43 (.cons (.bin .add (.blt .list (.cons (.idx (.var 0) (.con (.int 1))) .nil)) (.blt .list (.cons (.idx (.var 1) (.con (.int 1))) .nil))) .nil)))
 .nil)))⟩
/-- stakes_sum -/
def f45 : Fn := ⟨2, 7,
 (.cons (.expr (.call 42 (.cons (.var 0) .nil)))
 (.cons (.expr (.call 41 (.cons (.var 0) (.cons (.var 1) .nil))))
 (.cons (.own 2 (.lst .nil))
 (.cons (.for_ (.nm 3) (.seq (.idx (.var 0) (.con (.int 1)))) (.cons (.extend 2 (.comp [6] (.blt .tuple (.cons (.comp [4, 5] (.bin .add (.var 4) (.var 5)) (.tp (.cons (.nm 4) (.cons (.nm 5) .nil))) (.zip2 (.var 3) (.var 6)) .none) .nil)) (.nm 6) (.seq (.idx (.var 1) (.con (.int 1)))) .none))
 .nil))
 (.cons (.ret (.call 43 (.cons (.var 2) .nil)))
 .nil)))))⟩
/-- unheard -/
def f46 : Fn := ⟨1, 2,
 (.cons (.expr (.call 42 (.cons (.var 0) .nil)))
 (.cons (.ret (.blt .max (.cons (.comp [1] (.blt .sum (.cons (.var 1) .nil)) (.nm 1) (.seq (.idx (.var 0) (.con (.int 1)))) .none) .nil)))
 .nil))⟩
/-- ratio -/
def f47 : Fn := ⟨2, 3,
 (.cons (.set (.nm 2) (.call 34 (.cons (.var 0) (.cons (.var 1) .nil))))
 (.cons (.ret (.tup (.cons (.bin .fdiv (.var 0) (.var 2)) (.cons (.bin .fdiv (.var 1) (.var 2)) .nil))))
 .nil))⟩
/-- worth_told -/
def f48 : Fn := ⟨2, 3,
 (.cons (.ret (.call 47 (.cons (.blt .sum (.cons (.comp [2] (.blt .max (.cons (.call 24 (.cons (.var 1) (.cons (.var 2) .nil))) .nil)) (.nm 2) (.seq (.call 23 (.cons (.var 0) .nil))) .none) .nil)) (.cons (.idx (.var 0) (.con (.int 1))) .nil))))
 .nil)⟩
/-- worth -/
def f49 : Fn := ⟨2, 2,
 (.cons (.expr (.call 21 (.cons (.var 0) .nil)))
 (.cons (.expr (.call 17 (.cons (.blt .len (.cons (.idx (.var 0) (.con (.int 2))) .nil)) (.cons (.var 1) .nil))))
 (.cons (.ret (.call 48 (.cons (.var 0) (.cons (.var 1) .nil))))
 .nil)))⟩
/-- law -/
def f50 : Fn := ⟨1, 25,
 (.cons (.set (.nm 1) (.call 0 (.cons (.var 0) .nil)))
 (.cons (.for_ (.nm 2) (.rng1 (.bin .add (.con (.int 3)) (.blt .min2 (.cons (.blt .len (.cons (.var 0) .nil)) (.cons (.con (.int 5)) .nil))))) (.cons (.set (.nm 3) (.bin .add (.con (.int 1)) (.call 3 (.cons (.var 1) (.cons (.con (.int 5)) .nil)))))
 (.cons (.par [4, 5, 6] (.cons (.call 13 (.cons (.var 1) (.cons (.var 3) (.cons (.con (.int 5)) .nil)))) (.cons (.call 8 (.cons (.var 1) (.cons (.var 3) (.cons (.neg (.con (.int 6))) .nil)))) (.cons (.call 8 (.cons (.var 1) (.cons (.var 3) (.cons (.neg (.con (.int 6))) .nil)))) .nil))))
 (.cons (.par [5, 6] (.cons (.tup (.cons (.con (.str "stakes")) (.cons (.slice (.idx (.var 5) (.con (.int 1))) .none (.some (.con (.int 3)))) .nil))) (.cons (.tup (.cons (.con (.str "stakes")) (.cons (.slice (.idx (.var 6) (.con (.int 1))) .none (.some (.con (.int 4)))) .nil))) .nil)))
 (.cons (.par [7, 8] (.cons (.call 45 (.cons (.var 5) (.cons (.var 6) .nil))) (.cons (.call 44 (.cons (.var 5) (.cons (.var 6) .nil))) .nil)))
 (.cons (.set (.nm 9) (.lst .nil))
 (.cons (.for_ (.nm 10) (.seq (.idx (.var 5) (.con (.int 1)))) (.cons (.set (.nm 9) (.bin .add (.var 9) (.comp [13] (.blt .tuple (.cons (.comp [11, 12] (.bin .add (.var 11) (.var 12)) (.tp (.cons (.nm 11) (.cons (.nm 12) .nil))) (.zip2 (.var 10) (.var 13)) .none) .nil)) (.nm 13) (.seq (.idx (.var 6) (.con (.int 1)))) .none)))
 .nil))
 (.cons (.ite (.or_ (.cmp .isntB (.call 15 (.cons (.var 5) .nil)) (.con (.bool true))) (.or_ (.cmp .ne (.var 7) (.tup (.cons (.con (.str "stakes")) (.cons (.blt .tuple (.cons (.var 9) .nil)) .nil)))) (.cmp .ne (.var 8) (.tup (.cons (.con (.str "stakes")) (.cons (.bin .add (.idx (.var 5) (.con (.int 1))) (.idx (.var 6) (.con (.int 1)))) .nil)))))) (.cons (.ret (.con (.bool false)))
 .nil)
 .nil)
 (.cons (.for_ (.nm 14) (.seq (.lst (.cons (.var 5) (.cons (.var 6) (.cons (.var 7) (.cons (.var 8) .nil)))))) (.cons (.set (.nm 15) (.call 14 (.cons (.var 4) (.cons (.var 14) .nil))))
 (.cons (.ite (.or_ (.cmp .ne (.call 49 (.cons (.var 4) (.cons (.var 14) .nil))) (.var 15)) (.or_ (.cmp .ne (.call 46 (.cons (.var 14) .nil)) (.blt .max (.cons (.comp [10] (.blt .sum (.cons (.var 10) .nil)) (.nm 10) (.seq (.idx (.var 14) (.con (.int 1)))) .none) .nil))) (.call 7 (.cons (.var 15) (.cons (.tup (.cons (.call 46 (.cons (.var 14) .nil)) (.cons (.con (.int 1)) .nil))) .nil))))) (.cons (.ret (.con (.bool false)))
 .nil)
 .nil)
 (.cons (.for_ (.tp (.cons (.nm 16) (.cons (.nm 17) .nil))) (.enum (.call 1 (.cons (.var 4) .nil))) (.cons (.set (.nm 18) (.call 12 (.cons (.var 17) (.cons (.var 14) .nil))))
 (.cons (.ite (.cmp .ne (.call 25 (.cons (.var 4) (.cons (.var 14) (.cons (.var 16) .nil)))) (.blt .tuple (.cons (.comp [19] (.var 19) (.nm 19) (.rng1 (.blt .len (.cons (.var 18) .nil))) (.some (.cmp .eq (.idx (.var 18) (.var 19)) (.blt .max (.cons (.var 18) .nil))))) .nil))) (.cons (.ret (.con (.bool false)))
 .nil)
 .nil)
 .nil)))
 (.cons (.ite (.cmp .ne (.call 49 (.cons (.call 40 (.cons (.var 4) .nil)) (.cons (.var 14) .nil))) (.var 15)) (.cons (.ret (.con (.bool false)))
 .nil)
 .nil)
 .nil)))))
 (.cons (.ite (.cmp .ne (.call 49 (.cons (.var 4) (.cons (.var 7) .nil))) (.call 11 (.cons (.call 49 (.cons (.var 4) (.cons (.var 5) .nil))) (.cons (.call 49 (.cons (.var 4) (.cons (.var 6) .nil))) .nil)))) (.cons (.ret (.con (.bool false)))
 .nil)
 .nil)
 (.cons (.ite (.or_ (.call 7 (.cons (.call 49 (.cons (.var 4) (.cons (.var 8) .nil))) (.cons (.call 49 (.cons (.var 4) (.cons (.var 5) .nil))) .nil))) (.call 7 (.cons (.call 49 (.cons (.var 4) (.cons (.var 8) .nil))) (.cons (.call 49 (.cons (.var 4) (.cons (.var 6) .nil))) .nil)))) (.cons (.ret (.con (.bool false)))
 .nil)
 .nil)
 (.cons (.set (.nm 20) (.call 33 (.cons (.var 4) (.cons (.call 6 (.cons (.var 1) (.cons (.blt .len (.cons (.idx (.idx (.var 4) (.con (.int 2))) (.con (.int 0))) .nil)) (.cons (.bin .add (.con (.int 1)) (.call 3 (.cons (.var 1) (.cons (.con (.int 4)) .nil)))) .nil)))) .nil))))
 (.cons (.ite (.call 7 (.cons (.call 49 (.cons (.var 4) (.cons (.var 5) .nil))) (.cons (.call 49 (.cons (.var 20) (.cons (.var 5) .nil))) .nil))) (.cons (.ret (.con (.bool false)))
 .nil)
 .nil)
 (.cons (.set (.tp (.cons (.nm 21) (.cons (.nm 22) .nil))) (.tup (.cons (.call 3 (.cons (.var 1) (.cons (.var 3) .nil))) (.cons (.bin .sub (.call 3 (.cons (.var 1) (.cons (.con (.int 9)) .nil))) (.con (.int 4))) .nil))))
 (.cons (.set (.nm 23) (.tup (.cons (.con (.str "stakes")) (.cons (.blt .tuple (.cons (.comp [10] (.bin .add (.bin .add (.slice (.var 10) .none (.some (.var 21))) (.tup (.cons (.bin .add (.idx (.var 10) (.var 21)) (.var 22)) .nil))) (.slice (.var 10) (.some (.bin .add (.var 21) (.con (.int 1)))) .none)) (.nm 10) (.seq (.idx (.var 5) (.con (.int 1)))) .none) .nil)) .nil))))
 (.cons (.ite (.cmp .ne (.call 49 (.cons (.var 4) (.cons (.var 23) .nil))) (.call 11 (.cons (.call 49 (.cons (.var 4) (.cons (.var 5) .nil))) (.cons (.tup (.cons (.var 22) (.cons (.con (.int 1)) .nil))) .nil)))) (.cons (.ret (.con (.bool false)))
 .nil)
 .nil)
 (.cons (.set (.nm 24) (.tup (.cons (.con (.str "stakes")) (.cons (.bin .add (.idx (.var 5) (.con (.int 1))) (.slice (.idx (.var 5) (.con (.int 1))) .none (.some (.con (.int 1))))) .nil))))
 (.cons (.ite (.cmp .ne (.call 49 (.cons (.var 4) (.cons (.var 24) .nil))) (.call 49 (.cons (.var 4) (.cons (.var 5) .nil)))) (.cons (.ret (.con (.bool false)))
 .nil)
 .nil)
 .nil))))))))))))))))))
 (.cons (.ret (.con (.bool true)))
 .nil)))⟩
@[simp] theorem st0 (a0 : D) : startE f0 [a0] = [some (.v a0), none, none] := rfl
@[simp] theorem st1 (a0 : D) : startE f1 [a0] = [some (.v a0), none, none] := rfl
@[simp] theorem st2 (a0 : D) : startE f2 [a0] = [some (.v a0), none, none, none, none, none] := rfl
@[simp] theorem st3 (a0 a1 : D) : startE f3 [a0, a1] = [some (.v a0), some (.v a1), none] := rfl
@[simp] theorem st4 (a0 a1 : D) : startE f4 [a0, a1] = [some (.v a0), some (.v a1)] := rfl
@[simp] theorem st5 (a0 a1 a2 : D) : startE f5 [a0, a1, a2] = [some (.v a0), some (.v a1), some (.v a2), none, none, none, none] := rfl
@[simp] theorem st6 (a0 a1 a2 : D) : startE f6 [a0, a1, a2] = [some (.v a0), some (.v a1), some (.v a2), none, none] := rfl
@[simp] theorem st7 (a0 a1 : D) : startE f7 [a0, a1] = [some (.v a0), some (.v a1)] := rfl
@[simp] theorem st8 (a0 a1 a2 : D) : startE f8 [a0, a1, a2] = [some (.v a0), some (.v a1), some (.v a2), none, none, none] := rfl
@[simp] theorem st9 (a0 a1 : D) : startE f9 [a0, a1] = [some (.v a0), some (.v a1)] := rfl
@[simp] theorem st10 (a0 a1 : D) : startE f10 [a0, a1] = [some (.v a0), some (.v a1), none] := rfl
@[simp] theorem st11 (a0 a1 : D) : startE f11 [a0, a1] = [some (.v a0), some (.v a1)] := rfl
@[simp] theorem st12 (a0 a1 : D) : startE f12 [a0, a1] = [some (.v a0), some (.v a1), none, none, none] := rfl
@[simp] theorem st13 (a0 a1 a2 : D) : startE f13 [a0, a1, a2] = [some (.v a0), some (.v a1), some (.v a2), none, none, none, none] := rfl
@[simp] theorem st14 (a0 a1 : D) : startE f14 [a0, a1] = [some (.v a0), some (.v a1), none] := rfl
@[simp] theorem st15 (a0 : D) : startE f15 [a0] = [some (.v a0), none, none, none] := rfl
@[simp] theorem st16 (a0 a1 : D) : startE f16 [a0, a1] = [some (.v a0), some (.v a1)] := rfl
@[simp] theorem st17 (a0 a1 : D) : startE f17 [a0, a1] = [some (.v a0), some (.v a1)] := rfl
@[simp] theorem st18 (a0 a1 a2 : D) : startE f18 [a0, a1, a2] = [some (.v a0), some (.v a1), some (.v a2)] := rfl
@[simp] theorem st19 (a0 a1 a2 a3 : D) : startE f19 [a0, a1, a2, a3] = [some (.v a0), some (.v a1), some (.v a2), some (.v a3), none, none] := rfl
@[simp] theorem st20 (a0 : D) : startE f20 [a0] = [some (.v a0)] := rfl
@[simp] theorem st21 (a0 : D) : startE f21 [a0] = [some (.v a0)] := rfl
@[simp] theorem st22 (a0 a1 : D) : startE f22 [a0, a1] = [some (.v a0), some (.v a1)] := rfl
@[simp] theorem st23 (a0 : D) : startE f23 [a0] = [some (.v a0), none, none, none] := rfl
@[simp] theorem st24 (a0 a1 : D) : startE f24 [a0, a1] = [some (.v a0), some (.v a1), none, none, none] := rfl
@[simp] theorem st25 (a0 a1 a2 : D) : startE f25 [a0, a1, a2] = [some (.v a0), some (.v a1), some (.v a2), none, none, none] := rfl
@[simp] theorem st26 (a0 a1 : D) : startE f26 [a0, a1] = [some (.v a0), some (.v a1)] := rfl
@[simp] theorem st27 (a0 a1 a2 : D) : startE f27 [a0, a1, a2] = [some (.v a0), some (.v a1), some (.v a2), none, none] := rfl
@[simp] theorem st28 (a0 : D) : startE f28 [a0] = [some (.v a0)] := rfl
@[simp] theorem st29 (a0 a1 : D) : startE f29 [a0, a1] = [some (.v a0), some (.v a1)] := rfl
@[simp] theorem st30 (a0 : D) : startE f30 [a0] = [some (.v a0), none, none, none] := rfl
@[simp] theorem st31 (a0 a1 : D) : startE f31 [a0, a1] = [some (.v a0), some (.v a1), none, none, none] := rfl
@[simp] theorem st32 (a0 a1 : D) : startE f32 [a0, a1] = [some (.v a0), some (.v a1), none, none, none, none] := rfl
@[simp] theorem st33 (a0 a1 : D) : startE f33 [a0, a1] = [some (.v a0), some (.v a1), none, none] := rfl
@[simp] theorem st34 (a0 a1 : D) : startE f34 [a0, a1] = [some (.v a0), some (.v a1)] := rfl
@[simp] theorem st35 (a0 : D) : startE f35 [a0] = [some (.v a0), none, none] := rfl
@[simp] theorem st36 (a0 : D) : startE f36 [a0] = [some (.v a0), none, none] := rfl
@[simp] theorem st37 (a0 a1 : D) : startE f37 [a0, a1] = [some (.v a0), some (.v a1), none, none, none] := rfl
@[simp] theorem st38 (a0 a1 : D) : startE f38 [a0, a1] = [some (.v a0), some (.v a1), none, none, none, none, none, none, none, none] := rfl
@[simp] theorem st39 (a0 : D) : startE f39 [a0] = [some (.v a0)] := rfl
@[simp] theorem st40 (a0 : D) : startE f40 [a0] = [some (.v a0)] := rfl
@[simp] theorem st41 (a0 a1 : D) : startE f41 [a0, a1] = [some (.v a0), some (.v a1)] := rfl
@[simp] theorem st42 (a0 : D) : startE f42 [a0] = [some (.v a0)] := rfl
@[simp] theorem st43 (a0 : D) : startE f43 [a0] = [some (.v a0)] := rfl
@[simp] theorem st44 (a0 a1 : D) : startE f44 [a0, a1] = [some (.v a0), some (.v a1)] := rfl
@[simp] theorem st45 (a0 a1 : D) : startE f45 [a0, a1] = [some (.v a0), some (.v a1), none, none, none, none, none] := rfl
@[simp] theorem st46 (a0 : D) : startE f46 [a0] = [some (.v a0), none] := rfl
@[simp] theorem st47 (a0 a1 : D) : startE f47 [a0, a1] = [some (.v a0), some (.v a1), none] := rfl
@[simp] theorem st48 (a0 a1 : D) : startE f48 [a0, a1] = [some (.v a0), some (.v a1), none] := rfl
@[simp] theorem st49 (a0 a1 : D) : startE f49 [a0, a1] = [some (.v a0), some (.v a1)] := rfl
@[simp] theorem st50 (a0 : D) : startE f50 [a0] = [some (.v a0), none, none, none, none, none, none, none, none, none, none, none, none, none, none, none, none, none, none, none, none, none, none, none, none] := rfl
def fs : List Fn := [f0, f1, f2, f3, f4, f5, f6, f7, f8, f9, f10, f11, f12, f13, f14, f15, f16, f17, f18, f19, f20, f21, f22, f23, f24, f25, f26, f27, f28, f29, f30, f31, f32, f33, f34, f35, f36, f37, f38, f39, f40, f41, f42, f43, f44, f45, f46, f47, f48, f49, f50]
noncomputable def G (j : Nat) : List D → M D := tab fs (j + 1) j
theorem call {i j : Nat} (h : j < i) : tab fs i j = G j := tab_lt h
theorem G0 : G 0 = runF (tab fs 0) f0 := tab_at rfl
theorem G1 : G 1 = runF (tab fs 1) f1 := tab_at rfl
theorem G2 : G 2 = runF (tab fs 2) f2 := tab_at rfl
theorem G3 : G 3 = runF (tab fs 3) f3 := tab_at rfl
theorem G4 : G 4 = runF (tab fs 4) f4 := tab_at rfl
theorem G5 : G 5 = runF (tab fs 5) f5 := tab_at rfl
theorem G6 : G 6 = runF (tab fs 6) f6 := tab_at rfl
theorem G7 : G 7 = runF (tab fs 7) f7 := tab_at rfl
theorem G8 : G 8 = runF (tab fs 8) f8 := tab_at rfl
theorem G9 : G 9 = runF (tab fs 9) f9 := tab_at rfl
theorem G10 : G 10 = runF (tab fs 10) f10 := tab_at rfl
theorem G11 : G 11 = runF (tab fs 11) f11 := tab_at rfl
theorem G12 : G 12 = runF (tab fs 12) f12 := tab_at rfl
theorem G13 : G 13 = runF (tab fs 13) f13 := tab_at rfl
theorem G14 : G 14 = runF (tab fs 14) f14 := tab_at rfl
theorem G15 : G 15 = runF (tab fs 15) f15 := tab_at rfl
theorem G16 : G 16 = runF (tab fs 16) f16 := tab_at rfl
theorem G17 : G 17 = runF (tab fs 17) f17 := tab_at rfl
theorem G18 : G 18 = runF (tab fs 18) f18 := tab_at rfl
theorem G19 : G 19 = runF (tab fs 19) f19 := tab_at rfl
theorem G20 : G 20 = runF (tab fs 20) f20 := tab_at rfl
theorem G21 : G 21 = runF (tab fs 21) f21 := tab_at rfl
theorem G22 : G 22 = runF (tab fs 22) f22 := tab_at rfl
theorem G23 : G 23 = runF (tab fs 23) f23 := tab_at rfl
theorem G24 : G 24 = runF (tab fs 24) f24 := tab_at rfl
theorem G25 : G 25 = runF (tab fs 25) f25 := tab_at rfl
theorem G26 : G 26 = runF (tab fs 26) f26 := tab_at rfl
theorem G27 : G 27 = runF (tab fs 27) f27 := tab_at rfl
theorem G28 : G 28 = runF (tab fs 28) f28 := tab_at rfl
theorem G29 : G 29 = runF (tab fs 29) f29 := tab_at rfl
theorem G30 : G 30 = runF (tab fs 30) f30 := tab_at rfl
theorem G31 : G 31 = runF (tab fs 31) f31 := tab_at rfl
theorem G32 : G 32 = runF (tab fs 32) f32 := tab_at rfl
theorem G33 : G 33 = runF (tab fs 33) f33 := tab_at rfl
theorem G34 : G 34 = runF (tab fs 34) f34 := tab_at rfl
theorem G35 : G 35 = runF (tab fs 35) f35 := tab_at rfl
theorem G36 : G 36 = runF (tab fs 36) f36 := tab_at rfl
theorem G37 : G 37 = runF (tab fs 37) f37 := tab_at rfl
theorem G38 : G 38 = runF (tab fs 38) f38 := tab_at rfl
theorem G39 : G 39 = runF (tab fs 39) f39 := tab_at rfl
theorem G40 : G 40 = runF (tab fs 40) f40 := tab_at rfl
theorem G41 : G 41 = runF (tab fs 41) f41 := tab_at rfl
theorem G42 : G 42 = runF (tab fs 42) f42 := tab_at rfl
theorem G43 : G 43 = runF (tab fs 43) f43 := tab_at rfl
theorem G44 : G 44 = runF (tab fs 44) f44 := tab_at rfl
theorem G45 : G 45 = runF (tab fs 45) f45 := tab_at rfl
theorem G46 : G 46 = runF (tab fs 46) f46 := tab_at rfl
theorem G47 : G 47 = runF (tab fs 47) f47 := tab_at rfl
theorem G48 : G 48 = runF (tab fs 48) f48 := tab_at rfl
theorem G49 : G 49 = runF (tab fs 49) f49 := tab_at rfl
theorem G50 : G 50 = runF (tab fs 50) f50 := tab_at rfl
theorem R0 (a0 : D) : G 0 [a0] = M.bind (execs (tab fs 0) f0.body [some (.v a0), none, none]) fin := by rw [G0]; exact runF_eq rfl
theorem R1 (a0 : D) : G 1 [a0] = M.bind (execs (tab fs 1) f1.body [some (.v a0), none, none]) fin := by rw [G1]; exact runF_eq rfl
theorem R2 (a0 : D) : G 2 [a0] = M.bind (execs (tab fs 2) f2.body [some (.v a0), none, none, none, none, none]) fin := by rw [G2]; exact runF_eq rfl
theorem R3 (a0 a1 : D) : G 3 [a0, a1] = M.bind (execs (tab fs 3) f3.body [some (.v a0), some (.v a1), none]) fin := by rw [G3]; exact runF_eq rfl
theorem R4 (a0 a1 : D) : G 4 [a0, a1] = M.bind (execs (tab fs 4) f4.body [some (.v a0), some (.v a1)]) fin := by rw [G4]; exact runF_eq rfl
theorem R5 (a0 a1 a2 : D) : G 5 [a0, a1, a2] = M.bind (execs (tab fs 5) f5.body [some (.v a0), some (.v a1), some (.v a2), none, none, none, none]) fin := by rw [G5]; exact runF_eq rfl
theorem R6 (a0 a1 a2 : D) : G 6 [a0, a1, a2] = M.bind (execs (tab fs 6) f6.body [some (.v a0), some (.v a1), some (.v a2), none, none]) fin := by rw [G6]; exact runF_eq rfl
theorem R7 (a0 a1 : D) : G 7 [a0, a1] = M.bind (execs (tab fs 7) f7.body [some (.v a0), some (.v a1)]) fin := by rw [G7]; exact runF_eq rfl
theorem R8 (a0 a1 a2 : D) : G 8 [a0, a1, a2] = M.bind (execs (tab fs 8) f8.body [some (.v a0), some (.v a1), some (.v a2), none, none, none]) fin := by rw [G8]; exact runF_eq rfl
theorem R9 (a0 a1 : D) : G 9 [a0, a1] = M.bind (execs (tab fs 9) f9.body [some (.v a0), some (.v a1)]) fin := by rw [G9]; exact runF_eq rfl
theorem R10 (a0 a1 : D) : G 10 [a0, a1] = M.bind (execs (tab fs 10) f10.body [some (.v a0), some (.v a1), none]) fin := by rw [G10]; exact runF_eq rfl
theorem R11 (a0 a1 : D) : G 11 [a0, a1] = M.bind (execs (tab fs 11) f11.body [some (.v a0), some (.v a1)]) fin := by rw [G11]; exact runF_eq rfl
theorem R12 (a0 a1 : D) : G 12 [a0, a1] = M.bind (execs (tab fs 12) f12.body [some (.v a0), some (.v a1), none, none, none]) fin := by rw [G12]; exact runF_eq rfl
theorem R13 (a0 a1 a2 : D) : G 13 [a0, a1, a2] = M.bind (execs (tab fs 13) f13.body [some (.v a0), some (.v a1), some (.v a2), none, none, none, none]) fin := by rw [G13]; exact runF_eq rfl
theorem R14 (a0 a1 : D) : G 14 [a0, a1] = M.bind (execs (tab fs 14) f14.body [some (.v a0), some (.v a1), none]) fin := by rw [G14]; exact runF_eq rfl
theorem R15 (a0 : D) : G 15 [a0] = M.bind (execs (tab fs 15) f15.body [some (.v a0), none, none, none]) fin := by rw [G15]; exact runF_eq rfl
theorem R16 (a0 a1 : D) : G 16 [a0, a1] = M.bind (execs (tab fs 16) f16.body [some (.v a0), some (.v a1)]) fin := by rw [G16]; exact runF_eq rfl
theorem R17 (a0 a1 : D) : G 17 [a0, a1] = M.bind (execs (tab fs 17) f17.body [some (.v a0), some (.v a1)]) fin := by rw [G17]; exact runF_eq rfl
theorem R18 (a0 a1 a2 : D) : G 18 [a0, a1, a2] = M.bind (execs (tab fs 18) f18.body [some (.v a0), some (.v a1), some (.v a2)]) fin := by rw [G18]; exact runF_eq rfl
theorem R19 (a0 a1 a2 a3 : D) : G 19 [a0, a1, a2, a3] = M.bind (execs (tab fs 19) f19.body [some (.v a0), some (.v a1), some (.v a2), some (.v a3), none, none]) fin := by rw [G19]; exact runF_eq rfl
theorem R20 (a0 : D) : G 20 [a0] = M.bind (execs (tab fs 20) f20.body [some (.v a0)]) fin := by rw [G20]; exact runF_eq rfl
theorem R21 (a0 : D) : G 21 [a0] = M.bind (execs (tab fs 21) f21.body [some (.v a0)]) fin := by rw [G21]; exact runF_eq rfl
theorem R22 (a0 a1 : D) : G 22 [a0, a1] = M.bind (execs (tab fs 22) f22.body [some (.v a0), some (.v a1)]) fin := by rw [G22]; exact runF_eq rfl
theorem R23 (a0 : D) : G 23 [a0] = M.bind (execs (tab fs 23) f23.body [some (.v a0), none, none, none]) fin := by rw [G23]; exact runF_eq rfl
theorem R24 (a0 a1 : D) : G 24 [a0, a1] = M.bind (execs (tab fs 24) f24.body [some (.v a0), some (.v a1), none, none, none]) fin := by rw [G24]; exact runF_eq rfl
theorem R25 (a0 a1 a2 : D) : G 25 [a0, a1, a2] = M.bind (execs (tab fs 25) f25.body [some (.v a0), some (.v a1), some (.v a2), none, none, none]) fin := by rw [G25]; exact runF_eq rfl
theorem R26 (a0 a1 : D) : G 26 [a0, a1] = M.bind (execs (tab fs 26) f26.body [some (.v a0), some (.v a1)]) fin := by rw [G26]; exact runF_eq rfl
theorem R27 (a0 a1 a2 : D) : G 27 [a0, a1, a2] = M.bind (execs (tab fs 27) f27.body [some (.v a0), some (.v a1), some (.v a2), none, none]) fin := by rw [G27]; exact runF_eq rfl
theorem R28 (a0 : D) : G 28 [a0] = M.bind (execs (tab fs 28) f28.body [some (.v a0)]) fin := by rw [G28]; exact runF_eq rfl
theorem R29 (a0 a1 : D) : G 29 [a0, a1] = M.bind (execs (tab fs 29) f29.body [some (.v a0), some (.v a1)]) fin := by rw [G29]; exact runF_eq rfl
theorem R30 (a0 : D) : G 30 [a0] = M.bind (execs (tab fs 30) f30.body [some (.v a0), none, none, none]) fin := by rw [G30]; exact runF_eq rfl
theorem R31 (a0 a1 : D) : G 31 [a0, a1] = M.bind (execs (tab fs 31) f31.body [some (.v a0), some (.v a1), none, none, none]) fin := by rw [G31]; exact runF_eq rfl
theorem R32 (a0 a1 : D) : G 32 [a0, a1] = M.bind (execs (tab fs 32) f32.body [some (.v a0), some (.v a1), none, none, none, none]) fin := by rw [G32]; exact runF_eq rfl
theorem R33 (a0 a1 : D) : G 33 [a0, a1] = M.bind (execs (tab fs 33) f33.body [some (.v a0), some (.v a1), none, none]) fin := by rw [G33]; exact runF_eq rfl
theorem R34 (a0 a1 : D) : G 34 [a0, a1] = M.bind (execs (tab fs 34) f34.body [some (.v a0), some (.v a1)]) fin := by rw [G34]; exact runF_eq rfl
theorem R35 (a0 : D) : G 35 [a0] = M.bind (execs (tab fs 35) f35.body [some (.v a0), none, none]) fin := by rw [G35]; exact runF_eq rfl
theorem R36 (a0 : D) : G 36 [a0] = M.bind (execs (tab fs 36) f36.body [some (.v a0), none, none]) fin := by rw [G36]; exact runF_eq rfl
theorem R37 (a0 a1 : D) : G 37 [a0, a1] = M.bind (execs (tab fs 37) f37.body [some (.v a0), some (.v a1), none, none, none]) fin := by rw [G37]; exact runF_eq rfl
theorem R38 (a0 a1 : D) : G 38 [a0, a1] = M.bind (execs (tab fs 38) f38.body [some (.v a0), some (.v a1), none, none, none, none, none, none, none, none]) fin := by rw [G38]; exact runF_eq rfl
theorem R39 (a0 : D) : G 39 [a0] = M.bind (execs (tab fs 39) f39.body [some (.v a0)]) fin := by rw [G39]; exact runF_eq rfl
theorem R40 (a0 : D) : G 40 [a0] = M.bind (execs (tab fs 40) f40.body [some (.v a0)]) fin := by rw [G40]; exact runF_eq rfl
theorem R41 (a0 a1 : D) : G 41 [a0, a1] = M.bind (execs (tab fs 41) f41.body [some (.v a0), some (.v a1)]) fin := by rw [G41]; exact runF_eq rfl
theorem R42 (a0 : D) : G 42 [a0] = M.bind (execs (tab fs 42) f42.body [some (.v a0)]) fin := by rw [G42]; exact runF_eq rfl
theorem R43 (a0 : D) : G 43 [a0] = M.bind (execs (tab fs 43) f43.body [some (.v a0)]) fin := by rw [G43]; exact runF_eq rfl
theorem R44 (a0 a1 : D) : G 44 [a0, a1] = M.bind (execs (tab fs 44) f44.body [some (.v a0), some (.v a1)]) fin := by rw [G44]; exact runF_eq rfl
theorem R45 (a0 a1 : D) : G 45 [a0, a1] = M.bind (execs (tab fs 45) f45.body [some (.v a0), some (.v a1), none, none, none, none, none]) fin := by rw [G45]; exact runF_eq rfl
theorem R46 (a0 : D) : G 46 [a0] = M.bind (execs (tab fs 46) f46.body [some (.v a0), none]) fin := by rw [G46]; exact runF_eq rfl
theorem R47 (a0 a1 : D) : G 47 [a0, a1] = M.bind (execs (tab fs 47) f47.body [some (.v a0), some (.v a1), none]) fin := by rw [G47]; exact runF_eq rfl
theorem R48 (a0 a1 : D) : G 48 [a0, a1] = M.bind (execs (tab fs 48) f48.body [some (.v a0), some (.v a1), none]) fin := by rw [G48]; exact runF_eq rfl
theorem R49 (a0 a1 : D) : G 49 [a0, a1] = M.bind (execs (tab fs 49) f49.body [some (.v a0), some (.v a1)]) fin := by rw [G49]; exact runF_eq rfl
theorem R50 (a0 : D) : G 50 [a0] = M.bind (execs (tab fs 50) f50.body [some (.v a0), none, none, none, none, none, none, none, none, none, none, none, none, none, none, none, none, none, none, none, none, none, none, none, none]) fin := by rw [G50]; exact runF_eq rfl
end NS
set_option linter.all false
set_option maxRecDepth 100000
set_option maxHeartbeats 1000000
namespace NS
open Tn
open PySem (PyData Str)
/-! ### encodings -/
def tups (rs : List (List Int)) : D := .tuple (rs.map tup)
def T (d : Int) (rows : List (List Int)) : D := .tuple [.str "teller", .int d, tups rows]
def Gb (d : Int) (rows : List (List Int)) : D := .tuple [.str "garbler", .int d, tups rows]
def K (gs : List (List Int)) : D := .tuple [.str "stakes", tups gs]
def rat (p : Int × Int) : D := .tuple [.int p.1, .int p.2]
/-! ### sizes -/
theorem log2_lt {n k : Nat} (h : n < 2 ^ k) (hk : 0 < k) : n.log2 < k := by
  by_cases h0 : n = 0
  · subst h0; simpa using hk
  · exact (Nat.log2_lt h0).mpr h
theorem mulOk_sm {i j : Int} (h1 : i.natAbs < 2 ^ 1000) (h2 : j.natAbs < 2 ^ 1000) : mulOk i j = true := by
  unfold mulOk bits
  have a := log2_lt h1 (by decide)
  have b := log2_lt h2 (by decide)
  exact decide_eq_true (by omega)
theorem divOk_sm {j : Int} (h : 0 < j) (h2 : j.natAbs < 2 ^ 1000) : divOk j = true := by
  unfold divOk bits
  have b := log2_lt h2 (by decide)
  rw [decide_eq_true h, decide_eq_true (by omega)]
  rfl
/-! ### greatest common divisors -/
theorem gcd_loop (F : Nat → List D → M D) : ∀ (b : Nat) (a : Int), ∃ g : Int, g.natAbs = Int.gcd a b ∧ ∃ n, whlN (fun env => M.bind (ev F (.cmp .ne (.var 1) (.con (.int 0))) env) fun x => M.lift (truD x)) (fun env => execs F (.cons (.par [0, 1] (.cons (.var 1) (.cons (.bin .mod (.var 0) (.var 1)) .nil))) .nil) env) n [some (.v (.int a)), some (.v (.int b))] = M.pure (.nx, [some (.v (.int g)), some (.v (.int 0))]) := by
  intro b
  induction b using Nat.strongRecOn with
  | ind b ih =>
    intro a
    by_cases hb : b = 0
    · subst hb
      refine ⟨a, by simp, whlN_end ?_⟩
      simp [getV, cmpD, eqD, sh, shN, eqv, truD]
    · have hpos : (0 : Int) < b := by omega
      obtain ⟨g, h1, h2⟩ := ih (a % b).toNat (by have := Int.emod_lt_of_pos a hpos; have := Int.emod_nonneg a (by omega : (b : Int) ≠ 0); omega) b
      have he : (((a % b).toNat : Nat) : Int) = a % b := Int.toNat_of_nonneg (Int.emod_nonneg a (by omega))
      rw [he] at h1 h2
      refine ⟨g, ?_, whl_step ?_ ?_ h2⟩
      · rw [h1]
        rw [Int.gcd_comm, Int.emod_def, Int.sub_eq_add_neg, ← Int.mul_neg, Int.mul_comm]
        exact Int.gcd_add_mul_right_left ..
      · have hne : ¬ ((b : Int) = 0) := by omega
        simp [getV, cmpD, eqD, sh, shN, eqv, truD, hb]
      · have hb' : 0 < b := by omega
        simp [getV, execs, exec, setAll, binD, ints2, hb']
theorem abs_gcd {a : Int} {n : Nat} {g : Int} (h1 : g.natAbs = Int.gcd a n) : (if g < 0 then -g else g) = ((Int.gcd a n : Nat) : Int) := by
  rw [← h1]
  omega
theorem gcd_ok {a b : Int} (hb : 0 ≤ b) : G 9 [.int a, .int b] = M.pure (.int (Int.gcd a b)) := by
  obtain ⟨n, rfl⟩ := Int.eq_ofNat_of_zero_le hb
  obtain ⟨g, h1, h2⟩ := gcd_loop (tab fs 9) n a
  rw [G9]
  refine run_rt rfl ((exs_nx (ex_whl h2)).trans (exs_rt (ex_ret ?_)))
  simp [frz, frzC, getV, bltD, un, absD, abs_gcd h1]
theorem divisor_ok {a b : Int} (hb : 0 ≤ b) : G 34 [.int a, .int b] = M.pure (.int (Int.gcd a b)) := by
  obtain ⟨n, rfl⟩ := Int.eq_ofNat_of_zero_le hb
  obtain ⟨g, h1, h2⟩ := gcd_loop (tab fs 34) n a
  rw [G34]
  refine run_rt rfl ((exs_nx (ex_whl h2)).trans (exs_rt (ex_ret ?_)))
  simp [frz, frzC, getV, bltD, un, absD, abs_gcd h1]
def ratio (a b : Int) : Int × Int := (a / Int.gcd a b, b / Int.gcd a b)
theorem ratio_ok {a b : Int} (hb : 0 < b) (hs : b.natAbs < 2 ^ 1000) : G 47 [.int a, .int b] = M.pure (rat (ratio a b)) := by
  have hg : 0 < Int.gcd a b := Int.gcd_pos_of_ne_zero_right _ (by omega)
  have hd : divOk (Int.gcd a b) = true := divOk_sm (by omega) (by
    have : Int.gcd a b ≤ b.natAbs := Nat.le_of_dvd (by omega) (Int.gcd_dvd_natAbs_right a b)
    simp only [Int.natAbs_natCast]
    omega)
  rw [G47]
  simp [runF, f47, startE, execs, exec, getV, call, divisor_ok (a := a) (Int.le_of_lt hb), asg, frz, frzC, binD, ints2, hd, rat, ratio]
theorem lratio_ok {a b : Int} (hb : 0 < b) (hs : b.natAbs < 2 ^ 1000) : G 10 [.int a, .int b] = M.pure (rat (ratio a b)) := by
  have hg : 0 < Int.gcd a b := Int.gcd_pos_of_ne_zero_right _ (by omega)
  have hd : divOk (Int.gcd a b) = true := divOk_sm (by omega) (by
    have : Int.gcd a b ≤ b.natAbs := Nat.le_of_dvd (by omega) (Int.gcd_dvd_natAbs_right a b)
    simp only [Int.natAbs_natCast]
    omega)
  rw [G10]
  simp [runF, f10, startE, execs, exec, getV, call, gcd_ok (a := a) (Int.le_of_lt hb), asg, frz, frzC, binD, ints2, hd, rat, ratio]
theorem less_ok {a b c d : Int} (h1 : mulOk a d = true) (h2 : mulOk c b = true) : G 7 [rat (a, b), rat (c, d)] = M.pure (.bool (decide (a * d < c * b))) := by
  rw [G7]
  simp [runF, f7, startE, execs, exec, getV, frz, frzC, idxD, ixAt, binD, mulD, h1, h2, cmpD, intsB, rat]
theorem sum_ok {a b c d : Int} (h1 : mulOk a d = true) (h2 : mulOk c b = true) (h3 : mulOk b d = true) (hp : 0 < b * d) (hs : (b * d).natAbs < 2 ^ 1000) : G 11 [rat (a, b), rat (c, d)] = M.pure (rat (ratio (a * d + c * b) (b * d))) := by
  rw [G11]
  simp [runF, f11, startE, execs, exec, getV, frz, frzC, idxD, ixAt, binD, mulD, addD, h1, h2, h3, rat, call]
  rw [lratio_ok hp hs]
  rfl
end NS
set_option linter.all false
set_option maxRecDepth 100000
set_option maxHeartbeats 1000000
namespace NS
open Tn
open PySem (PyData Str)
theorem intsOf_map {α : Type} (f : α → Int) : ∀ xs : List α, intsOf (xs.map fun x => (PyData.int (f x) : D)) = some (xs.map f)
  | [] => rfl
  | x :: xs => by
    have ih := intsOf_map f xs
    unfold intsOf at *
    rw [List.map_cons, List.mapM_cons, ih]
    rfl
theorem intsOf_ints (ns : List Int) : intsOf (ns.map .int) = some ns := by
  have := intsOf_map (fun x => x) ns
  simpa using this
theorem zipL_ints (a b : List Int) : zipL (a.map .int) (b.map .int) = (a.zip b).map fun p => .tuple [.int p.1, .int p.2] := by
  unfold zipL
  rw [List.zip, List.map_zipWith, List.zipWith_map]
def dot (g c : List Int) : Int := ((g.zip c).map fun p => p.1 * p.2).sum
def mx (l : List Int) : Int := (maxI l).getD 0
theorem maxI_mx {l : List Int} (h : l ≠ []) : maxI l = some (mx l) := by
  cases l with
  | nil => exact absurd rfl h
  | cons x xs => rfl
def cols (w : Nat) (rows : List (List Int)) : List (List Int) := (List.range w).map fun k => rows.map fun r => r.getD k 0
/-- a table: so many rows, so wide, its numbers small -/
structure Tab (w : Nat) (rows : List (List Int)) : Prop where
  ne : rows ≠ []
  len : rows.length ≤ 1000
  wid : ∀ r ∈ rows, r.length = w
  wlen : w ≤ 1000
  sm : ∀ r ∈ rows, ∀ x ∈ r, x.natAbs < 2 ^ 200
theorem Tab.cons {w : Nat} {rows : List (List Int)} (h : Tab w rows) : ∃ r0 rs, rows = r0 :: rs ∧ r0.length = w := by
  cases rows with
  | nil => exact absurd rfl h.ne
  | cons a b => exact ⟨a, b, rfl, h.wid a List.mem_cons_self⟩
theorem columns_ok {d : Int} {w : Nat} {rows : List (List Int)} (h : Tab w rows) : G 23 [T d rows] = M.pure (.list ((cols w rows).map tup)) := by
  obtain ⟨r0, rs, e, h0⟩ := h.cons
  have h1 := h.wlen
  have h2 := h.len
  rw [G23]
  refine run_rt rfl ((exs_nx (ex_set (d := tups rows) ?_ rfl)).trans (exs_rt (ex_ret ?_)))
  · simp [getV, T, idxD, ixAt]
  · rw [x_comp (xs := List.range w) (enc := fun (k : Nat) => .int k) (g := fun k => tup (rows.map fun r => r.getD k 0))]
    · simp [cols, Function.comp_def]
    · subst e
      simp [frz, frzC, getV, tups, idxD, ixAt, bltD, un, lenD, tup, h0, intOf, rngL, show -16777216 ≤ (w : Int) by omega, show (w : Int) ≤ 16777216 by omega]
    · rfl
    · intro k hk
      refine ⟨_, rfl, ?_⟩
      rw [x_blt, xs_cons, x_comp (xs := rows) (enc := tup) (g := fun r => .int (r.getD k 0))]
      · simp [bltD, un, itemsOf, tup, Function.comp_def]
      · simp [frz, frzC, wipeE, getV, itemsS, tups]
      · rfl
      · intro r hr
        have hl := h.wid r hr
        have hk' : k < r.length := by rw [hl]; simpa using hk
        refine ⟨_, rfl, ?_⟩
        simp [frz, frzC, getV, idxD, ixAt, wipeE, tup, hk']
      · simp; omega
    · simp; omega
theorem lcolumns_ok {d : Int} {w : Nat} {rows : List (List Int)} (h : Tab w rows) : G 1 [T d rows] = M.pure (.list ((cols w rows).map tup)) := by
  obtain ⟨r0, rs, e, h0⟩ := h.cons
  have h1 := h.wlen
  have h2 := h.len
  rw [G1]
  refine run_rt rfl (exs_rt (ex_ret ?_))
  rw [x_comp (xs := List.range w) (enc := fun (k : Nat) => .int k) (g := fun k => tup (rows.map fun r => r.getD k 0))]
  · simp [cols, Function.comp_def]
  · subst e
    simp [frz, frzC, getV, T, tups, idxD, ixAt, bltD, un, lenD, tup, h0, intOf, rngL, show -16777216 ≤ (w : Int) by omega, show (w : Int) ≤ 16777216 by omega]
  · rfl
  · intro k hk
    refine ⟨_, rfl, ?_⟩
    rw [x_blt, xs_cons, x_comp (xs := rows) (enc := tup) (g := fun r => .int (r.getD k 0))]
    · simp [bltD, un, itemsOf, tup, Function.comp_def]
    · simp [frz, frzC, wipeE, getV, itemsS, T, idxD, ixAt, tups]
    · rfl
    · intro r hr
      have hl := h.wid r hr
      have hk' : k < r.length := by rw [hl]; simpa using hk
      refine ⟨_, rfl, ?_⟩
      simp [frz, frzC, getV, idxD, ixAt, wipeE, tup, hk']
    · simp; omega
  · simp; omega
def Sml (c : List Int) : Prop := c.length ≤ 1000 ∧ ∀ x ∈ c, x.natAbs < 2 ^ 200
theorem pow_mono : (2 : Nat) ^ 200 ≤ 2 ^ 1000 := Nat.pow_le_pow_right (by decide) (by decide)
theorem mem_zip_sm {g c : List Int} (hg : Sml g) (hc : Sml c) {p : Int × Int} (hp : p ∈ g.zip c) : mulOk p.1 p.2 = true := by
  obtain ⟨h1, h2⟩ := List.of_mem_zip (show (p.1, p.2) ∈ g.zip c from hp)
  have := hg.2 _ h1
  have := hc.2 _ h2
  have := pow_mono
  exact mulOk_sm (by omega) (by omega)
theorem sums_ok {gs : List (List Int)} {c : List Int} (hl : gs.length ≤ 1000) (hg : ∀ g ∈ gs, Sml g) (hc : Sml c) : G 24 [K gs, tup c] = M.pure (.list ((gs.map fun g => dot g c).map .int)) := by
  rw [G24]
  refine run_rt rfl (exs_rt (ex_ret ?_))
  rw [x_comp (xs := gs) (enc := tup) (g := fun g => .int (dot g c))]
  · simp [Function.comp_def]
  · simp [frz, frzC, getV, K, tups, idxD, ixAt, itemsS]
  · rfl
  · intro g hm
    refine ⟨_, rfl, ?_⟩
    rw [x_blt, xs_cons, x_comp (xs := g.zip c) (enc := fun p => .tuple [.int p.1, .int p.2]) (g := fun p => .int (p.1 * p.2))]
    · simp [bltD, un, sumD, itemsOf, intsOf_map, dot]
    · simp [frz, frzC, wipeE, getV, zipD, tup, zipL_ints]
    · rfl
    · intro p hp
      refine ⟨_, rfl, ?_⟩
      simp [frz, frzC, getV, wipeE, binD, mulD, mem_zip_sm (hg g hm) hc hp]
    · have := (hg g hm).1
      simp
      omega
  · simp; omega
theorem lsums_ok {gs : List (List Int)} {c : List Int} (hl : gs.length ≤ 1000) (hg : ∀ g ∈ gs, Sml g) (hc : Sml c) : G 12 [tup c, K gs] = M.pure (.list ((gs.map fun g => dot g c).map .int)) := by
  rw [G12]
  refine run_rt rfl (exs_rt (ex_ret ?_))
  rw [x_comp (xs := gs) (enc := tup) (g := fun g => .int (dot g c))]
  · simp [Function.comp_def]
  · simp [frz, frzC, getV, K, tups, idxD, ixAt, itemsS]
  · rfl
  · intro g hm
    refine ⟨_, rfl, ?_⟩
    rw [x_blt, xs_cons, x_comp (xs := g.zip c) (enc := fun p => .tuple [.int p.1, .int p.2]) (g := fun p => .int (p.1 * p.2))]
    · simp [bltD, un, sumD, itemsOf, intsOf_map, dot]
    · simp [frz, frzC, wipeE, getV, zipD, tup, zipL_ints]
    · rfl
    · intro p hp
      refine ⟨_, rfl, ?_⟩
      simp [frz, frzC, getV, wipeE, binD, mulD, mem_zip_sm (hg g hm) hc hp]
    · have := (hg g hm).1
      simp
      omega
  · simp; omega
end NS
set_option linter.all false
set_option maxRecDepth 100000
set_option maxHeartbeats 1000000
set_option exponentiation.threshold 2000
namespace NS
open Tn
open PySem (PyData Str)
theorem cols_sml {w : Nat} {rows : List (List Int)} (h : Tab w rows) : ∀ c ∈ cols w rows, Sml c := by
  intro c hc
  obtain ⟨k, hk, rfl⟩ := List.mem_map.mp hc
  refine ⟨by rw [List.length_map]; exact h.len, fun x hx => ?_⟩
  obtain ⟨r, hr, rfl⟩ := List.mem_map.mp hx
  have hk' : k < r.length := by rw [h.wid r hr]; simpa using hk
  rw [List.getD_eq_getElem?_getD, List.getElem?_eq_getElem hk']
  exact h.sm r hr _ (List.getElem_mem hk')
theorem cols_len {w : Nat} {rows : List (List Int)} : (cols w rows).length = w := by simp [cols]
/-- stakes: so many deeds, the gains small -/
structure Stk (gs : List (List Int)) : Prop where
  ne : gs ≠ []
  len : gs.length ≤ 1000
  sm : ∀ g ∈ gs, Sml g
def W (gs : List (List Int)) (cs : List (List Int)) : Int := (cs.map fun c => mx (gs.map fun g => dot g c)).sum
theorem worth_told_ok {d : Int} {w : Nat} {rows gs : List (List Int)} (h : Tab w rows) (hg : Stk gs) (hd : 0 < d) (hs : d.natAbs < 2 ^ 1000) : G 48 [T d rows, K gs] = M.pure (rat (ratio (W gs (cols w rows)) d)) := by
  have h1 := h.wlen
  rw [G48]
  refine run_rt rfl (exs_rt (ex_ret ?_))
  rw [x_call, xs_cons, x_blt, xs_cons, x_comp (xs := cols w rows) (enc := tup) (g := fun c => .int (mx (gs.map fun g => dot g c)))]
  · simp [bltD, un, sumD, itemsOf, intsOf_map, frz, frzC, getV, T, idxD, ixAt, call]
    exact ratio_ok hd hs
  · have := columns_ok (d := d) h
    simp [frz, frzC, getV, call, this, itemsS]
  · rfl
  · intro c hc
    refine ⟨_, rfl, ?_⟩
    have := sums_ok hg.len hg.sm (cols_sml h c hc)
    rw [x_blt, xs_cons, x_call]
    have hne : (gs.map fun g => dot g c) ≠ [] := by
      intro z
      exact hg.ne (List.map_eq_nil_iff.mp z)
    simp only [x_var, xs_cons, xs_nil]
    simp [frz, frzC, getV, wipeE, call, this, bltD, un, maxD, itemsOf]
    rw [← List.map_map, intsOf_ints]
    simp [maxI_mx hne]
  · rw [cols_len]; simp; omega
theorem lworth_ok {d : Int} {w : Nat} {rows gs : List (List Int)} (h : Tab w rows) (hg : Stk gs) (hd : 0 < d) (hs : d.natAbs < 2 ^ 1000) : G 14 [T d rows, K gs] = M.pure (rat (ratio (W gs (cols w rows)) d)) := by
  have h1 := h.wlen
  rw [G14]
  refine run_rt rfl (exs_rt (ex_ret ?_))
  rw [x_call, xs_cons, x_blt, xs_cons, x_comp (xs := cols w rows) (enc := tup) (g := fun c => .int (mx (gs.map fun g => dot g c)))]
  · simp [bltD, un, sumD, itemsOf, intsOf_map, frz, frzC, getV, T, idxD, ixAt, call]
    exact lratio_ok hd hs
  · have := lcolumns_ok (d := d) h
    simp [frz, frzC, getV, call, this, itemsS]
  · rfl
  · intro c hc
    refine ⟨_, rfl, ?_⟩
    have := lsums_ok hg.len hg.sm (cols_sml h c hc)
    rw [x_blt, xs_cons, x_call]
    have hne : (gs.map fun g => dot g c) ≠ [] := by
      intro z
      exact hg.ne (List.map_eq_nil_iff.mp z)
    simp [frz, frzC, getV, wipeE, call, this, bltD, un, maxD, itemsOf]
    rw [← List.map_map, intsOf_ints]
    simp [maxI_mx hne]
  · rw [cols_len]; simp; omega
/-! ### what is a teller -/
theorem number_ok {x lo hi : Int} : G 18 [.int x, .int lo, .int hi] = M.pure (.bool (decide (lo ≤ x) && decide (x ≤ hi))) := by
  rw [R18]
  by_cases h : lo ≤ x
  · simp [f18, fin, execs, exec, getV, isiD, truD, frz, frzC, cmpD, intsB, isN, isNoneD, h]
  · simp [f18, fin, execs, exec, getV, isiD, truD, frz, frzC, cmpD, intsB, isN, isNoneD, h]
theorem number_none {x lo : Int} : G 18 [.int x, .int lo, .none] = M.pure (.bool (decide (lo ≤ x))) := by
  rw [R18]
  by_cases h : lo ≤ x
  · simp [f18, fin, execs, exec, getV, isiD, truD, frz, frzC, cmpD, intsB, isN, isNoneD, h]
  · simp [f18, fin, execs, exec, getV, isiD, truD, frz, frzC, cmpD, intsB, isN, isNoneD, h]
/-- a teller of n states, w words -/
structure Tel (n w : Nat) (d : Int) (rows : List (List Int)) : Prop where
  len : rows.length = n
  n1 : 1 ≤ n
  n6 : n ≤ 6
  wid : ∀ r ∈ rows, r.length = w
  w1 : 1 ≤ w
  w12 : w ≤ 12
  nn : ∀ r ∈ rows, ∀ x ∈ r, 0 ≤ x
  sum : ∀ r ∈ rows, r.sum = d
  d1 : 1 ≤ d
  dM : d ≤ 1000000000000000000000000000000
theorem le_sum {r : List Int} (h : ∀ x ∈ r, 0 ≤ x) : 0 ≤ r.sum ∧ ∀ x ∈ r, x ≤ r.sum := by
  induction r with
  | nil => exact ⟨by simp, fun x hx => by simp at hx⟩
  | cons y ys ih =>
    obtain ⟨h1, h2⟩ := ih fun x hx => h x (List.mem_cons_of_mem _ hx)
    have h3 := h y List.mem_cons_self
    rw [List.sum_cons]
    refine ⟨by omega, fun x hx => ?_⟩
    rcases List.mem_cons.mp hx with rfl | hx
    · omega
    · have := h2 x hx
      omega
theorem Tel.tab {n w : Nat} {d : Int} {rows : List (List Int)} (h : Tel n w d rows) : Tab w rows := by
  have := h.n1
  have := h.n6
  have := h.w12
  refine ⟨fun z => ?_, by rw [h.len]; omega, h.wid, by omega, fun r hr x hx => ?_⟩
  · have := h.len
    rw [z] at this
    simp at this
    omega
  · have h1 := (le_sum (h.nn r hr)).2 x hx
    have h2 := h.nn r hr x hx
    rw [h.sum r hr] at h1
    have h3 := h.dM
    have h4 : (1000000000000000000000000000000 : Nat) < 2 ^ 200 := by decide
    omega
theorem allD_true {α : Type} (f : α → Bool) (xs : List α) : allD (.list (xs.map fun x => (PyData.bool (f x) : D))) = some (.bool (xs.all f)) := by
  have : boolsOf (xs.map fun x => (PyData.bool (f x) : D)) = some (xs.map f) := by
    induction xs with
    | nil => rfl
    | cons x xs ih =>
      unfold boolsOf at *
      rw [List.map_cons, List.mapM_cons, ih]
      rfl
  simp only [allD, this, Option.map_some, List.all_map]
  rfl
theorem flat_len {k : Nat} {rows : List (List Int)} (h : ∀ r ∈ rows, r.length ≤ k) : (rows.flatMap fun r => r).length ≤ rows.length * k := by
  induction rows with
  | nil => simp
  | cons r rs ih =>
    rw [List.flatMap_cons, List.length_append, List.length_cons, Nat.succ_mul]
    have h1 := h r List.mem_cons_self
    have h2 := ih fun x hx => h x (List.mem_cons_of_mem _ hx)
    omega
theorem rows_ok {n w : Nat} {d : Int} {rows : List (List Int)} (h : Tel n w d rows) : G 19 [tups rows, .int d, .int 6, .int 12] = M.pure (.bool true) := by
  have h1 := h.n1
  have h2 := h.n6
  have h3 := h.len
  have h4 := h.w1
  have h5 := h.w12
  obtain ⟨r0, rs, e, h0⟩ := h.tab.cons
  rw [R19]
  have c1 : ev (tab fs 19) (.comp [4] (.and_ (.isi .tuple (.var 4)) (.cmp2 .le .le (.con (.int 1)) (.blt .len (.cons (.var 4) .nil)) (.var 3))) (.nm 4) (.seq (.var 0)) .none) [some (.v (tups rows)), some (.v (.int d)), some (.v (.int 6)), some (.v (.int 12)), none, none] = M.pure (.list (rows.map fun _ => .bool true)) := by
    rw [x_comp (xs := rows) (enc := tup) (g := fun _ => .bool true)]
    · simp [getV, tups, itemsS]
    · rfl
    · intro r hr
      have hl := h.wid r hr
      refine ⟨_, rfl, ?_⟩
      simp [getV, wipeE, tup, isiD, truD, cmpD, intsB, bltD, un, lenD, hl, show (1 : Int) ≤ w by omega, show (w : Int) ≤ 12 by omega]
    · simp; omega
  have c2 : ev (tab fs 19) (.comp2 [4, 5] [5] (.call 18 (.cons (.var 5) (.cons (.con (.int 0)) (.cons (.con .none) .nil)))) (.nm 4) (.seq (.var 0)) (.nm 5) (.seq (.var 4))) [some (.v (tups rows)), some (.v (.int d)), some (.v (.int 6)), some (.v (.int 12)), none, none] = M.pure (.list ((rows.flatMap fun r => r).map fun x => .bool (decide (0 ≤ x)))) := by
    rw [x_comp2 (xs := rows) (enc := tup) (ys := fun r => r) (enc1 := .int) (g := fun _ x => .bool (decide (0 ≤ x)))]
    · rw [List.map_flatMap]
    · simp [getV, tups, itemsS]
    · rfl
    · intro r hr
      refine ⟨_, rfl, ?_, rfl, fun x hx => ⟨_, rfl, ?_⟩⟩
      · simp [getV, wipeE, tup, itemsS]
      · simp [getV, wipeE, call, number_none]
    · have := flat_len (rows := rows) (k := 1000) fun r hr => by rw [h.wid r hr]; omega
      have e2 : (rows.flatMap fun r => r.map fun x => (PyData.bool (decide (0 ≤ x)) : D)).length = (rows.flatMap fun r => r).length := by
        rw [List.length_flatMap, List.length_flatMap]
        simp
      rw [e2]
      simp
      have : rows.length * 1000 ≤ 6 * 1000 := Nat.mul_le_mul_right _ (by omega)
      simp at *
      omega
  have c3 : ev (tab fs 19) (.comp [4] (.and_ (.cmp .eq (.blt .len (.cons (.var 4) .nil)) (.blt .len (.cons (.idx (.var 0) (.con (.int 0))) .nil))) (.cmp .eq (.blt .sum (.cons (.var 4) .nil)) (.var 1))) (.nm 4) (.seq (.var 0)) .none) [some (.v (tups rows)), some (.v (.int d)), some (.v (.int 6)), some (.v (.int 12)), none, none] = M.pure (.list (rows.map fun _ => .bool true)) := by
    rw [x_comp (xs := rows) (enc := tup) (g := fun _ => .bool true)]
    · simp [getV, tups, itemsS]
    · rfl
    · intro r hr
      have hl := h.wid r hr
      have hs := h.sum r hr
      refine ⟨_, rfl, ?_⟩
      subst e
      simp [getV, wipeE, tups, idxD, ixAt, tup, truD, cmpD, eqD, sh, shN, eqv, bltD, un, lenD, sumD, itemsOf, intsOf_ints, hl, h0, hs]
    · simp; omega
  have hnn : (rows.flatMap fun r => r).all (fun x => decide (0 ≤ x)) = true := by
    rw [List.all_eq_true]
    intro x hx
    obtain ⟨r, hr, hx⟩ := List.mem_flatMap.mp hx
    exact decide_eq_true (h.nn r hr x hx)
  have a1 := allD_true (fun _ : List Int => true) rows
  rw [List.all_eq_true.mpr fun _ _ => rfl] at a1
  have a2 := allD_true (fun x : Int => decide (0 ≤ x)) (rows.flatMap fun r => r)
  rw [hnn] at a2
  generalize (rows.flatMap fun r => r) = fl at c2 a2
  have i0 : isiD .tuple (tups rows) = some true := rfl
  have l0 : lenD (tups rows) = some (.int n) := by simp [tups, lenD, h3]
  simp [f19, fin, execs, exec, getV, frz, frzC, i0, l0, truD, cmpD, intsB, bltD, un, c1, c2, c3, a1, a2, show (1 : Int) ≤ n by omega, show (n : Int) ≤ 6 by omega]
theorem teller_ok {n w : Nat} {d : Int} {rows : List (List Int)} (h : Tel n w d rows) : G 20 [T d rows] = M.pure (.bool true) := by
  have h1 := h.d1
  have h2 := h.dM
  have q : eqD (.str "teller") (.str "teller") = some true := by decide +kernel
  rw [R20]
  simp [f20, fin, execs, exec, getV, frz, frzC, T, isiD, q, idxD, ixAt, bltD, un, call, number_ok, rows_ok h, h1, h2]
theorem check_ok {n w : Nat} {d : Int} {rows : List (List Int)} (h : Tel n w d rows) : G 21 [T d rows] = M.pure .none := by
  rw [R21]
  simp [f21, fin, execs, exec, getV, call, teller_ok h]
/-- stakes for n states -/
structure Stn (n : Nat) (gs : List (List Int)) : Prop extends Stk gs where
  l12 : gs.length ≤ 12
  wid : ∀ g ∈ gs, g.length = n
  n1 : 1 ≤ n
  n6 : n ≤ 6
theorem stakes_ok {n : Nat} {gs : List (List Int)} (h : Stn n gs) : G 15 [K gs] = M.pure (.bool true) := by
  have h1 := h.n1
  have h2 := h.n6
  have h3 := h.l12
  obtain ⟨g0, rs, e⟩ : ∃ g0 rs, gs = g0 :: rs := by cases gs with
    | nil => exact absurd rfl h.ne
    | cons a b => exact ⟨a, b, rfl⟩
  have h0 : g0.length = n := h.wid g0 (by rw [e]; exact List.mem_cons_self)
  have h4 : 1 ≤ gs.length := by rw [e]; simp
  rw [R15]
  have c1 : ev (tab fs 15) (.comp [2] (.and_ (.isi .tuple (.var 2)) (.cmp2 .le .le (.con (.int 1)) (.blt .len (.cons (.var 2) .nil)) (.con (.int 6)))) (.nm 2) (.seq (.var 1)) .none) [some (.v (K gs)), some (.v (tups gs)), none, none] = M.pure (.list (gs.map fun _ => .bool true)) := by
    rw [x_comp (xs := gs) (enc := tup) (g := fun _ => .bool true)]
    · simp [getV, tups]
    · rfl
    · intro r hr
      have hl := h.wid r hr
      refine ⟨_, rfl, ?_⟩
      simp [getV, wipeE, tup, isiD, bltD, un, hl, show (1 : Int) ≤ n by omega, show (n : Int) ≤ 6 by omega]
    · simp; omega
  have c2 : ev (tab fs 15) (.comp2 [2, 3] [3] (.and_ (.isi .int (.var 3)) (.not_ (.isi .bool (.var 3)))) (.nm 2) (.seq (.var 1)) (.nm 3) (.seq (.var 2))) [some (.v (K gs)), some (.v (tups gs)), none, none] = M.pure (.list ((gs.flatMap fun r => r).map fun _ => .bool true)) := by
    rw [x_comp2 (xs := gs) (enc := tup) (ys := fun r => r) (enc1 := .int) (g := fun _ _ => .bool true)]
    · rw [List.map_flatMap]
    · simp [getV, tups]
    · rfl
    · intro r hr
      refine ⟨_, rfl, ?_, rfl, fun x hx => ⟨_, rfl, ?_⟩⟩
      · simp [getV, wipeE, tup]
      · simp [getV, wipeE, isiD]
    · have := flat_len (rows := gs) (k := 1000) fun r hr => by rw [h.wid r hr]; omega
      have e2 : (gs.flatMap fun r => r.map fun _ => (PyData.bool true : D)).length = (gs.flatMap fun r => r).length := by
        rw [List.length_flatMap, List.length_flatMap]
        simp
      rw [e2]
      have : gs.length * 1000 ≤ 12 * 1000 := Nat.mul_le_mul_right _ (by omega)
      simp at *
      omega
  have c3 : ev (tab fs 15) (.comp [2] (.cmp .eq (.blt .len (.cons (.var 2) .nil)) (.blt .len (.cons (.idx (.var 1) (.con (.int 0))) .nil))) (.nm 2) (.seq (.var 1)) .none) [some (.v (K gs)), some (.v (tups gs)), none, none] = M.pure (.list (gs.map fun _ => .bool true)) := by
    rw [x_comp (xs := gs) (enc := tup) (g := fun _ => .bool true)]
    · simp [getV, tups]
    · rfl
    · intro r hr
      have hl := h.wid r hr
      refine ⟨_, rfl, ?_⟩
      subst e
      simp [getV, wipeE, tups, idxD, ixAt, tup, bltD, un, hl, h0]
    · simp; omega
  have a1 := allD_true (fun _ : List Int => true) gs
  rw [List.all_eq_true.mpr fun _ _ => rfl] at a1
  have a2 := allD_true (fun _ : Int => true) (gs.flatMap fun r => r)
  rw [List.all_eq_true.mpr fun _ _ => rfl] at a2
  generalize (gs.flatMap fun r => r) = fl at c2 a2
  have i0 : isiD .tuple (tups gs) = some true := rfl
  have l0 : lenD (tups gs) = some (.int gs.length) := by simp [tups]
  have q : eqD (.str "stakes") (.str "stakes") = some true := by decide +kernel
  have k1 : isiD .tuple (K gs) = some true := rfl
  have k2 : lenD (K gs) = some (.int 2) := rfl
  have k3 : idxD (K gs) (.int 0) = some (.str "stakes") := rfl
  have k4 : idxD (K gs) (.int 1) = some (tups gs) := rfl
  have k5 : isiD .str (.str "stakes") = some true := rfl
  simp [f15, fin, execs, exec, getV, frz, frzC, asg, i0, l0, k1, k2, k3, k4, k5, q, bltD, un, c1, c2, c3, a1, a2, show (1 : Int) ≤ gs.length by omega, show (gs.length : Int) ≤ 12 by omega]
theorem stakes_for_ok {n : Nat} {gs : List (List Int)} (h : Stn n gs) : G 16 [.int n, K gs] = M.pure (.bool true) := by
  obtain ⟨g0, rs, e⟩ : ∃ g0 rs, gs = g0 :: rs := by cases gs with
    | nil => exact absurd rfl h.ne
    | cons a b => exact ⟨a, b, rfl⟩
  have h0 : g0.length = n := h.wid g0 (by rw [e]; exact List.mem_cons_self)
  have so := stakes_ok h
  rw [R16]
  subst e
  have k4 : idxD (K (g0 :: rs)) (.int 1) = some (tups (g0 :: rs)) := rfl
  have k5 : idxD (tups (g0 :: rs)) (.int 0) = some (tup g0) := by simp [tups, idxD, ixAt]
  have k6 : lenD (tup g0) = some (.int n) := by simp [tup, h0]
  simp [f16, fin, execs, exec, getV, frz, frzC, call, so, k4, k5, k6, bltD, un]
theorem check_stakes_ok {n : Nat} {gs : List (List Int)} (h : Stn n gs) : G 17 [.int n, K gs] = M.pure .none := by
  rw [R17]
  simp [f17, fin, execs, exec, getV, call, stakes_for_ok h]
theorem worth_ok {n w : Nat} {d : Int} {rows gs : List (List Int)} (h : Tel n w d rows) (hg : Stn n gs) : G 49 [T d rows, K gs] = M.pure (rat (ratio (W gs (cols w rows)) d)) := by
  have h1 := h.d1
  have h2 := h.dM
  have hw := worth_told_ok (gs := gs) h.tab hg.toStk (d := d) (by omega) (by
    have h4 : (1000000000000000000000000000000 : Nat) < 2 ^ 200 := by decide
    have := pow_mono
    omega)
  have hl : lenD (tups rows) = some (.int n) := by simp [tups, h.len]
  have hi : idxD (T d rows) (.int 2) = some (tups rows) := rfl
  rw [R49]
  simp [f49, fin, execs, exec, getV, frz, frzC, call, check_ok h, hi, bltD, un, hl, check_stakes_ok hg, hw]
end NS
set_option linter.all false
set_option maxRecDepth 100000
set_option maxHeartbeats 1000000
set_option exponentiation.threshold 2000
namespace NS
open Tn
open PySem (PyData Str)
theorem enumL_ints : ∀ (ns : List Int) (k : Nat), enumL k (ns.map .int) = (ns.zipIdx k).map fun p => .tuple [.int p.2, .int p.1]
  | [], _ => rfl
  | n :: ns, k => by
    rw [List.map_cons, List.zipIdx_cons, List.map_cons, ← enumL_ints ns (k + 1)]
    rfl
theorem zipIdx_range (xs : List Int) : xs.zipIdx = (List.range xs.length).map fun a => (xs.getD a 0, a) := by
  apply List.ext_getElem
  · simp
  · intro i h1 h2
    simp at h1
    simp [h1]
def bestOf (sums : List Int) : List Int := ((List.range sums.length).filter fun a => decide (sums.getD a 0 = mx sums)).map fun (a : Nat) => (a : Int)
theorem max_list {l : List Int} (h : l ≠ []) : maxD (.list (l.map .int)) = some (.int (mx l)) := by
  simp [maxD, intsOf_ints, maxI_mx h]
theorem best_ok {n w : Nat} {d : Int} {rows gs : List (List Int)} {k : Nat} (h : Tel n w d rows) (hg : Stn n gs) (hk : k < w) : G 25 [T d rows, K gs, .int k] = M.pure (tup (bestOf (gs.map fun g => dot g ((cols w rows).getD k [])))) := by
  obtain ⟨r0, rs, e, h0⟩ := h.tab.cons
  have i1 : idxD (T d rows) (.int 2) = some (tups rows) := rfl
  have i2 : idxD (tups rows) (.int 0) = some (tup r0) := by subst e; simp [tups, idxD, ixAt]
  have i3 : lenD (tup r0) = some (.int w) := by simp [tup, h0]
  have i4 : lenD (tups rows) = some (.int n) := by simp [tups, h.len]
  have cw : G 22 [T d rows, .int k] = M.pure .none := by
    rw [R22]
    simp [f22, fin, execs, exec, getV, call, i1, i2, i3, bltD, un, binD, ints2, number_ok, show (k : Int) ≤ (w : Int) - 1 by omega]
  have hc : (cols w rows).getD k [] ∈ cols w rows := by
    rw [List.getD_eq_getElem?_getD, List.getElem?_eq_getElem (by rw [cols_len]; exact hk)]
    exact List.getElem_mem _
  have i5 : idxD (.list ((cols w rows).map tup)) (.int k) = some (tup ((cols w rows).getD k [])) := by
    simp [idxD, ixAt, cols_len, hk, List.getD_eq_getElem?_getD]
  have so := sums_ok hg.len hg.sm (cols_sml h.tab _ hc)
  generalize (cols w rows).getD k [] = c at hc i5 so
  have hne : (gs.map fun g => dot g c) ≠ [] := fun z => hg.ne (List.map_eq_nil_iff.mp z)
  have hlen : (gs.map fun g => dot g c).length ≤ 1000 := by rw [List.length_map]; exact hg.len
  generalize (gs.map fun g => dot g c) = sums at so hne hlen
  have co := columns_ok (d := d) h.tab
  have c1 : ev (tab fs 25) (.comp [4, 5] (.var 4) (.tp (.cons (.nm 4) (.cons (.nm 5) .nil))) (.enum (.var 3)) (.some (.cmp .eq (.var 5) (.blt .max (.cons (.var 3) .nil))))) [some (.v (T d rows)), some (.v (K gs)), some (.v (.int k)), some (.v (.list (sums.map .int))), none, none] =
      M.pure (.list ((bestOf sums).map .int)) := by
    rw [x_compF (xs := sums.zipIdx) (enc := fun p => .tuple [.int p.2, .int p.1]) (q := fun p => decide (p.1 = mx sums)) (g := fun p => .int p.2)]
    · congr 2
      rw [zipIdx_range, List.filter_map, List.map_map, bestOf, List.map_map]
      rfl
    · simp [getV, enumD, enumL_ints]
    · rfl
    · intro p hp
      refine ⟨_, .bool (decide (p.1 = mx sums)), rfl, ?_, rfl, fun _ => ?_⟩
      · simp [getV, wipeE, bltD, un, max_list hne]
      · simp [getV, wipeE]
    · simp; omega
  rw [R25]
  simp [f25, fin, execs, exec, getV, frz, frzC, asg, call, check_ok h, i1, i4, check_stakes_ok hg, cw, co, i5, so, bltD, un, c1]
  rfl
theorem check1_ok {n : Nat} {gs : List (List Int)} (h : Stn n gs) : G 42 [K gs] = M.pure .none := by
  rw [R42]
  simp [f42, fin, execs, exec, getV, call, stakes_ok h]
theorem check2_ok {n : Nat} {gs hs : List (List Int)} (h : Stn n gs) (h2 : Stn n hs) : G 41 [K gs, K hs] = M.pure .none := by
  obtain ⟨g0, rs, e⟩ : ∃ g0 rs, gs = g0 :: rs := by cases gs with
    | nil => exact absurd rfl h.ne
    | cons a b => exact ⟨a, b, rfl⟩
  have h0 : g0.length = n := h.wid g0 (by rw [e]; exact List.mem_cons_self)
  have k4 : idxD (K gs) (.int 1) = some (tups gs) := rfl
  have k5 : idxD (tups gs) (.int 0) = some (tup g0) := by subst e; simp [tups, idxD, ixAt]
  have k6 : lenD (tup g0) = some (.int n) := by simp [tup, h0]
  rw [R41]
  simp [f41, fin, execs, exec, getV, call, k4, k5, k6, bltD, un, stakes_for_ok h2]
theorem made_stakes_ok {gs : List (List Int)} (h : gs.length ≤ 12) : G 43 [.list (gs.map tup)] = M.pure (K gs) := by
  rw [R43]
  simp [f43, fin, execs, exec, getV, frz, frzC, bltD, un, K, tups, show ¬ (12 : Int) < gs.length by omega]
theorem either_ok {n : Nat} {gs hs : List (List Int)} (h : Stn n gs) (h2 : Stn n hs) (hl : gs.length + hs.length ≤ 12) : G 44 [K gs, K hs] = M.pure (K (gs ++ hs)) := by
  have k1 : idxD (K gs) (.int 1) = some (tups gs) := rfl
  have k2 : idxD (K hs) (.int 1) = some (tups hs) := rfl
  have m := made_stakes_ok (gs := gs ++ hs) (by simpa using hl)
  rw [List.map_append] at m
  rw [R44]
  simp [f44, fin, execs, exec, getV, frz, frzC, call, check1_ok h, check2_ok h h2, k1, k2, bltD, un, tups, binD, addD, show gs.length + hs.length ≤ 16777216 by omega, m]
/-- the sums of the gains -/
def addv (a b : List Int) : List Int := (a.zip b).map fun p => p.1 + p.2
theorem sum_ok' {n : Nat} {gs hs : List (List Int)} (h : Stn n gs) (h2 : Stn n hs) (hl : gs.length * hs.length ≤ 12) : G 45 [K gs, K hs] = M.pure (K (gs.flatMap fun g => hs.map fun o => addv g o)) := by
  have k1 : idxD (K gs) (.int 1) = some (tups gs) := rfl
  have k2 : idxD (K hs) (.int 1) = some (tups hs) := rfl
  have l12 : ∀ ys : List (List Int), ys.length ≤ gs.length → (ys.flatMap fun g => hs.map fun o => addv g o).length ≤ 12 := fun ys hy => by
    have e : (ys.flatMap fun g => hs.map fun o => addv g o).length = ys.length * hs.length := by
      clear hl hy
      induction ys with
      | nil => simp
      | cons y ys ih => rw [List.flatMap_cons, List.length_append, ih, List.length_map, List.length_cons, Nat.succ_mul]; omega
    rw [e]
    exact Nat.le_trans (Nat.mul_le_mul_right _ hy) hl
  have m := made_stakes_ok (gs := gs.flatMap fun g => hs.map fun o => addv g o) (l12 gs (Nat.le_refl _))
  let st : List (List Int) → Env := fun ys => [some (.v (K gs)), some (.v (K hs)), some (.own ((ys.flatMap fun g => hs.map fun o => addv g o).map tup)), (ys.getLast?).map fun g => .v (tup g), none, none, none]
  have lp := forL_map (f := fun d env => M.bind (M.lift (asg (.nm 3) d env)) fun e => execs (tab fs 45) (.cons (.extend 2 (.comp [6] (.blt .tuple (.cons (.comp [4, 5] (.bin .add (.var 4) (.var 5)) (.tp (.cons (.nm 4) (.cons (.nm 5) .nil))) (.zip2 (.var 3) (.var 6)) .none) .nil)) (.nm 6) (.seq (.idx (.var 1) (.con (.int 1)))) .none)) .nil) e) (enc := tup) st (xs := gs) (done := []) (by
    intro ys g zs hh
    have hg : g ∈ gs := by
      have : g ∈ ys ++ g :: zs := by simp
      rw [← hh] at this
      simpa using this
    have hyl : ys.length ≤ gs.length := by
      have := congrArg List.length hh
      simp at this
      omega
    have e1 : asg (.nm 3) (tup g) (st ys) = some [some (.v (K gs)), some (.v (K hs)), some (.own ((ys.flatMap fun g => hs.map fun o => addv g o).map tup)), some (.v (tup g)), none, none, none] := rfl
    rw [e1, lsome, bpure]
    have c1 : ev (tab fs 45) (.comp [6] (.blt .tuple (.cons (.comp [4, 5] (.bin .add (.var 4) (.var 5)) (.tp (.cons (.nm 4) (.cons (.nm 5) .nil))) (.zip2 (.var 3) (.var 6)) .none) .nil)) (.nm 6) (.seq (.idx (.var 1) (.con (.int 1)))) .none) [some (.v (K gs)), some (.v (K hs)), some (.own ((ys.flatMap fun g => hs.map fun o => addv g o).map tup)), some (.v (tup g)), none, none, none] =
        M.pure (.list (hs.map fun o => tup (addv g o))) := by
      rw [x_comp (xs := hs) (enc := tup) (g := fun o => tup (addv g o))]
      · simp [getV, k2, tups]
      · rfl
      · intro o ho
        refine ⟨_, rfl, ?_⟩
        rw [x_blt, xs_cons, x_comp (xs := g.zip o) (enc := fun p => .tuple [.int p.1, .int p.2]) (g := fun p => .int (p.1 + p.2))]
        · simp [bltD, un, tup, addv, Function.comp_def]
        · simp [wipeE, getV, zipD, tup, zipL_ints]
        · rfl
        · intro p hp
          refine ⟨_, rfl, ?_⟩
          simp [getV, wipeE, binD, addD]
        · have := (h.sm g hg).1
          simp
          omega
      · have := h2.len
        simp; omega
    rw [exs_nx (ex_extend rfl c1 (by
      have := l12 ys hyl
      have := h2.len
      rw [List.length_map, List.length_map]
      simp
      simp at *
      omega)), exs_nil]
    congr 2
    simp [st, Function.comp_def])
  rw [List.nil_append] at lp
  rw [R45]
  have e0 : execs (tab fs 45) f45.body [some (.v (K gs)), some (.v (K hs)), none, none, none, none, none] = M.pure (.rt (K (gs.flatMap fun g => hs.map fun o => addv g o)), st gs) := by
    refine (exs_nx (ex_expr (d := .none) ?_)).trans ((exs_nx (ex_expr (d := .none) ?_)).trans ((exs_nx (ex_own (xs := []) ?_ (by simp))).trans ((exs_nx (ex_for (xs := gs.map tup) ?_ lp)).trans (exs_rt (ex_ret ?_)))))
    · simp [getV, call, check1_ok h]
    · simp [getV, call, check2_ok h h2]
    · simp
    · simp [getV, k1, tups, st]
    · simp [frz, frzC, getV, st, call]
      rw [List.map_flatMap] at m
      simpa [List.map_flatMap] using m
  rw [e0]
  rfl
theorem unheard_ok {n : Nat} {gs : List (List Int)} (h : Stn n gs) : G 46 [K gs] = M.pure (.int (mx (gs.map fun g => g.sum))) := by
  have k1 : idxD (K gs) (.int 1) = some (tups gs) := rfl
  have hne : (gs.map fun g => g.sum) ≠ [] := fun z => h.ne (List.map_eq_nil_iff.mp z)
  have c1 : ev (tab fs 46) (.comp [1] (.blt .sum (.cons (.var 1) .nil)) (.nm 1) (.seq (.idx (.var 0) (.con (.int 1)))) .none) [some (.v (K gs)), none] = M.pure (.list ((gs.map fun g => g.sum).map .int)) := by
    rw [x_comp (xs := gs) (enc := tup) (g := fun g => .int g.sum)]
    · simp [Function.comp_def]
    · simp [getV, k1, tups]
    · rfl
    · intro g hg
      refine ⟨_, rfl, ?_⟩
      simp [getV, wipeE, tup, bltD, un, sumD, intsOf_ints]
    · have := h.len
      simp; omega
  rw [R46]
  simp [f46, fin, execs, exec, getV, frz, frzC, call, check1_ok h, c1, bltD, un]
  rw [← List.map_map, max_list hne]
  rfl
end NS
set_option linter.all false
set_option maxRecDepth 100000
set_option maxHeartbeats 1000000
set_option exponentiation.threshold 2000
namespace NS
open Tn
open PySem (PyData Str)
/-! ### the greatest common divisor of many -/
def gl (l : List Int) : Nat := l.foldl (fun g x => Int.gcd g x) 0
theorem gl_snoc (l : List Int) (x : Int) : gl (l ++ [x]) = Int.gcd (gl l) x := by simp [gl]
theorem common_ok {a : D} {l : List Int} (ha : itemsS a = some (l.map .int)) (h : ∀ x ∈ l, 0 ≤ x) : G 35 [a] = M.pure (.int (gl l)) := by
  let st : List Int → Env := fun ys => [some (.v a), some (.v (.int (gl ys))), (ys.getLast?).map fun x => .v (.int x)]
  have lp := forL_map (f := fun d env => M.bind (M.lift (asg (.nm 2) d env)) fun e => execs (tab fs 35) (.cons (.set (.nm 1) (.call 34 (.cons (.var 1) (.cons (.var 2) .nil)))) .nil) e) (enc := .int) st (xs := l) (done := []) (by
    intro ys x zs hh
    have hx : 0 ≤ x := h x (by
      have : x ∈ ys ++ x :: zs := by simp
      rw [← hh] at this
      simpa using this)
    have e1 : asg (.nm 2) (.int x) (st ys) = some [some (.v a), some (.v (.int (gl ys))), some (.v (.int x))] := rfl
    rw [e1, lsome, bpure, exs_nx (ex_set (d := .int (gl (ys ++ [x]))) ?_ rfl), exs_nil]
    · congr 2
      simp [st]
    · simp [getV, call, divisor_ok (a := gl ys) hx, gl_snoc])
  rw [List.nil_append] at lp
  rw [R35]
  have e0 : execs (tab fs 35) f35.body [some (.v a), none, none] = M.pure (.rt (.int (gl l)), st l) := by
    refine (exs_nx (ex_set (d := .int 0) rfl rfl)).trans ((exs_nx (ex_for (xs := l.map .int) ?_ lp)).trans (exs_rt (ex_ret ?_)))
    · simp [getV, st, ha]
    · simp [frz, frzC, getV, st]
  rw [e0]
  rfl
theorem gcd_loop4 (F : Nat → List D → M D) (a : D) (z : Option Cell) : ∀ (b : Nat) (f : Nat), ∃ n, whlN (fun env => M.bind (ev F (.cmp .ne (.var 3) (.con (.int 0))) env) fun x => M.lift (truD x)) (fun env => execs F (.cons (.par [1, 3] (.cons (.var 3) (.cons (.bin .mod (.var 1) (.var 3)) .nil))) .nil) env) n
    [some (.v a), some (.v (.int f)), z, some (.v (.int b))] = M.pure (.nx, [some (.v a), some (.v (.int (Nat.gcd f b : Nat))), z, some (.v (.int 0))]) := by
  intro b
  induction b using Nat.strongRecOn with
  | ind b ih =>
    intro f
    by_cases hb : b = 0
    · subst hb
      rw [Nat.gcd_zero_right]
      refine whlN_end ?_
      simp [getV]
    · have hpos : 0 < b := by omega
      obtain h2 := ih (f % b) (Nat.mod_lt _ hpos) b
      rw [Nat.gcd_comm b, ← Nat.gcd_rec, Nat.gcd_comm b] at h2
      refine whl_step ?_ ?_ h2
      · simp [getV, hb]
      · simp [getV, execs, exec, setAll, binD, ints2, hpos]
theorem common2_ok {a : D} {l : List Int} (ha : itemsS a = some (l.map .int)) (h : ∀ x ∈ l, 0 ≤ x) : G 30 [a] = M.pure (.int (gl l)) := by
  let st : List Int → Env := fun ys => [some (.v a), some (.v (.int (gl ys))), (ys.getLast?).map fun x => .v (.int x), (ys.getLast?).map fun _ => .v (.int 0)]
  have lp := forL_map (f := fun d env => M.bind (M.lift (asg (.nm 2) d env)) fun e => execs (tab fs 30) (.cons (.set (.nm 3) (.var 2)) (.cons (.whl (.cmp .ne (.var 3) (.con (.int 0))) (.cons (.par [1, 3] (.cons (.var 3) (.cons (.bin .mod (.var 1) (.var 3)) .nil))) .nil)) .nil)) e) (enc := .int) st (xs := l) (done := []) (by
    intro ys x zs hh
    have hx : 0 ≤ x := h x (by
      have : x ∈ ys ++ x :: zs := by simp
      rw [← hh] at this
      simpa using this)
    obtain ⟨b, rfl⟩ := Int.eq_ofNat_of_zero_le hx
    have e1 : asg (.nm 2) (.int b) (st ys) = some [some (.v a), some (.v (.int (gl ys))), some (.v (.int b)), (ys.getLast?).map fun _ => .v (.int 0)] := rfl
    rw [e1, lsome, bpure, exs_nx (ex_set (env' := [some (.v a), some (.v (.int (gl ys))), some (.v (.int b)), some (.v (.int b))]) (d := .int b) rfl rfl), exs_nx (ex_whl (gcd_loop4 (tab fs 30) a _ b (gl ys))), exs_nil]
    congr 2
    simp [st, gl_snoc, Int.gcd])
  rw [List.nil_append] at lp
  rw [R30]
  have e0 : execs (tab fs 30) f30.body [some (.v a), none, none, none] = M.pure (.rt (.int (gl l)), st l) := by
    refine (exs_nx (ex_set (d := .int 0) rfl rfl)).trans ((exs_nx (ex_for (xs := l.map .int) ?_ lp)).trans (exs_rt (ex_ret ?_)))
    · simp [getV, st, ha]
    · simp [frz, frzC, getV, st]
  rw [e0]
  rfl
/-! ### garblers -/
theorem whole_ok {x lo : Int} : G 26 [.int x, .int lo] = M.pure (.bool (decide (lo ≤ x))) := by
  rw [R26]
  simp [f26, fin, execs, exec, getV, frz, frzC, isiD]
/-- a garbler of w heard words, v said ones -/
structure Gar (w v : Nat) (d : Int) (rows : List (List Int)) : Prop where
  len : rows.length = w
  w1 : 1 ≤ w
  w12 : w ≤ 12
  wid : ∀ r ∈ rows, r.length = v
  v1 : 1 ≤ v
  v12 : v ≤ 12
  nn : ∀ r ∈ rows, ∀ x ∈ r, 0 ≤ x
  sum : ∀ r ∈ rows, r.sum = d
  d1 : 1 ≤ d
  dM : d ≤ 1000000
theorem grows_ok {w v : Nat} {d : Int} {rows : List (List Int)} (h : Gar w v d rows) : G 27 [tups rows, .int d, .int 12] = M.pure (.bool true) := by
  have h1 := h.w1
  have h2 := h.w12
  have h3 := h.len
  have h4 := h.v1
  have h5 := h.v12
  obtain ⟨r0, rs, e⟩ : ∃ r0 rs, rows = r0 :: rs := by cases rows with
    | nil => simp at h3; omega
    | cons a b => exact ⟨a, b, rfl⟩
  have h0 : r0.length = v := h.wid r0 (by rw [e]; exact List.mem_cons_self)
  let st : List (List Int) → Env := fun ys => [some (.v (tups rows)), some (.v (.int d)), some (.v (.int 12)), (ys.getLast?).map fun x => .v (tup x), none]
  have i1 : idxD (tups rows) (.int 0) = some (tup r0) := by subst e; simp [tups, idxD, ixAt]
  have lp := forL_map (f := fun d env => M.bind (M.lift (asg (.nm 3) d env)) fun e => execs (tab fs 27) (.cons (.ite (.or_ (.not_ (.isi .tuple (.var 3))) (.or_ (.not_ (.cmp2 .le .le (.con (.int 1)) (.blt .len (.cons (.var 3) .nil)) (.con (.int 12)))) (.cmp .ne (.blt .len (.cons (.var 3) .nil)) (.blt .len (.cons (.idx (.var 0) (.con (.int 0))) .nil))))) (.cons (.ret (.con (.bool false)))
 .nil)
 .nil)
 (.cons (.ite (.or_ (.not_ (.blt .all (.cons (.comp [4] (.call 26 (.cons (.var 4) (.cons (.con (.int 0)) .nil))) (.nm 4) (.seq (.var 3)) .none) .nil))) (.cmp .ne (.blt .sum (.cons (.var 3) .nil)) (.var 1))) (.cons (.ret (.con (.bool false)))
 .nil)
 .nil)
 .nil)) e) (enc := tup) st (xs := rows) (done := []) (by
    intro ys r zs hh
    have hr : r ∈ rows := by
      have : r ∈ ys ++ r :: zs := by simp
      rw [← hh] at this
      simpa using this
    have hl := h.wid r hr
    have hs := h.sum r hr
    have e1 : asg (.nm 3) (tup r) (st ys) = some [some (.v (tups rows)), some (.v (.int d)), some (.v (.int 12)), some (.v (tup r)), none] := rfl
    have c1 : ev (tab fs 27) (.comp [4] (.call 26 (.cons (.var 4) (.cons (.con (.int 0)) .nil))) (.nm 4) (.seq (.var 3)) .none) [some (.v (tups rows)), some (.v (.int d)), some (.v (.int 12)), some (.v (tup r)), none] = M.pure (.list (r.map fun x => .bool (decide (0 ≤ x)))) := by
      rw [x_comp (xs := r) (enc := .int) (g := fun x => .bool (decide (0 ≤ x)))]
      · simp [getV, tup]
      · rfl
      · intro x hx
        refine ⟨_, rfl, ?_⟩
        simp [getV, wipeE, call, whole_ok]
      · simp; omega
    have a1 := allD_true (fun x : Int => decide (0 ≤ x)) r
    rw [List.all_eq_true.mpr fun x hx => decide_eq_true (h.nn r hr x hx)] at a1
    have i0 : isiD .tuple (tup r) = some true := rfl
    have l0 : lenD (tup r) = some (.int v) := by simp [tup, hl]
    have l1 : lenD (tup r0) = some (.int v) := by simp [tup, h0]
    have s0 : sumD (tup r) = some (.int d) := by simp [sumD, tup, intsOf_ints, hs]
    rw [e1, lsome, bpure]
    simp [execs, exec, getV, i0, l0, l1, i1, s0, bltD, un, c1, a1, st, show (1 : Int) ≤ v by omega, show (v : Int) ≤ 12 by omega])
  rw [List.nil_append] at lp
  have i0 : isiD .tuple (tups rows) = some true := rfl
  have l0 : lenD (tups rows) = some (.int w) := by simp [tups, h3]
  rw [R27]
  have e0 : execs (tab fs 27) f27.body [some (.v (tups rows)), some (.v (.int d)), some (.v (.int 12)), none, none] = M.pure (.rt (.bool true), st rows) := by
    refine (exs_nx (env' := st []) ?_).trans ((exs_nx (ex_for (xs := rows.map tup) ?_ lp)).trans (exs_rt (ex_ret ?_)))
    · simp [exec, execs, getV, i0, l0, bltD, un, st, show (1 : Int) ≤ w by omega, show (w : Int) ≤ 12 by omega]
    · simp [getV, st, tups]
    · simp
  rw [e0]
  rfl
theorem garbler_ok {w v : Nat} {d : Int} {rows : List (List Int)} (h : Gar w v d rows) : G 28 [Gb d rows] = M.pure (.bool true) := by
  have h1 := h.d1
  have q : eqD (.str "garbler") (.str "garbler") = some true := by decide +kernel
  rw [R28]
  simp [f28, fin, execs, exec, getV, frz, frzC, Gb, isiD, q, idxD, ixAt, bltD, un, call, whole_ok, grows_ok h, h1]
theorem check_garbler_ok {n w v : Nat} {d e : Int} {rows g : List (List Int)} (h : Tel n w d rows) (hg : Gar w v e g) : G 29 [T d rows, Gb e g] = M.pure .none := by
  obtain ⟨r0, rs, he, h0⟩ := h.tab.cons
  have i1 : idxD (T d rows) (.int 2) = some (tups rows) := rfl
  have i2 : idxD (tups rows) (.int 0) = some (tup r0) := by subst he; simp [tups, idxD, ixAt]
  have i3 : lenD (tup r0) = some (.int w) := by simp [tup, h0]
  have i4 : idxD (Gb e g) (.int 2) = some (tups g) := rfl
  have i5 : lenD (tups g) = some (.int w) := by simp [tups, hg.len]
  rw [R29]
  simp [f29, fin, execs, exec, getV, call, garbler_ok hg, i1, i2, i3, i4, i5, bltD, un]
end NS
set_option linter.all false
set_option maxRecDepth 100000
set_option maxHeartbeats 1000000
set_option exponentiation.threshold 2000
namespace NS
open Tn
open PySem (PyData Str)
def prod (w v : Nat) (rows g : List (List Int)) : List (List Int) := rows.map fun r => (List.range v).map fun z => ((List.range w).map fun y => r.getD y 0 * (g.getD y []).getD z 0).sum
theorem getD_mem {r : List Int} {k : Nat} (h : k < r.length) : r.getD k 0 ∈ r := by
  rw [List.getD_eq_getElem?_getD, List.getElem?_eq_getElem h]
  exact List.getElem_mem h
theorem getD_memL {r : List (List Int)} {k : Nat} (h : k < r.length) : r.getD k [] ∈ r := by
  rw [List.getD_eq_getElem?_getD, List.getElem?_eq_getElem h]
  exact List.getElem_mem h
theorem product_ok {w v : Nat} {rows g : List (List Int)} (h : Tab w rows) (hg : Tab v g) (hl : g.length = w) : G 32 [tups rows, tups g] = M.pure (tups (prod w v rows g)) := by
  have h1 := h.wlen
  have h2 := h.len
  have h3 := hg.wlen
  obtain ⟨g0, gr, eg, h0⟩ := hg.cons
  let st : List (List Int) → Env := fun ys => [some (.v (tups rows)), some (.v (tups g)), some (.own ((prod w v ys g).map tup)), (ys.getLast?).map fun r => .v (tup r), none, none]
  have i1 : idxD (tups g) (.int 0) = some (tup g0) := by subst eg; simp [tups, idxD, ixAt]
  have i2 : lenD (tup g0) = some (.int v) := by simp [tup, h0]
  have lp := forL_map (f := fun d env => M.bind (M.lift (asg (.nm 3) d env)) fun e => execs (tab fs 32) (.cons (.append 2 (.blt .tuple (.cons (.comp [5] (.blt .sum (.cons (.comp [4] (.bin .mul (.idx (.var 3) (.var 4)) (.idx (.idx (.var 1) (.var 4)) (.var 5))) (.nm 4) (.rng1 (.blt .len (.cons (.var 3) .nil))) .none) .nil)) (.nm 5) (.rng1 (.blt .len (.cons (.idx (.var 1) (.con (.int 0))) .nil))) .none) .nil)))
 .nil) e) (enc := tup) st (xs := rows) (done := []) (by
    intro ys r zs hh
    have hr : r ∈ rows := by
      have : r ∈ ys ++ r :: zs := by simp
      rw [← hh] at this
      simpa using this
    have hyl : ys.length < rows.length := by
      have := congrArg List.length hh
      simp at this
      omega
    have hl' := h.wid r hr
    have e1 : asg (.nm 3) (tup r) (st ys) = some [some (.v (tups rows)), some (.v (tups g)), some (.own ((prod w v ys g).map tup)), some (.v (tup r)), none, none] := rfl
    have c1 : ev (tab fs 32) (.blt .tuple (.cons (.comp [5] (.blt .sum (.cons (.comp [4] (.bin .mul (.idx (.var 3) (.var 4)) (.idx (.idx (.var 1) (.var 4)) (.var 5))) (.nm 4) (.rng1 (.blt .len (.cons (.var 3) .nil))) .none) .nil)) (.nm 5) (.rng1 (.blt .len (.cons (.idx (.var 1) (.con (.int 0))) .nil))) .none) .nil)) [some (.v (tups rows)), some (.v (tups g)), some (.own ((prod w v ys g).map tup)), some (.v (tup r)), none, none] =
        M.pure (tup ((List.range v).map fun z => ((List.range w).map fun y => r.getD y 0 * (g.getD y []).getD z 0).sum)) := by
      rw [x_blt, xs_cons, x_comp (xs := List.range v) (enc := fun (z : Nat) => .int z) (g := fun z => .int ((List.range w).map fun y => r.getD y 0 * (g.getD y []).getD z 0).sum)]
      · simp [bltD, un, tup, Function.comp_def]
      · simp [getV, i1, i2, bltD, un, intOf, rngL, show -16777216 ≤ (v : Int) by omega, show (v : Int) ≤ 16777216 by omega]
      · rfl
      · intro z hz
        refine ⟨_, rfl, ?_⟩
        rw [x_blt, xs_cons, x_comp (xs := List.range w) (enc := fun (y : Nat) => .int y) (g := fun y => .int (r.getD y 0 * (g.getD y []).getD z 0))]
        · simp only [bpure, xs_nil, bltD, un, sumD, ito_l, Option.bind_some, intsOf_map, Option.map_some, lsome]
        · have : lenD (tup r) = some (.int w) := by simp [tup, hl']
          simp [getV, wipeE, this, bltD, un, intOf, rngL, show -16777216 ≤ (w : Int) by omega, show (w : Int) ≤ 16777216 by omega]
        · rfl
        · intro y hy
          have hy' : y < w := by simpa using hy
          have hz' : z < v := by simpa using hz
          have m1 : idxD (tup r) (.int y) = some (.int (r.getD y 0)) := by simp [tup, idxD, ixAt, hl', hy', List.getD_eq_getElem?_getD]
          have m2 : idxD (tups g) (.int y) = some (tup (g.getD y [])) := by simp [tups, idxD, ixAt, hl, hy', List.getD_eq_getElem?_getD]
          have hw : (g.getD y []).length = v := hg.wid _ (getD_memL (by omega))
          have m3 : idxD (tup (g.getD y [])) (.int z) = some (.int ((g.getD y []).getD z 0)) := by
            generalize g.getD y [] = q at hw
            simp [tup, idxD, ixAt, hw, hz', List.getD_eq_getElem?_getD]
          have m4 : mulOk (r.getD y 0) ((g.getD y []).getD z 0) = true := by
            have a1 := h.sm r hr _ (getD_mem (r := r) (k := y) (by omega))
            have a2 := hg.sm _ (getD_memL (r := g) (k := y) (by omega)) _ (getD_mem (k := z) (by rw [hw]; exact hz'))
            have := pow_mono
            exact mulOk_sm (by omega) (by omega)
          refine ⟨_, rfl, ?_⟩
          generalize (g.getD y []).getD z 0 = b at m3 m4 ⊢
          generalize r.getD y 0 = a at m1 m4 ⊢
          generalize g.getD y [] = q at m2 m3
          simp [getV, wipeE, m1, m2, m3, binD, mulD, m4]
        · simp; omega
      · simp; omega
    rw [e1, lsome, bpure, exs_nx (ex_append rfl c1 (by rw [List.length_map]; simp [prod]; omega)), exs_nil]
    congr 2
    simp [st, prod])
  rw [List.nil_append] at lp
  rw [R32]
  have e0 : execs (tab fs 32) f32.body [some (.v (tups rows)), some (.v (tups g)), none, none, none, none] = M.pure (.rt (tups (prod w v rows g)), st rows) := by
    refine (exs_nx (ex_own (xs := []) ?_ (by simp))).trans ((exs_nx (ex_for (xs := rows.map tup) ?_ lp)).trans (exs_rt (ex_ret ?_)))
    · simp
    · simp [getV, st, tups]
    · simp [frz, frzC, getV, st, bltD, un, tups]
  rw [e0]
  rfl
/-! ### lowered -/
def low (b : Int) (rows : List (List Int)) : List (List Int) := rows.map fun r => r.map fun x => x / b
def byOf (d : Int) (rows : List (List Int)) : Nat := gl (d :: rows.flatMap fun r => r)
theorem gl_dvd : ∀ (l : List Int) (g : Nat), (l.foldl (fun g x => Int.gcd g x) g) ∣ g ∧ ∀ x ∈ l, ((l.foldl (fun g x => Int.gcd g x) g : Nat) : Int) ∣ x
  | [], g => ⟨Nat.dvd_refl _, fun x hx => by simp at hx⟩
  | y :: ys, g => by
    obtain ⟨h1, h2⟩ := gl_dvd ys (Int.gcd g y)
    rw [List.foldl_cons]
    have d1 : Int.gcd g y ∣ g := by
      have := Int.gcd_dvd_left (a := (g : Int)) (b := y)
      exact Int.natCast_dvd_natCast.mp this
    refine ⟨Nat.dvd_trans h1 d1, fun x hx => ?_⟩
    rcases List.mem_cons.mp hx with rfl | hx
    · exact Int.dvd_trans (Int.natCast_dvd_natCast.mpr h1) (Int.gcd_dvd_right ..)
    · exact h2 x hx
theorem byOf_dvd {d : Int} {rows : List (List Int)} : (byOf d rows : Int) ∣ d ∧ ∀ r ∈ rows, ∀ x ∈ r, (byOf d rows : Int) ∣ x := by
  have := (gl_dvd (d :: rows.flatMap fun r => r) 0).2
  exact ⟨this d List.mem_cons_self, fun r hr x hx => this x (List.mem_cons_of_mem _ (List.mem_flatMap.mpr ⟨r, hr, hx⟩))⟩
theorem byOf_pos {d : Int} {rows : List (List Int)} (h : 0 < d) : 0 < byOf d rows ∧ (byOf d rows : Int) ≤ d := by
  obtain ⟨h1, _⟩ := byOf_dvd (d := d) (rows := rows)
  have h2 := Int.le_of_dvd h h1
  refine ⟨?_, h2⟩
  rcases Nat.eq_zero_or_pos (byOf d rows) with z | z
  · rw [z] at h1
    have := Int.zero_dvd.mp h1
    omega
  · exact z
theorem flat_ok {d : Int} {rows : List (List Int)} : (d :: rows.flatMap fun r => r).map (PyData.int : Int → D) = .int d :: (rows.flatMap fun r => r.map .int) := by
  rw [List.map_cons, List.map_flatMap]
theorem lowered_ok {d : Int} {w : Nat} {rows : List (List Int)} (hn : rows.length ≤ 1000) (hw : ∀ r ∈ rows, r.length ≤ 1000) (nn : ∀ r ∈ rows, ∀ x ∈ r, 0 ≤ x) (hd : 0 < d) (hs : d.natAbs < 2 ^ 1000) : G 31 [.int d, tups rows] = M.pure (.tuple [.int (d / byOf d rows), tups (low (byOf d rows) rows)]) := by
  have hfl : (rows.flatMap fun r => r).length ≤ 1000 * 1000 := Nat.le_trans (flat_len (k := 1000) hw) (Nat.mul_le_mul_right _ hn)
  have hfl2 : (rows.flatMap fun r => r.map (PyData.int : Int → D)).length = (rows.flatMap fun r => r).length := by
    rw [List.length_flatMap, List.length_flatMap]
    simp
  have c1 : ev (tab fs 31) (.comp2 [3, 4] [4] (.var 4) (.nm 3) (.seq (.var 1)) (.nm 4) (.seq (.var 3))) [some (.v (.int d)), some (.v (tups rows)), none, none, none] = M.pure (.list (rows.flatMap fun r => r.map .int)) := by
    rw [x_comp2 (xs := rows) (enc := tup) (ys := fun r => r) (enc1 := .int) (g := fun _ x => .int x)]
    · simp [getV, tups]
    · rfl
    · intro r hr
      refine ⟨_, rfl, ?_, rfl, fun x hx => ⟨_, rfl, ?_⟩⟩
      · simp [getV, wipeE, tup]
      · simp [getV, wipeE]
    · rw [hfl2]; simp; simp at hfl; omega
  obtain ⟨p1, p2⟩ := byOf_pos (d := d) (rows := rows) hd
  have cm := common2_ok (a := .list (.int d :: (rows.flatMap fun r => r.map .int))) (l := d :: rows.flatMap fun r => r) (by rw [flat_ok]; rfl) (by
    intro x hx
    rcases List.mem_cons.mp hx with rfl | hx
    · omega
    · obtain ⟨r, hr, hx⟩ := List.mem_flatMap.mp hx
      exact nn r hr x hx)
  have hdiv : divOk (byOf d rows : Int) = true := divOk_sm (by omega) (by omega)
  have e1 : addD (.list [.int d]) (.list (rows.flatMap fun r => r.map .int)) = some (.list (.int d :: (rows.flatMap fun r => r.map .int))) := by
    have : ∀ a b : List D, addD (.list a) (.list b) = if a.length + b.length ≤ big then some (.list (a ++ b)) else none := fun _ _ => rfl
    rw [this, if_pos (by rw [hfl2]; simp; simp at hfl; omega)]
    rfl
  have cm : G 30 [.list (.int d :: (rows.flatMap fun r => r.map .int))] = M.pure (.int (byOf d rows)) := cm
  generalize hq : (rows.flatMap fun r => r.map (PyData.int : Int → D)) = fl at c1 e1 cm
  have c2 : ev (tab fs 31) (.comp [3] (.blt .tuple (.cons (.comp [4] (.bin .fdiv (.var 4) (.var 2)) (.nm 4) (.seq (.var 3)) .none) .nil)) (.nm 3) (.seq (.var 1)) .none) [some (.v (.int d)), some (.v (tups rows)), some (.v (.int (byOf d rows))), none, none] = M.pure (.list ((low (byOf d rows) rows).map tup)) := by
    rw [x_comp (xs := rows) (enc := tup) (g := fun r => tup (r.map fun x => x / byOf d rows))]
    · simp [low, Function.comp_def]
    · simp [getV, tups]
    · rfl
    · intro r hr
      refine ⟨_, rfl, ?_⟩
      rw [x_blt, xs_cons, x_comp (xs := r) (enc := .int) (g := fun x => .int (x / byOf d rows))]
      · simp [bltD, un, tup, Function.comp_def]
      · simp [getV, wipeE, tup]
      · rfl
      · intro x hx
        refine ⟨_, rfl, ?_⟩
        simp [getV, wipeE, binD, ints2, hdiv]
      · have := hw r hr
        simp; omega
    · simp; omega
  rw [R31]
  simp [f31, fin, execs, exec, getV, frz, frzC, asg, c1, binD, e1, call, cm, c2, ints2, hdiv, bltD, un]
  rfl
end NS
set_option linter.all false
set_option maxRecDepth 100000
set_option maxHeartbeats 1000000
set_option exponentiation.threshold 2000
namespace NS
open Tn
open PySem (PyData Str)
theorem Gar.tab {w v : Nat} {d : Int} {rows : List (List Int)} (h : Gar w v d rows) : Tab v rows := by
  have := h.w1
  have := h.w12
  have := h.v12
  refine ⟨fun z => ?_, by rw [h.len]; omega, h.wid, by omega, fun r hr x hx => ?_⟩
  · have := h.len
    rw [z] at this
    simp at this
    omega
  · have h1 := (le_sum (h.nn r hr)).2 x hx
    have h2 := h.nn r hr x hx
    rw [h.sum r hr] at h1
    have h3 := h.dM
    have h4 : (1000000 : Nat) < 2 ^ 200 := by decide
    omega
theorem sum_nn {l : List Int} (h : ∀ x ∈ l, 0 ≤ x) : 0 ≤ l.sum := (le_sum h).1
theorem prod_nn {n w v : Nat} {d e : Int} {rows g : List (List Int)} (h : Tel n w d rows) (hg : Gar w v e g) : ∀ r ∈ prod w v rows g, ∀ x ∈ r, 0 ≤ x := by
  intro r hr x hx
  obtain ⟨r0, h0, rfl⟩ := List.mem_map.mp hr
  obtain ⟨z, hz, rfl⟩ := List.mem_map.mp hx
  refine sum_nn fun y hy => ?_
  obtain ⟨k, hk, rfl⟩ := List.mem_map.mp hy
  have hk' : k < w := by simpa using hk
  have hz' : z < v := by simpa using hz
  have q1 := h.nn r0 h0 _ (getD_mem (r := r0) (k := k) (by rw [h.wid r0 h0]; exact hk'))
  have hgm := getD_memL (r := g) (k := k) (by rw [hg.len]; exact hk')
  have q2 := hg.nn _ hgm _ (getD_mem (k := z) (by rw [hg.wid _ hgm]; exact hz'))
  exact Int.mul_nonneg q1 q2
/-- the heard teller -/
theorem garbled_ok {n w v : Nat} {d e : Int} {rows g : List (List Int)} (h : Tel n w d rows) (hg : Gar w v e g) (hde : d * e ≤ 1000000000000000000000000000000) :
    G 33 [T d rows, Gb e g] = M.pure (T (d * e / byOf (d * e) (prod w v rows g)) (low (byOf (d * e) (prod w v rows g)) (prod w v rows g))) := by
  have h1 := h.d1
  have h2 := h.dM
  have h3 := hg.d1
  have h4 := hg.dM
  have hpos : 0 < d * e := Int.mul_pos (by omega) (by omega)
  have hbig : (1000000000000000000000000000000 : Nat) < 2 ^ 200 := by decide
  have := pow_mono
  have ml : mulOk d e = true := mulOk_sm (by omega) (by omega)
  have i1 : idxD (T d rows) (.int 1) = some (.int d) := rfl
  have i2 : idxD (T d rows) (.int 2) = some (tups rows) := rfl
  have i3 : idxD (Gb e g) (.int 1) = some (.int e) := rfl
  have i4 : idxD (Gb e g) (.int 2) = some (tups g) := rfl
  have pr := product_ok h.tab hg.tab hg.len
  have hn : (prod w v rows g).length ≤ 1000 := by
    unfold prod
    rw [List.length_map]
    exact h.tab.len
  have hw : ∀ r ∈ prod w v rows g, r.length ≤ 1000 := by
    intro r hr
    obtain ⟨r0, h0, rfl⟩ := List.mem_map.mp hr
    rw [List.length_map, List.length_range]
    have := hg.v12
    omega
  have lo := lowered_ok (w := v) hn hw (prod_nn h hg) hpos (by omega)
  have hle : ¬ (1000000000000000000000000000000 < d * e / byOf (d * e) (prod w v rows g)) := by
    obtain ⟨p1, p2⟩ := byOf_pos (d := d * e) (rows := prod w v rows g) hpos
    have := Int.ediv_le_self (a := d * e) (byOf (d * e) (prod w v rows g)) (Int.le_of_lt hpos)
    omega
  generalize d * e / byOf (d * e) (prod w v rows g) = d' at lo hle ⊢
  generalize low (byOf (d * e) (prod w v rows g)) (prod w v rows g) = rows' at lo ⊢
  rw [R33]
  simp [f33, fin, execs, exec, getV, frz, frzC, asg, asgs, call, teller_ok h, check_garbler_ok h hg, i1, i2, i3, i4, binD, mulD, ml, pr, lo, hle]
  rfl
/-! ### made, directions -/
theorem made_ok {d : Int} {w : Nat} {rows : List (List Int)} (h : Tab w rows) (hw : w ≤ 12) (nn : ∀ r ∈ rows, ∀ x ∈ r, 0 ≤ x) (hd : 0 < d) (hdM : d ≤ 1000000000000000000000000000000) : G 37 [.int d, tups rows] = M.pure (T (d / byOf d rows) (low (byOf d rows) rows)) := by
  obtain ⟨r0, rs, e, h0⟩ := h.cons
  have hn := h.len
  have hw' : ∀ r ∈ rows, r.length ≤ 1000 := fun r hr => by rw [h.wid r hr]; omega
  have hbig : (1000000000000000000000000000000 : Nat) < 2 ^ 200 := by decide
  have := pow_mono
  have i1 : idxD (tups rows) (.int 0) = some (tup r0) := by subst e; simp [tups, idxD, ixAt]
  have i2 : lenD (tup r0) = some (.int w) := by simp [tup, h0]
  have hfl : (rows.flatMap fun r => r).length ≤ 1000 * 1000 := Nat.le_trans (flat_len (k := 1000) hw') (Nat.mul_le_mul_right _ hn)
  have hfl2 : (rows.flatMap fun r => r.map (PyData.int : Int → D)).length = (rows.flatMap fun r => r).length := by
    rw [List.length_flatMap, List.length_flatMap]
    simp
  have c1 : ev (tab fs 37) (.comp2 [3, 4] [4] (.var 4) (.nm 3) (.seq (.var 1)) (.nm 4) (.seq (.var 3))) [some (.v (.int d)), some (.v (tups rows)), none, none, none] = M.pure (.list (rows.flatMap fun r => r.map .int)) := by
    rw [x_comp2 (xs := rows) (enc := tup) (ys := fun r => r) (enc1 := .int) (g := fun _ x => .int x)]
    · simp [getV, tups]
    · rfl
    · intro r hr
      refine ⟨_, rfl, ?_, rfl, fun x hx => ⟨_, rfl, ?_⟩⟩
      · simp [getV, wipeE, tup]
      · simp [getV, wipeE]
    · rw [hfl2]; simp; simp at hfl; omega
  obtain ⟨p1, p2⟩ := byOf_pos (d := d) (rows := rows) hd
  have cm := common_ok (a := .list (.int d :: (rows.flatMap fun r => r.map .int))) (l := d :: rows.flatMap fun r => r) (by rw [flat_ok]; rfl) (by
    intro x hx
    rcases List.mem_cons.mp hx with rfl | hx
    · omega
    · obtain ⟨r, hr, hx⟩ := List.mem_flatMap.mp hx
      exact nn r hr x hx)
  have hdiv : divOk (byOf d rows : Int) = true := divOk_sm (by omega) (by omega)
  have e1 : addD (.list [.int d]) (.list (rows.flatMap fun r => r.map .int)) = some (.list (.int d :: (rows.flatMap fun r => r.map .int))) := by
    have : ∀ a b : List D, addD (.list a) (.list b) = if a.length + b.length ≤ big then some (.list (a ++ b)) else none := fun _ _ => rfl
    rw [this, if_pos (by rw [hfl2]; simp; simp at hfl; omega)]
    rfl
  have cm : G 35 [.list (.int d :: (rows.flatMap fun r => r.map .int))] = M.pure (.int (byOf d rows)) := cm
  generalize hq : (rows.flatMap fun r => r.map (PyData.int : Int → D)) = fl at c1 e1 cm
  have c2 : ev (tab fs 37) (.comp [3] (.blt .tuple (.cons (.comp [4] (.bin .fdiv (.var 4) (.var 2)) (.nm 4) (.seq (.var 3)) .none) .nil)) (.nm 3) (.seq (.var 1)) .none) [some (.v (.int d)), some (.v (tups rows)), some (.v (.int (byOf d rows))), none, none] = M.pure (.list ((low (byOf d rows) rows).map tup)) := by
    rw [x_comp (xs := rows) (enc := tup) (g := fun r => tup (r.map fun x => x / byOf d rows))]
    · simp [low, Function.comp_def]
    · simp [getV, tups]
    · rfl
    · intro r hr
      refine ⟨_, rfl, ?_⟩
      rw [x_blt, xs_cons, x_comp (xs := r) (enc := .int) (g := fun x => .int (x / byOf d rows))]
      · simp [bltD, un, tup, Function.comp_def]
      · simp [getV, wipeE, tup]
      · rfl
      · intro x hx
        refine ⟨_, rfl, ?_⟩
        simp [getV, wipeE, binD, ints2, hdiv]
      · have := hw' r hr
        simp; omega
    · simp; omega
  have hle : ¬ (1000000000000000000000000000000 < d / byOf d rows) := by
    have := Int.ediv_le_self (a := d) (byOf d rows) (Int.le_of_lt hd)
    omega
  rw [R37]
  simp [f37, fin, execs, exec, getV, frz, frzC, asg, i1, i2, c1, binD, e1, call, cm, c2, ints2, hdiv, hle, bltD, un, show ¬ (12 : Int) < w by omega]
  rfl
def dir (c : List Int) : List Int := c.map fun x => x / gl c
theorem gl_zero : ∀ {l : List Int}, (∀ x ∈ l, x = 0) → gl l = 0 := by
  intro l
  unfold gl
  induction l with
  | nil => intro _; rfl
  | cons x xs ih =>
    intro h
    rw [List.foldl_cons, h x List.mem_cons_self]
    exact ih fun y hy => h y (List.mem_cons_of_mem _ hy)
theorem direction_ok {c : List Int} (h : ∀ x ∈ c, 0 ≤ x) (hs : Sml c) : G 36 [tup c] = M.pure (if 0 < gl c then tup (dir c) else .none) := by
  have cm := common_ok (a := tup c) (l := c) rfl h
  rw [R36]
  by_cases hg : 0 < gl c
  · have hdiv : divOk (gl c : Int) = true := by
      have : ∃ x ∈ c, 0 < x := by
        by_cases z : ∃ x ∈ c, 0 < x
        · exact z
        · exfalso
          have hz : ∀ x ∈ c, x = 0 := fun x hx => by
            have := h x hx
            by_cases q : 0 < x
            · exact absurd ⟨x, hx, q⟩ z
            · omega
          have := gl_zero hz
          omega
      obtain ⟨x, hx, hp⟩ := this
      have hd := (gl_dvd c 0).2 x hx
      have hle := Int.le_of_dvd hp hd
      have h5 := hs.2 x hx
      have := pow_mono
      have e : (c.foldl (fun g x => Int.gcd g x) 0) = gl c := rfl
      rw [e] at hle
      exact divOk_sm (by omega) (by omega)
    have c1 : ev (tab fs 36) (.comp [2] (.bin .fdiv (.var 2) (.var 1)) (.nm 2) (.seq (.var 0)) .none) [some (.v (tup c)), some (.v (.int (gl c))), none] = M.pure (.list ((dir c).map .int)) := by
      rw [x_comp (xs := c) (enc := .int) (g := fun x => .int (x / gl c))]
      · simp [dir, Function.comp_def]
      · simp [getV, tup]
      · rfl
      · intro x hx
        refine ⟨_, rfl, ?_⟩
        simp [getV, wipeE, binD, ints2, hdiv]
      · have := hs.1
        simp; omega
    simp [f36, fin, execs, exec, getV, frz, frzC, asg, call, cm, hg, c1, bltD, un]
    rfl
  · have hg0 : gl c = 0 := by omega
    simp [f36, fin, execs, exec, getV, frz, frzC, asg, call, cm, hg0]
end NS
set_option linter.all false
set_option maxRecDepth 100000
set_option maxHeartbeats 1000000
set_option exponentiation.threshold 2000
namespace NS
open Tn
open PySem (PyData Str)
abbrev KV := List (List Int × List Int)
def lookI (kvs : KV) (k : List Int) : Option (List Int) := (kvs.find? fun kv => decide (kv.1 = k)).map (·.2)
def putI (kvs : KV) (k x : List Int) : KV := if kvs.any (fun kv => decide (kv.1 = k)) then kvs.map (fun kv => if kv.1 = k then (k, x) else kv) else kvs ++ [(k, x)]
def encK (kvs : KV) : List (List Int × D) := kvs.map fun kv => (kv.1, tup kv.2)
theorem lookD_enc (kvs : KV) (k : List Int) : lookD (encK kvs) k = (lookI kvs k).map tup := by
  unfold lookD lookI encK
  rw [List.find?_map]
  simp only [Option.map_map]
  rfl
theorem putD_enc (kvs : KV) (k x : List Int) : putD (encK kvs) k (tup x) = encK (putI kvs k x) := by
  unfold putD putI encK
  rw [List.any_map]
  have e : ((fun kv : List Int × D => decide (kv.1 = k)) ∘ fun kv : List Int × List Int => (kv.1, tup kv.2)) = fun kv : List Int × List Int => decide (kv.1 = k) := rfl
  rw [e]
  split
  · rw [List.map_map, List.map_map]
    apply List.map_congr_left
    intro kv _
    simp only [Function.comp]
    split <;> rfl
  · rw [List.map_append]
    rfl
def stepK (kvs : KV) (c : List Int) : KV := if 0 < gl c then putI kvs (dir c) (addv ((lookI kvs (dir c)).getD (List.replicate c.length 0)) c) else kvs
def foundK (cs : List (List Int)) : KV := cs.foldl stepK []
/-- what a book of columns is: keys and values of one length -/
def OkK (n : Nat) (kvs : KV) : Prop := ∀ kv ∈ kvs, kv.1.length = n ∧ kv.2.length = n
theorem look_mem {kvs : KV} {k v : List Int} (h : lookI kvs k = some v) : (k, v) ∈ kvs := by
  unfold lookI at h
  obtain ⟨kv, h1, h2⟩ := Option.map_eq_some_iff.mp h
  have h3 : decide (kv.1 = k) = true := List.find?_some (p := fun kv : List Int × List Int => decide (kv.1 = k)) h1
  have h3 := of_decide_eq_true h3
  have h4 := List.mem_of_find?_eq_some h1
  obtain ⟨a, b⟩ := kv
  subst h2 h3
  exact h4
theorem put_mem {kvs : KV} {k x : List Int} {kv : List Int × List Int} (h : kv ∈ putI kvs k x) : kv = (k, x) ∨ kv ∈ kvs := by
  unfold putI at h
  split at h
  · obtain ⟨kv', h1, h2⟩ := List.mem_map.mp h
    split at h2
    · exact .inl h2.symm
    · exact .inr (h2 ▸ h1)
  · rcases List.mem_append.mp h with h | h
    · exact .inr h
    · exact .inl (by simpa using h)
theorem put_len (kvs : KV) (k x : List Int) : (putI kvs k x).length ≤ kvs.length + 1 := by
  unfold putI
  split
  · simp
  · simp
theorem addv_len {a b : List Int} (h : a.length = b.length) : (addv a b).length = b.length := by
  unfold addv
  rw [List.length_map, List.length_zip, h, Nat.min_self]
theorem step_ok {n : Nat} {kvs : KV} {c : List Int} (h : OkK n kvs) (hc : c.length = n) : OkK n (stepK kvs c) ∧ (stepK kvs c).length ≤ kvs.length + 1 := by
  unfold stepK
  split
  · refine ⟨fun kv hkv => ?_, put_len _ _ _⟩
    rcases put_mem hkv with rfl | hkv
    · refine ⟨by unfold dir; rw [List.length_map]; exact hc, ?_⟩
      refine (addv_len ?_).trans hc
      cases q : lookI kvs (dir c) with
      | none => simp
      | some v => rw [hc]; exact (h _ (look_mem q)).2
    · exact h kv hkv
  · exact ⟨h, Nat.le_succ _⟩
theorem found_ok {n : Nat} : ∀ {cs : List (List Int)}, (∀ c ∈ cs, c.length = n) → OkK n (foundK cs) ∧ (foundK cs).length ≤ cs.length := by
  intro cs
  have go : ∀ (cs : List (List Int)) (kvs : KV), OkK n kvs → (∀ c ∈ cs, c.length = n) → OkK n (cs.foldl stepK kvs) ∧ (cs.foldl stepK kvs).length ≤ kvs.length + cs.length := by
    intro cs
    induction cs with
    | nil => intro kvs h _; exact ⟨h, Nat.le_add_right _ _⟩
    | cons c cs ih =>
      intro kvs h hc
      obtain ⟨h1, h2⟩ := step_ok h (hc c List.mem_cons_self)
      obtain ⟨h3, h4⟩ := ih (stepK kvs c) h1 fun x hx => hc x (List.mem_cons_of_mem _ hx)
      rw [List.foldl_cons, List.length_cons]
      exact ⟨h3, by omega⟩
  intro hc
  have := go cs [] (fun _ h => by simp at h) hc
  simpa [foundK] using this
/-- the columns that are left -/
def left (kvs : KV) : List (List Int) := ((kvs.map (·.1)).mergeSort lexLe).map fun k => (lookI kvs k).getD []
theorem tupOf_tup (k : List Int) : tupOf (tup k) = some k := by simp [tupOf, tup, intsOf_ints]
theorem look_key {kvs : KV} {k : List Int} (h : k ∈ kvs.map (·.1)) : ∃ v, lookI kvs k = some v := by
  obtain ⟨kv, h1, rfl⟩ := List.mem_map.mp h
  unfold lookI
  cases q : kvs.find? fun kv' => decide (kv'.1 = kv.1) with
  | some v => exact ⟨v.2, rfl⟩
  | none =>
    have := List.find?_eq_none.mp q kv h1
    simp at this
def turned (n : Nat) (cs : List (List Int)) : List (List Int) := (List.range n).map fun x => cs.map fun c => c.getD x 0
theorem plain_of_ok {d : Int} {n : Nat} {cs : List (List Int)} (n1 : 1 ≤ n) (n2 : n ≤ 1000) (hl : cs.length ≤ 1000) (hc : ∀ c ∈ cs, c.length = n) (nn : ∀ c ∈ cs, ∀ x ∈ c, 0 ≤ x) (sm : ∀ c ∈ cs, Sml c) (hne : foundK cs ≠ []) :
    G 38 [.int d, .list (cs.map tup)] = G 37 [.int d, tups (turned n (left (foundK cs)))] := by
  obtain ⟨ok, okl⟩ := found_ok hc
  let I : Nat → Env → Prop := fun i env => ∃ a3 a4 a5 : Option D, env = [some (.v (.int d)), some (.v (.list (cs.map tup))), some (.dic (encK (foundK (cs.take i)))), a3.map .v, a4.map .v, a5.map .v, none, none, none, none]
  have lp := forL_inv (f := fun d env => M.bind (M.lift (asg (.nm 3) d env)) fun e => execs (tab fs 38) (.cons (.set (.nm 4) (.call 36 (.cons (.var 3) .nil)))
 (.cons (.ite (.cmp .isntN (.var 4) (.con .none)) (.cons (.set (.nm 5) (.dget 2 (.var 4) (.bin .mul (.tup (.cons (.con (.int 0)) .nil)) (.blt .len (.cons (.var 3) .nil)))))
 (.cons (.dset 2 (.var 4) (.blt .tuple (.cons (.comp [6, 7] (.bin .add (.var 6) (.var 7)) (.tp (.cons (.nm 6) (.cons (.nm 7) .nil))) (.zip2 (.var 5) (.var 3)) .none) .nil)))
 .nil))
 .nil)
 .nil)) e) I (xs := cs.map tup) (n := 0) (env := [some (.v (.int d)), some (.v (.list (cs.map tup))), some (.dic []), none, none, none, none, none, none, none]) ⟨none, none, none, rfl⟩ (by
    rintro i env x hx ⟨a3, a4, a5, rfl⟩
    rw [Nat.zero_add] at *
    rw [List.getElem?_map] at hx
    obtain ⟨c, hc1, rfl⟩ := Option.map_eq_some_iff.mp hx
    have hcm := List.mem_of_getElem? hc1
    have hi := (List.getElem?_eq_some_iff.mp hc1).1
    have htk : cs.take (i + 1) = cs.take i ++ [c] := by rw [List.take_succ, hc1]; rfl
    have hf : foundK (cs.take (i + 1)) = stepK (foundK (cs.take i)) c := by
      unfold foundK
      rw [htk, List.foldl_append]
      rfl
    obtain ⟨ok1, okl1⟩ := found_ok (n := n) (cs := cs.take i) fun c hc' => hc c (List.mem_of_mem_take hc')
    generalize foundK (cs.take i) = kvs at ok1 okl1 hf
    have okl2 : kvs.length ≤ 1000 := by
      rw [List.length_take] at okl1
      omega
    have dr := direction_ok (nn c hcm) (sm c hcm)
    have hcl := hc c hcm
    by_cases hg : 0 < gl c
    · rw [if_pos hg] at dr
      have hf : foundK (cs.take (i + 1)) = putI kvs (dir c) (addv ((lookI kvs (dir c)).getD (List.replicate c.length 0)) c) := by
        rw [hf]
        unfold stepK
        rw [if_pos hg]
      have hkn : ((lookD (encK kvs) (dir c)).getD (tup (List.replicate n 0))) = tup ((lookI kvs (dir c)).getD (List.replicate n 0)) := by
        rw [lookD_enc]
        cases lookI kvs (dir c) <;> rfl
      rw [hcl] at hf
      have hkl : ((lookI kvs (dir c)).getD (List.replicate n 0)).length = n := by
        cases q : lookI kvs (dir c) with
        | none => simp
        | some v => exact (ok1 _ (look_mem q)).2
      generalize (lookI kvs (dir c)).getD (List.replicate n 0) = kn at hf hkn hkl
      have hrep : mulD (.tuple [.int 0]) (.int n) = some (tup (List.replicate n 0)) := by
        have : (List.replicate n ([PyData.int 0] : List D)).flatten = (List.replicate n (0 : Int)).map .int := by simp
        simp only [mulD]
        rw [if_pos ⟨by omega, by omega, by simp, by simp⟩]
        simp only [Int.toNat_natCast, this]
        rfl
      have l0 : lenD (tup c) = some (.int n) := by simp [tup, hcl]
      refine ⟨[some (.v (.int d)), some (.v (.list (cs.map tup))), some (.dic (encK (foundK (cs.take (i + 1))))), some (.v (tup c)), some (.v (tup (dir c))), some (.v (tup kn)), none, none, none, none], ?_, some (tup c), some (tup (dir c)), some (tup kn), rfl⟩
      have e1 : asg (.nm 3) (tup c) [some (.v (.int d)), some (.v (.list (cs.map tup))), some (.dic (encK kvs)), a3.map .v, a4.map .v, a5.map .v, none, none, none, none] = some [some (.v (.int d)), some (.v (.list (cs.map tup))), some (.dic (encK kvs)), some (.v (tup c)), a4.map .v, a5.map .v, none, none, none, none] := rfl
      have c1 : ev (tab fs 38) (.comp [6, 7] (.bin .add (.var 6) (.var 7)) (.tp (.cons (.nm 6) (.cons (.nm 7) .nil))) (.zip2 (.var 5) (.var 3)) .none) [some (.v (.int d)), some (.v (.list (cs.map tup))), some (.dic (encK kvs)), some (.v (tup c)), some (.v (tup (dir c))), some (.v (tup kn)), none, none, none, none] = M.pure (.list ((addv kn c).map .int)) := by
        rw [x_comp (xs := kn.zip c) (enc := fun p => .tuple [.int p.1, .int p.2]) (g := fun p => .int (p.1 + p.2))]
        · simp [addv, Function.comp_def]
        · simp [getV, zipD, tup, zipL_ints]
        · rfl
        · intro p hp
          refine ⟨_, rfl, ?_⟩
          simp [getV, wipeE, binD, addD]
        · simp; omega
      have tn : ∀ ns : List Int, PyData.tuple (ns.map .int) = tup ns := fun _ => rfl
      have nn0 : isNoneD (tup (dir c)) = false := rfl
      have el : (encK kvs).length < 16777216 := by unfold encK; rw [List.length_map]; omega
      rw [e1, lsome, bpure, hf, ← putD_enc]
      simp [execs, exec, getV, asg, call, dr, cmpD, isN, nn0, Tn.getD, bltD, un, l0, binD, hrep, tupOf_tup, hkn, c1, tn, el]
    · rw [if_neg hg] at dr
      have hf : foundK (cs.take (i + 1)) = kvs := by
        rw [hf]
        unfold stepK
        rw [if_neg hg]
      refine ⟨[some (.v (.int d)), some (.v (.list (cs.map tup))), some (.dic (encK (foundK (cs.take (i + 1))))), some (.v (tup c)), some (.v .none), a5.map .v, none, none, none, none], ?_, some (tup c), some .none, a5, rfl⟩
      have e1 : asg (.nm 3) (tup c) [some (.v (.int d)), some (.v (.list (cs.map tup))), some (.dic (encK kvs)), a3.map .v, a4.map .v, a5.map .v, none, none, none, none] = some [some (.v (.int d)), some (.v (.list (cs.map tup))), some (.dic (encK kvs)), some (.v (tup c)), a4.map .v, a5.map .v, none, none, none, none] := rfl
      rw [e1, lsome, bpure, hf]
      simp [execs, exec, getV, asg, call, dr, cmpD, isN, isNoneD])
  obtain ⟨env, hrun, a3, a4, a5, he⟩ := lp
  rw [Nat.zero_add, List.length_map, List.take_length] at he
  subst he
  generalize foundK cs = kvs at ok okl hne hrun
  have hs : ∀ k ∈ (kvs.map (·.1)).mergeSort lexLe, k ∈ kvs.map (·.1) := fun k hk => List.mem_mergeSort.mp hk
  have hkl : ∀ k ∈ kvs.map (·.1), k.length = n := fun k hk => by
    obtain ⟨kv, h1, rfl⟩ := List.mem_map.mp hk
    exact (ok kv h1).1
  have okl2 : kvs.length ≤ 1000 := by omega
  have hne0 : ∀ kv ∈ encK kvs, (!kv.1.isEmpty) = true := fun kv hkv => by
    obtain ⟨kv', h1, rfl⟩ := List.mem_map.mp hkv
    have := (ok kv' h1).1
    cases q : kv'.1 with
    | nil => rw [q] at this; simp at this; omega
    | cons _ _ => rfl
  have hkeys : (encK kvs).map (·.1) = kvs.map (·.1) := by
    unfold encK
    rw [List.map_map]
    rfl
  have c8 : ev (tab fs 38) (.comp [4] (.dix 2 (.var 4)) (.nm 4) (.seq (.dsorted 2)) .none) [some (.v (.int d)), some (.v (.list (cs.map tup))), some (.dic (encK kvs)), a3.map .v, a4.map .v, a5.map .v, none, none, none, none] = M.pure (.list ((left kvs).map tup)) := by
    rw [x_comp (xs := (kvs.map (·.1)).mergeSort lexLe) (enc := tup) (g := fun k => tup ((lookI kvs k).getD []))]
    · simp [left, Function.comp_def]
    · rw [xi_seq, x_dsorted]
      simp only [Tn.getD, List.getElem?_cons_succ, List.getElem?_cons_zero, bpure]
      rw [if_pos, bpure, hkeys]
      · rfl
      · rw [List.all_eq_true.mpr hne0, Bool.true_and]
        refine decide_eq_true ?_
        unfold encK
        rw [List.length_map]
        simp; omega
    · cases a4 <;> rfl
    · intro k hk
      obtain ⟨v, hv⟩ := look_key (hs k hk)
      refine ⟨_, rfl, ?_⟩
      simp [Tn.getD, wipeE, getV, tupOf_tup, lookD_enc, hv]
    · simp; omega
  have hSl : ∀ c ∈ left kvs, c.length = n := by
    intro c hc'
    obtain ⟨k, hk, rfl⟩ := List.mem_map.mp hc'
    obtain ⟨v, hv⟩ := look_key (hs k hk)
    rw [hv]
    exact (ok _ (look_mem hv)).2
  have hSn : (left kvs).length = kvs.length := by simp [left]
  have hkn : kvs.length ≠ 0 := fun z => hne (List.eq_nil_of_length_eq_zero z)
  generalize left kvs = S at c8 hSl hSn
  obtain ⟨s0, sr, eS⟩ : ∃ s0 sr, S = s0 :: sr := by cases S with
    | nil => simp at hSn; omega
    | cons a b => exact ⟨a, b, rfl⟩
  have i1 : idxD (.list (S.map tup)) (.int 0) = some (tup s0) := by subst eS; simp [idxD, ixAt]
  have i2 : lenD (tup s0) = some (.int n) := by simp [tup, hSl s0 (by rw [eS]; exact List.mem_cons_self)]
  let env8 : Env := [some (.v (.int d)), some (.v (.list (cs.map tup))), some (.dic (encK kvs)), a3.map .v, a4.map .v, a5.map .v, none, none, some (.v (.list (S.map tup))), none]
  have hfz : frz env8 = env8 := by
    simp only [env8, frz, List.map_cons, List.map_nil, frzC]
    cases a3 <;> cases a4 <;> cases a5 <;> rfl
  have c9 : ev (tab fs 38) (.comp [9] (.blt .tuple (.cons (.comp [3] (.idx (.var 3) (.var 9)) (.nm 3) (.seq (.var 8)) .none) .nil)) (.nm 9) (.rng1 (.blt .len (.cons (.idx (.var 8) (.con (.int 0))) .nil))) .none) env8 = M.pure (.list ((turned n S).map tup)) := by
    rw [x_comp (xs := List.range n) (enc := fun (x : Nat) => .int x) (g := fun x => tup (S.map fun c => c.getD x 0))]
    · simp [turned, Function.comp_def]
    · simp [env8, getV, i1, i2, bltD, un, intOf, rngL, show -16777216 ≤ (n : Int) by omega, show (n : Int) ≤ 16777216 by omega]
    · rfl
    · intro x hx
      refine ⟨_, rfl, ?_⟩
      rw [x_blt, xs_cons, x_comp (xs := S) (enc := tup) (g := fun c => .int (c.getD x 0))]
      · simp [bltD, un, tup, Function.comp_def]
      · simp [env8, getV, wipeE]
      · cases a3 <;> rfl
      · intro c hc'
        have hx' : x < c.length := by rw [hSl c hc']; simpa using hx
        refine ⟨_, rfl, ?_⟩
        simp [env8, getV, wipeE, tup, idxD, ixAt, hx']
      · simp; omega
    · simp; omega
  rw [R38]
  have e0 : execs (tab fs 38) f38.body [some (.v (.int d)), some (.v (.list (cs.map tup))), none, none, none, none, none, none, none, none] = M.bind (G 37 [.int d, tups (turned n S)]) fun d => M.pure (.rt d, env8) := by
    refine (exs_nx (env' := [some (.v (.int d)), some (.v (.list (cs.map tup))), some (.dic []), none, none, none, none, none, none, none]) rfl).trans ((exs_nx (ex_for (xs := cs.map tup) ?_ hrun)).trans ((exs_nx (ex_set c8 (env' := env8) rfl)).trans ?_))
    · simp [getV]
    · simp only [execs, exec, hfz]
      rw [x_call, xs_cons, xs_cons, xs_nil, x_blt, xs_cons, c9]
      simp [env8, getV, bltD, un, call]
      rw [bassoc]
      rfl
  rw [e0, bassoc]
  show M.bind _ M.pure = _
  funext o
  unfold M.bind M.pure
  cases G 37 [.int d, tups (turned n S)] o with
  | none => rfl
  | some r => cases r <;> rfl
theorem plain_ok {n w w' : Nat} {d : Int} {rows : List (List Int)} (h : Tel n w d rows) (hne : foundK (cols w rows) ≠ []) (hT : Tab w' (turned n (left (foundK (cols w rows))))) (hw : w' ≤ 12) (hnn : ∀ r ∈ turned n (left (foundK (cols w rows))), ∀ x ∈ r, 0 ≤ x) :
    G 40 [T d rows] = M.pure (T (d / byOf d (turned n (left (foundK (cols w rows))))) (low (byOf d (turned n (left (foundK (cols w rows))))) (turned n (left (foundK (cols w rows)))))) := by
  have h1 := h.n1
  have h2 := h.n6
  have h3 := h.w12
  have h4 := h.d1
  have po := plain_of_ok (d := d) (n := n) (cs := cols w rows) h1 (by omega) (by rw [cols_len]; omega) (fun c hc => by
    obtain ⟨k, hk, rfl⟩ := List.mem_map.mp hc
    rw [List.length_map]
    exact h.len) (fun c hc x hx => by
    obtain ⟨k, hk, rfl⟩ := List.mem_map.mp hc
    obtain ⟨r, hr, rfl⟩ := List.mem_map.mp hx
    exact h.nn r hr _ (getD_mem (by rw [h.wid r hr]; simpa using hk))) (cols_sml h.tab) hne
  rw [made_ok hT hw hnn (by omega) h.dM] at po
  have i1 : idxD (T d rows) (.int 1) = some (.int d) := rfl
  have e39 : G 39 [T d rows] = M.pure (T (d / byOf d (turned n (left (foundK (cols w rows))))) (low (byOf d (turned n (left (foundK (cols w rows))))) (turned n (left (foundK (cols w rows)))))) := by
    rw [← po, R39]
    simp [f39, fin, execs, exec, getV, frz, frzC, call, i1, columns_ok (d := d) h.tab]
    rw [po]
    rfl
  rw [R40]
  simp [f40, fin, execs, exec, getV, frz, frzC, call, check_ok h, e39]
end NS
set_option linter.all false
set_option maxRecDepth 100000
set_option maxHeartbeats 1000000
namespace NS
open Tn
open PySem (PyData Str)
/-- so many times -/
def ray (t : Int) (k : List Int) : List Int := k.map fun x => t * x
/-- a reading that goes along rays -/
def Along (f : List Int → Int) : Prop := ∀ (t : Int) (k : List Int), 0 ≤ t → f (ray t k) = t * f k
def tot (f : List Int → Int) (kvs : KV) : Int := (kvs.map fun kv => f kv.2).sum
/-- keys differ, values are on the rays of their keys -/
structure Rays (kvs : KV) : Prop where
  nd : (kvs.map (·.1)).Nodup
  ray : ∀ kv ∈ kvs, ∃ t : Int, 0 ≤ t ∧ kv.2 = ray t kv.1
theorem gl_ray (c : List Int) : c = ray (gl c) (dir c) := by
  unfold ray dir
  rw [List.map_map]
  conv => lhs; rw [← List.map_id c]
  apply List.map_congr_left
  intro x hx
  have hd := (gl_dvd c 0).2 x hx
  have e : (c.foldl (fun g x => Int.gcd g x) 0) = gl c := rfl
  rw [e] at hd
  simp only [id, Function.comp]
  exact (Int.mul_ediv_cancel' hd).symm
theorem addv_ray (s t : Int) : ∀ k : List Int, addv (ray s k) (ray t k) = ray (s + t) k
  | [] => rfl
  | x :: k => by
    have ih := addv_ray s t k
    unfold addv ray at *
    simp only [List.map_cons, List.zip_cons_cons]
    rw [ih, Int.add_mul]
theorem look_none {kvs : KV} {k : List Int} (h : k ∉ kvs.map (·.1)) : lookI kvs k = none := by
  unfold lookI
  rw [List.find?_eq_none.mpr]
  · rfl
  · intro kv hkv z
    exact h (List.mem_map.mpr ⟨kv, hkv, of_decide_eq_true z⟩)
theorem put_keys {kvs : KV} {k x : List Int} (h : k ∈ kvs.map (·.1)) : (putI kvs k x).map (·.1) = kvs.map (·.1) := by
  unfold putI
  rw [if_pos, List.map_map]
  · apply List.map_congr_left
    intro kv _
    simp only [Function.comp]
    split
    · rename_i e; exact e.symm
    · rfl
  · obtain ⟨kv, h1, h2⟩ := List.mem_map.mp h
    exact List.any_eq_true.mpr ⟨kv, h1, decide_eq_true h2⟩
theorem put_new {kvs : KV} {k x : List Int} (h : k ∉ kvs.map (·.1)) : putI kvs k x = kvs ++ [(k, x)] := by
  unfold putI
  rw [if_neg]
  intro z
  obtain ⟨kv, h1, h2⟩ := List.any_eq_true.mp z
  exact h (List.mem_map.mpr ⟨kv, h1, of_decide_eq_true h2⟩)
theorem tot_put {f : List Int → Int} {k x v : List Int} : ∀ {kvs : KV}, (kvs.map (·.1)).Nodup → (k, v) ∈ kvs → tot f (putI kvs k x) = tot f kvs - f v + f x := by
  intro kvs nd hm
  have hk : k ∈ kvs.map (·.1) := List.mem_map.mpr ⟨_, hm, rfl⟩
  unfold putI
  rw [if_pos (List.any_eq_true.mpr ⟨_, hm, by simp⟩)]
  clear hk
  induction kvs with
  | nil => simp at hm
  | cons kv kvs ih =>
    rw [List.map_cons, List.nodup_cons] at nd
    unfold tot at *
    rw [List.map_cons, List.map_cons, List.map_cons, List.sum_cons, List.sum_cons]
    rcases List.mem_cons.mp hm with e | hm'
    · subst e
      have hid : (kvs.map fun kv => if kv.1 = k then (k, x) else kv) = kvs := by
        conv => rhs; rw [← List.map_id kvs]
        apply List.map_congr_left
        intro kv hkv
        rw [if_neg]
        · rfl
        · intro z
          exact nd.1 (List.mem_map.mpr ⟨kv, hkv, z⟩)
      rw [hid, if_pos rfl]
      show f x + (kvs.map fun kv => f kv.2).sum = f v + (kvs.map fun kv => f kv.2).sum - f v + f x
      omega
    · rw [if_neg, ih nd.2 hm']
      · omega
      · intro z
        exact nd.1 (List.mem_map.mpr ⟨_, hm', z.symm⟩)
theorem look_of_mem {kvs : KV} {k v : List Int} (nd : (kvs.map (·.1)).Nodup) (h : (k, v) ∈ kvs) : lookI kvs k = some v := by
  induction kvs with
  | nil => simp at h
  | cons kv kvs ih =>
    rw [List.map_cons, List.nodup_cons] at nd
    unfold lookI at *
    rw [List.find?_cons]
    rcases List.mem_cons.mp h with e | h'
    · subst e
      simp
    · have : decide (kv.1 = k) = false := decide_eq_false fun z => nd.1 (List.mem_map.mpr ⟨_, h', z.symm⟩)
      rw [this]
      exact ih nd.2 h'
theorem zeros_ray (k : List Int) : List.replicate k.length (0 : Int) = ray 0 k := by
  unfold ray
  induction k with
  | nil => rfl
  | cons x k ih => rw [List.length_cons, List.replicate_succ, List.map_cons, ih]; simp
theorem dir_len (c : List Int) : (dir c).length = c.length := by simp [dir]
theorem step_rays {f : List Int → Int} (hf : Along f) {kvs : KV} (h : Rays kvs) (c : List Int) : Rays (stepK kvs c) ∧ tot f (stepK kvs c) = tot f kvs + f c := by
  have hc := gl_ray c
  unfold stepK
  by_cases hg : 0 < gl c
  · rw [if_pos hg]
    by_cases hk : dir c ∈ kvs.map (·.1)
    · obtain ⟨⟨k, v⟩, hm, e⟩ := List.mem_map.mp hk
      have e : k = dir c := e
      subst e
      rw [look_of_mem h.nd hm]
      obtain ⟨t, ht, hv⟩ := h.ray _ hm
      have hv : v = ray t (dir c) := hv
      have hx : addv ((some v).getD (List.replicate c.length 0)) c = ray (t + gl c) (dir c) := by
        show addv v c = _
        have e2 : addv (ray t (dir c)) (ray (gl c) (dir c)) = ray (t + gl c) (dir c) := addv_ray _ _ _
        rw [← hc] at e2
        rw [hv]
        exact e2
      rw [hx]
      refine ⟨⟨by rw [put_keys hk]; exact h.nd, fun kv hkv => ?_⟩, ?_⟩
      · rcases put_mem hkv with rfl | hkv
        · exact ⟨t + gl c, by omega, rfl⟩
        · exact h.ray kv hkv
      · rw [tot_put h.nd hm, hf _ _ (by omega), hv, hf _ _ ht]
        have : f c = gl c * f (dir c) := by
          conv => lhs; rw [hc]
          exact hf _ _ (by omega)
        rw [this, Int.add_mul]
        omega
    · rw [look_none hk]
      have hx : addv ((none : Option (List Int)).getD (List.replicate c.length 0)) c = c := by
        show addv (List.replicate c.length 0) c = c
        rw [← dir_len c, zeros_ray]
        have e2 : addv (ray 0 (dir c)) (ray (gl c) (dir c)) = ray (0 + gl c) (dir c) := addv_ray _ _ _
        rw [Int.zero_add, ← hc] at e2
        exact e2
      rw [hx, put_new hk]
      refine ⟨⟨?_, fun kv hkv => ?_⟩, ?_⟩
      · rw [List.map_append, List.nodup_append]
        refine ⟨h.nd, by simp, fun a ha b hb => ?_⟩
        have : b = dir c := by simpa using hb
        subst this
        exact fun z => hk (z ▸ ha)
      · rcases List.mem_append.mp hkv with hkv | hkv
        · exact h.ray kv hkv
        · have : kv = (dir c, c) := by simpa using hkv
          subst this
          exact ⟨gl c, by omega, hc⟩
      · unfold tot
        rw [List.map_append, List.sum_append]
        simp
  · rw [if_neg hg]
    refine ⟨h, ?_⟩
    have hz : gl c = 0 := by omega
    have : f c = 0 := by
      rw [hc, hz]
      have := hf 0 (dir c) (Int.le_refl _)
      simpa using this
    omega
theorem found_rays {f : List Int → Int} (hf : Along f) (cs : List (List Int)) : Rays (foundK cs) ∧ tot f (foundK cs) = (cs.map f).sum := by
  have go : ∀ (cs : List (List Int)) (kvs : KV), Rays kvs → Rays (cs.foldl stepK kvs) ∧ tot f (cs.foldl stepK kvs) = tot f kvs + (cs.map f).sum := by
    intro cs
    induction cs with
    | nil => intro kvs h; exact ⟨h, by simp⟩
    | cons c cs ih =>
      intro kvs h
      obtain ⟨h1, h2⟩ := step_rays hf h c
      obtain ⟨h3, h4⟩ := ih _ h1
      rw [List.foldl_cons, List.map_cons, List.sum_cons]
      exact ⟨h3, by rw [h4, h2]; omega⟩
  obtain ⟨h1, h2⟩ := go cs [] ⟨by simp, fun kv h => by simp at h⟩
  exact ⟨h1, by rw [show tot f (foundK cs) = tot f (cs.foldl stepK []) from rfl, h2]; simp [tot]⟩
theorem left_perm {kvs : KV} (h : Rays kvs) : (left kvs).Perm (kvs.map (·.2)) := by
  unfold left
  refine ((List.mergeSort_perm _ _).map _).trans ?_
  rw [List.map_map]
  refine List.Perm.of_eq ?_
  apply List.map_congr_left
  intro kv hkv
  obtain ⟨k, v⟩ := kv
  simp only [Function.comp]
  rw [look_of_mem h.nd hkv]
  rfl
theorem perm_sum {l1 l2 : List Int} (p : l1.Perm l2) : l1.sum = l2.sum := by
  induction p with
  | nil => rfl
  | cons x _ ih => rw [List.sum_cons, List.sum_cons, ih]
  | swap x y l => rw [List.sum_cons, List.sum_cons, List.sum_cons, List.sum_cons]; omega
  | trans _ _ h1 h2 => exact h1.trans h2
theorem left_sum {f : List Int → Int} (hf : Along f) (cs : List (List Int)) : ((left (foundK cs)).map f).sum = (cs.map f).sum := by
  obtain ⟨h1, h2⟩ := found_rays hf cs
  rw [← h2]
  have p := (left_perm h1).map f
  rw [List.map_map] at p
  exact perm_sum p
end NS
set_option linter.all false
set_option maxRecDepth 100000
set_option maxHeartbeats 1000000
namespace NS
open Tn
open PySem (PyData Str)
/-! ### the greatest -/
theorem foldl_max (l : List Int) : ∀ a : Int, a ≤ l.foldl max a ∧ (∀ x ∈ l, x ≤ l.foldl max a) ∧ (l.foldl max a = a ∨ l.foldl max a ∈ l) := by
  induction l with
  | nil => intro a; exact ⟨Int.le_refl _, fun x hx => by simp at hx, .inl rfl⟩
  | cons y ys ih =>
    intro a
    rw [List.foldl_cons]
    obtain ⟨h1, h2, h3⟩ := ih (max a y)
    have m1 : a ≤ max a y := Int.le_max_left _ _
    have m2 : y ≤ max a y := Int.le_max_right _ _
    refine ⟨by omega, fun x hx => ?_, ?_⟩
    · rcases List.mem_cons.mp hx with rfl | hx
      · omega
      · exact h2 x hx
    · rcases h3 with h3 | h3
      · rw [h3]
        rcases Int.le_total a y with q | q
        · rw [Int.max_eq_right q]; exact .inr List.mem_cons_self
        · rw [Int.max_eq_left q]; exact .inl rfl
      · exact .inr (List.mem_cons_of_mem _ h3)
theorem mx_mem {l : List Int} (h : l ≠ []) : mx l ∈ l := by
  cases l with
  | nil => exact absurd rfl h
  | cons a as =>
    show as.foldl max a ∈ _
    rcases (foldl_max as a).2.2 with q | q
    · rw [q]; exact List.mem_cons_self
    · exact List.mem_cons_of_mem _ q
theorem le_mx {l : List Int} {x : Int} (h : x ∈ l) : x ≤ mx l := by
  cases l with
  | nil => simp at h
  | cons a as =>
    show x ≤ as.foldl max a
    rcases List.mem_cons.mp h with rfl | h
    · exact (foldl_max as x).1
    · exact (foldl_max as a).2.1 x h
theorem mx_eq {l : List Int} {m : Int} (h1 : m ∈ l) (h2 : ∀ x ∈ l, x ≤ m) : mx l = m := by
  have := le_mx h1
  have := h2 _ (mx_mem (fun z => by rw [z] at h1; simp at h1))
  omega
theorem mx_le {l : List Int} {m : Int} (h : l ≠ []) (h2 : ∀ x ∈ l, x ≤ m) : mx l ≤ m := h2 _ (mx_mem h)
/-! ### sums of products -/
theorem dot_ray (g : List Int) (t : Int) : ∀ c : List Int, dot g (ray t c) = t * dot g c := by
  induction g with
  | nil => intro c; simp [dot]
  | cons x g ih =>
    intro c
    cases c with
    | nil => simp [dot, ray]
    | cons y c =>
      have := ih c
      unfold dot ray at *
      simp only [List.map_cons, List.zip_cons_cons, List.sum_cons]
      rw [this, Int.mul_add]
      congr 1
      rw [Int.mul_left_comm]
/-- what a column is worth -/
def Mc (gs : List (List Int)) (c : List Int) : Int := mx (gs.map fun g => dot g c)
theorem Mc_along {gs : List (List Int)} (hg : gs ≠ []) : Along (Mc gs) := by
  intro t k ht
  unfold Mc
  have e : (gs.map fun g => dot g (ray t k)) = (gs.map fun g => dot g k).map fun x => t * x := by
    rw [List.map_map]
    apply List.map_congr_left
    intro g _
    exact dot_ray g t k
  rw [e]
  have hne : (gs.map fun g => dot g k) ≠ [] := fun z => hg (List.map_eq_nil_iff.mp z)
  refine mx_eq (List.mem_map.mpr ⟨_, mx_mem hne, rfl⟩) fun x hx => ?_
  obtain ⟨y, hy, rfl⟩ := List.mem_map.mp hx
  exact Int.mul_le_mul_of_nonneg_left (le_mx hy) ht
theorem W_eq (gs cs : List (List Int)) : W gs cs = (cs.map (Mc gs)).sum := rfl
theorem W_left {gs : List (List Int)} (hg : gs ≠ []) (cs : List (List Int)) : W gs (left (foundK cs)) = W gs cs := left_sum (Mc_along hg) cs
/-! ### ratios -/
theorem ratio_eq {a b c d : Int} (hb : 0 < b) (hd : 0 < d) (h : a * d = c * b) : ratio a b = ratio c d := by
  have g1 : 0 < Int.gcd a b := Int.gcd_pos_of_ne_zero_right _ (by omega)
  have g2 : 0 < Int.gcd c d := Int.gcd_pos_of_ne_zero_right _ (by omega)
  -- a common multiple
  have k1 : Int.gcd (a * d) (b * d) = Int.gcd a b * d.natAbs := Int.gcd_mul_right ..
  have k2 : Int.gcd (c * b) (d * b) = Int.gcd c d * b.natAbs := Int.gcd_mul_right ..
  have k3 : Int.gcd a b * d.natAbs = Int.gcd c d * b.natAbs := by
    rw [← k1, ← k2, h, Int.mul_comm b d]
  have k3' : (Int.gcd a b : Int) * d = (Int.gcd c d : Int) * b := by
    have e1 : ((d.natAbs : Nat) : Int) = d := by omega
    have e2 : ((b.natAbs : Nat) : Int) = b := by omega
    have := congrArg (fun n : Nat => (n : Int)) k3
    simp only [Int.natCast_mul, e1, e2] at this
    exact this
  unfold ratio
  generalize hG1 : (Int.gcd a b : Int) = G1 at *
  generalize hG2 : (Int.gcd c d : Int) = G2 at *
  have p1 : 0 < G1 := by omega
  have p2 : 0 < G2 := by omega
  obtain ⟨x, hx⟩ : G1 ∣ a := by rw [← hG1]; exact Int.gcd_dvd_left ..
  obtain ⟨y, hy⟩ : G1 ∣ b := by rw [← hG1]; exact Int.gcd_dvd_right ..
  obtain ⟨z, hz⟩ : G2 ∣ c := by rw [← hG2]; exact Int.gcd_dvd_left ..
  obtain ⟨w, hw⟩ : G2 ∣ d := by rw [← hG2]; exact Int.gcd_dvd_right ..
  have e1 : a / G1 = x := by rw [hx]; exact Int.mul_ediv_cancel_left _ (by omega)
  have e2 : b / G1 = y := by rw [hy]; exact Int.mul_ediv_cancel_left _ (by omega)
  have e3 : c / G2 = z := by rw [hz]; exact Int.mul_ediv_cancel_left _ (by omega)
  have e4 : d / G2 = w := by rw [hw]; exact Int.mul_ediv_cancel_left _ (by omega)
  rw [e1, e2, e3, e4]
  have hyw : y = w := by
    rw [hy, hw] at k3'
    have : G1 * G2 * w = G1 * G2 * y := by
      calc G1 * G2 * w = G1 * (G2 * w) := by rw [Int.mul_assoc]
        _ = G2 * (G1 * y) := k3'
        _ = G1 * G2 * y := by rw [← Int.mul_assoc, Int.mul_comm G2 G1]
    exact (Int.eq_of_mul_eq_mul_left (by have := Int.mul_pos p1 p2; omega) this).symm
  have hw0 : 0 < w := by
    rw [hw] at hd
    exact Int.pos_of_mul_pos_right hd p2
  have hxz : x = z := by
    rw [hx, hw, hz, hy, hyw] at h
    have : G1 * G2 * w * x = G1 * G2 * w * z := by
      calc G1 * G2 * w * x = G1 * x * (G2 * w) := by simp only [Int.mul_comm, Int.mul_left_comm, Int.mul_assoc]
        _ = G2 * z * (G1 * w) := h
        _ = G1 * G2 * w * z := by simp only [Int.mul_comm, Int.mul_left_comm, Int.mul_assoc]
    exact Int.eq_of_mul_eq_mul_left (by have := Int.mul_pos (Int.mul_pos p1 p2) hw0; omega) this
  rw [hyw, hxz]
/-- a ratio's parts -/
theorem ratio_parts {a b : Int} (hb : 0 < b) : ∃ g : Int, 0 < g ∧ a = g * (ratio a b).1 ∧ b = g * (ratio a b).2 ∧ 0 < (ratio a b).2 := by
  have g1 : 0 < Int.gcd a b := Int.gcd_pos_of_ne_zero_right _ (by omega)
  have e1 : a = (Int.gcd a b : Int) * (a / Int.gcd a b) := (Int.mul_ediv_cancel' (Int.gcd_dvd_left ..)).symm
  have e2 : b = (Int.gcd a b : Int) * (b / Int.gcd a b) := (Int.mul_ediv_cancel' (Int.gcd_dvd_right ..)).symm
  refine ⟨Int.gcd a b, by omega, e1, e2, ?_⟩
  rw [e2] at hb
  exact Int.pos_of_mul_pos_right hb (by omega)
end NS
set_option linter.all false
set_option maxRecDepth 100000
set_option maxHeartbeats 1000000
namespace NS
open Tn
open PySem (PyData Str)
theorem ratio_less {a b c d : Int} (hb : 0 < b) (hd : 0 < d) : ((ratio a b).1 * (ratio c d).2 < (ratio c d).1 * (ratio a b).2) ↔ a * d < c * b := by
  obtain ⟨g, g0, e1, e2, p⟩ := ratio_parts (a := a) hb
  obtain ⟨k, k0, e3, e4, q⟩ := ratio_parts (a := c) hd
  generalize ratio a b = r at *
  generalize ratio c d = s at *
  have hgk := Int.mul_pos g0 k0
  have l : a * d = (g * k) * (r.1 * s.2) := by rw [e1, e4]; simp only [Int.mul_comm, Int.mul_left_comm, Int.mul_assoc]
  have m : c * b = (g * k) * (s.1 * r.2) := by rw [e2, e3]; simp only [Int.mul_comm, Int.mul_left_comm, Int.mul_assoc]
  rw [l, m]
  constructor
  · intro h; exact Int.mul_lt_mul_of_pos_left h hgk
  · intro h; exact Int.lt_of_mul_lt_mul_left h (by omega)
theorem ratio_sum {a b c d : Int} (hb : 0 < b) (hd : 0 < d) : ratio ((ratio a b).1 * (ratio c d).2 + (ratio c d).1 * (ratio a b).2) ((ratio a b).2 * (ratio c d).2) = ratio (a * d + c * b) (b * d) := by
  obtain ⟨g, g0, e1, e2, p⟩ := ratio_parts (a := a) hb
  obtain ⟨k, k0, e3, e4, q⟩ := ratio_parts (a := c) hd
  have hbd := Int.mul_pos hb hd
  generalize ratio a b = r at *
  generalize ratio c d = s at *
  refine ratio_eq (Int.mul_pos p q) hbd ?_
  have l : a * d = (g * k) * (r.1 * s.2) := by rw [e1, e4]; simp only [Int.mul_comm, Int.mul_left_comm, Int.mul_assoc]
  have m : c * b = (g * k) * (s.1 * r.2) := by rw [e2, e3]; simp only [Int.mul_comm, Int.mul_left_comm, Int.mul_assoc]
  have n : b * d = (g * k) * (r.2 * s.2) := by rw [e2, e4]; simp only [Int.mul_comm, Int.mul_left_comm, Int.mul_assoc]
  rw [l, m, n, ← Int.mul_add]
  simp only [Int.mul_comm, Int.mul_left_comm, Int.mul_assoc]
theorem ratio_scale {a b k : Int} (hk : 0 < k) (hb : 0 < b) : ratio (k * a) (k * b) = ratio a b := by
  refine ratio_eq (Int.mul_pos hk hb) hb ?_
  simp only [Int.mul_comm, Int.mul_left_comm, Int.mul_assoc]
/-! ### lowered tellers -/
theorem low_len {b : Int} {rows : List (List Int)} : (low b rows).length = rows.length := by simp [low]
theorem cols_low {w : Nat} {b : Int} {rows : List (List Int)} (hw : ∀ r ∈ rows, r.length = w) (hd : ∀ r ∈ rows, ∀ x ∈ r, b ∣ x) : cols w rows = (cols w (low b rows)).map (ray b) := by
  unfold cols low
  rw [List.map_map]
  apply List.map_congr_left
  intro k hk
  have hk' : k < w := by simpa using hk
  simp only [Function.comp, ray, List.map_map]
  apply List.map_congr_left
  intro r hr
  have hl : k < r.length := by rw [hw r hr]; exact hk'
  simp only [Function.comp]
  have e : (r.map fun x => x / b).getD k 0 = r.getD k 0 / b := by
    rw [List.getD_eq_getElem?_getD, List.getD_eq_getElem?_getD, List.getElem?_map, List.getElem?_eq_getElem hl]
    rfl
  rw [e]
  exact (Int.mul_ediv_cancel' (hd r hr _ (getD_mem hl))).symm
theorem sum_mul (k : Int) : ∀ l : List Int, (l.map fun x => k * x).sum = k * l.sum
  | [] => by simp
  | x :: l => by rw [List.map_cons, List.sum_cons, List.sum_cons, sum_mul k l, Int.mul_add]
theorem W_rays {gs : List (List Int)} (hg : gs ≠ []) {b : Int} (hb : 0 ≤ b) (cs : List (List Int)) : W gs (cs.map (ray b)) = b * W gs cs := by
  rw [W_eq, W_eq, List.map_map]
  rw [← sum_mul, List.map_map]
  congr 1
  apply List.map_congr_left
  intro c _
  exact Mc_along hg b c hb
/-- the ratio of a lowered teller is that of the teller -/
theorem ratio_low {w : Nat} {d : Int} {rows gs : List (List Int)} (hg : gs ≠ []) (hw : ∀ r ∈ rows, r.length = w) (hd : 0 < d) :
    ratio (W gs (cols w (low (byOf d rows) rows))) (d / byOf d rows) = ratio (W gs (cols w rows)) d := by
  obtain ⟨p1, p2⟩ := byOf_pos (d := d) (rows := rows) hd
  obtain ⟨q1, q2⟩ := byOf_dvd (d := d) (rows := rows)
  rw [cols_low hw q2, W_rays hg (by omega)]
  have e : d = (byOf d rows : Int) * (d / byOf d rows) := (Int.mul_ediv_cancel' q1).symm
  have hp : 0 < d / byOf d rows := by
    have : 0 < (byOf d rows : Int) * (d / byOf d rows) := by rw [← e]; exact hd
    exact Int.pos_of_mul_pos_right this (by omega)
  conv => rhs; rw [e]
  rw [← ratio_scale (k := byOf d rows) (by omega) hp]
  congr 2
  · rw [← e]
  · rw [← e]
theorem low_sum {b : Int} : ∀ {r : List Int}, (∀ x ∈ r, b ∣ x) → b * (r.map fun x => x / b).sum = r.sum
  | [], _ => by simp
  | x :: r, h => by
    rw [List.map_cons, List.sum_cons, List.sum_cons, Int.mul_add, low_sum fun y hy => h y (List.mem_cons_of_mem _ hy), Int.mul_ediv_cancel' (h x List.mem_cons_self)]
/-- a lowered table is a teller -/
theorem low_tel {n w : Nat} {d : Int} {rows : List (List Int)} (hn : rows.length = n) (n1 : 1 ≤ n) (n6 : n ≤ 6) (hw : ∀ r ∈ rows, r.length = w) (w1 : 1 ≤ w) (w12 : w ≤ 12) (nn : ∀ r ∈ rows, ∀ x ∈ r, 0 ≤ x) (hs : ∀ r ∈ rows, r.sum = d) (hd : 0 < d) (hM : d ≤ 1000000000000000000000000000000) :
    Tel n w (d / byOf d rows) (low (byOf d rows) rows) := by
  obtain ⟨p1, p2⟩ := byOf_pos (d := d) (rows := rows) hd
  obtain ⟨q1, q2⟩ := byOf_dvd (d := d) (rows := rows)
  have e : d = (byOf d rows : Int) * (d / byOf d rows) := (Int.mul_ediv_cancel' q1).symm
  have hp : 0 < d / byOf d rows := by
    have : 0 < (byOf d rows : Int) * (d / byOf d rows) := by rw [← e]; exact hd
    exact Int.pos_of_mul_pos_right this (by omega)
  have hle := Int.ediv_le_self (a := d) (byOf d rows) (Int.le_of_lt hd)
  refine ⟨by rw [low_len, hn], n1, n6, fun r hr => ?_, w1, w12, fun r hr x hx => ?_, fun r hr => ?_, by omega, by omega⟩
  · obtain ⟨r0, h0, rfl⟩ := List.mem_map.mp hr
    rw [List.length_map]
    exact hw r0 h0
  · obtain ⟨r0, h0, rfl⟩ := List.mem_map.mp hr
    obtain ⟨y, hy, rfl⟩ := List.mem_map.mp hx
    exact Int.ediv_nonneg (nn r0 h0 y hy) (by omega)
  · obtain ⟨r0, h0, rfl⟩ := List.mem_map.mp hr
    have h1 := low_sum (q2 r0 h0)
    rw [hs r0 h0] at h1
    have h2 : (byOf d rows : Int) * (r0.map fun x => x / (byOf d rows : Int)).sum = (byOf d rows : Int) * (d / byOf d rows) := by rw [h1, ← e]
    exact Int.eq_of_mul_eq_mul_left (by omega) h2
end NS
set_option linter.all false
set_option maxRecDepth 100000
set_option maxHeartbeats 1000000
namespace NS
open Tn
open PySem (PyData Str)
theorem dot_cons (x y : Int) (g c : List Int) : dot (x :: g) (y :: c) = x * y + dot g c := by
  simp [dot]
theorem dot_nil (c : List Int) : dot [] c = 0 := by simp [dot]
theorem dot_nilr (g : List Int) : dot g [] = 0 := by simp [dot]
theorem addv_cons (x y : Int) (g c : List Int) : addv (x :: g) (y :: c) = (x + y) :: addv g c := by
  simp [addv]
theorem dot_addv : ∀ (g o c : List Int), g.length = o.length → dot (addv g o) c = dot g c + dot o c
  | [], [], c, _ => by simp [addv, dot]
  | x :: g, y :: o, [], _ => by rw [dot_nilr, dot_nilr, dot_nilr]; omega
  | x :: g, y :: o, z :: c, h => by
    rw [addv_cons, dot_cons, dot_cons, dot_cons, dot_addv g o c (by simpa using h), Int.add_mul]
    omega
  | [], _ :: _, _, h => by simp at h
  | _ :: _, [], _, h => by simp at h
theorem sum_add {α : Type} (f g : α → Int) : ∀ l : List α, (l.map fun x => f x + g x).sum = (l.map f).sum + (l.map g).sum
  | [] => by simp
  | x :: l => by
    rw [List.map_cons, List.map_cons, List.map_cons, List.sum_cons, List.sum_cons, List.sum_cons, sum_add f g l]
    omega
theorem sum_le {α : Type} {f g : α → Int} : ∀ {l : List α}, (∀ x ∈ l, f x ≤ g x) → (l.map f).sum ≤ (l.map g).sum
  | [], _ => by simp
  | x :: l, h => by
    rw [List.map_cons, List.map_cons, List.sum_cons, List.sum_cons]
    have := h x List.mem_cons_self
    have := sum_le (l := l) fun y hy => h y (List.mem_cons_of_mem _ hy)
    omega
theorem sum_mulf {α : Type} (k : Int) (f : α → Int) (l : List α) : (l.map fun x => k * f x).sum = k * (l.map f).sum := by
  rw [← sum_mul, List.map_map]
  rfl
theorem sum_zero {α : Type} : ∀ l : List α, (l.map fun _ => (0 : Int)).sum = 0
  | [] => rfl
  | x :: l => by rw [List.map_cons, List.sum_cons, sum_zero l]; rfl
theorem sum_swap {α β : Type} (f : α → β → Int) (m : List β) : ∀ l : List α, (l.map fun x => (m.map fun y => f x y).sum).sum = (m.map fun y => (l.map fun x => f x y).sum).sum
  | [] => by simp [sum_zero]
  | x :: l => by
    rw [List.map_cons, List.sum_cons, sum_swap f m l, ← sum_add]
    congr 1
/-! ### stakes summed -/
def both (gs hs : List (List Int)) : List (List Int) := gs.flatMap fun g => hs.map fun o => addv g o
theorem Mc_both {n : Nat} {gs hs : List (List Int)} (hg : gs ≠ []) (hh : hs ≠ []) (lg : ∀ g ∈ gs, g.length = n) (lh : ∀ g ∈ hs, g.length = n) (c : List Int) : Mc (both gs hs) c = Mc gs c + Mc hs c := by
  have n1 : (gs.map fun g => dot g c) ≠ [] := fun z => hg (List.map_eq_nil_iff.mp z)
  have n2 : (hs.map fun g => dot g c) ≠ [] := fun z => hh (List.map_eq_nil_iff.mp z)
  refine mx_eq ?_ fun x hx => ?_
  · obtain ⟨g, h1, h2⟩ := List.mem_map.mp (mx_mem n1)
    obtain ⟨o, h3, h4⟩ := List.mem_map.mp (mx_mem n2)
    refine List.mem_map.mpr ⟨addv g o, List.mem_flatMap.mpr ⟨g, h1, List.mem_map.mpr ⟨o, h3, rfl⟩⟩, ?_⟩
    rw [dot_addv g o c ((lg g h1).trans (lh o h3).symm), h2, h4]
    rfl
  · obtain ⟨q, h1, rfl⟩ := List.mem_map.mp hx
    obtain ⟨g, h2, h3⟩ := List.mem_flatMap.mp h1
    obtain ⟨o, h4, rfl⟩ := List.mem_map.mp h3
    rw [dot_addv g o c ((lg g h2).trans (lh o h4).symm)]
    have a := le_mx (List.mem_map.mpr ⟨g, h2, rfl⟩ : dot g c ∈ gs.map fun g => dot g c)
    have b := le_mx (List.mem_map.mpr ⟨o, h4, rfl⟩ : dot o c ∈ hs.map fun g => dot g c)
    unfold Mc
    omega
theorem W_both {n : Nat} {gs hs : List (List Int)} (hg : gs ≠ []) (hh : hs ≠ []) (lg : ∀ g ∈ gs, g.length = n) (lh : ∀ g ∈ hs, g.length = n) (cs : List (List Int)) : W (both gs hs) cs = W gs cs + W hs cs := by
  rw [W_eq, W_eq, W_eq, ← sum_add]
  congr 1
  apply List.map_congr_left
  intro c _
  exact Mc_both hg hh lg lh c
/-! ### stakes chosen -/
theorem W_sub {gs hs : List (List Int)} (hg : gs ≠ []) (h : ∀ g ∈ gs, g ∈ hs) (cs : List (List Int)) : W gs cs ≤ W hs cs := by
  rw [W_eq, W_eq]
  refine sum_le fun c _ => ?_
  have n1 : (gs.map fun g => dot g c) ≠ [] := fun z => hg (List.map_eq_nil_iff.mp z)
  refine mx_le n1 fun x hx => ?_
  obtain ⟨g, h1, rfl⟩ := List.mem_map.mp hx
  exact le_mx (List.mem_map.mpr ⟨g, h g h1, rfl⟩)
/-! ### unheard -/
theorem range_cons (w : Nat) (f : Nat → Int) : ((List.range (w + 1)).map f).sum = f 0 + ((List.range w).map fun k => f (k + 1)).sum := by
  rw [List.range_succ_eq_map, List.map_cons, List.sum_cons, List.map_map]
  rfl
theorem row_sum : ∀ (w : Nat) (r : List Int), r.length = w → ((List.range w).map fun k => r.getD k 0).sum = r.sum
  | 0, r, h => by
    have := List.eq_nil_of_length_eq_zero h
    subst this
    rfl
  | w + 1, r, h => by
    cases r with
    | nil => simp at h
    | cons x r =>
      rw [range_cons, List.sum_cons]
      have := row_sum w r (by simpa using h)
      simp only [List.getD_cons_zero, List.getD_cons_succ]
      rw [this]
theorem dot_cols {w : Nat} {d : Int} : ∀ {rows : List (List Int)} {g : List Int}, (∀ r ∈ rows, r.length = w) → (∀ r ∈ rows, r.sum = d) → g.length = rows.length → ((cols w rows).map fun c => dot g c).sum = d * g.sum
  | [], [], _, _, _ => by
    have : (fun c : List Int => dot [] c) = fun _ => 0 := by funext c; exact dot_nil c
    rw [this, sum_zero]
    simp
  | r :: rows, x :: g, hw, hs, hl => by
    have ih := dot_cols (w := w) (d := d) (rows := rows) (g := g) (fun q hq => hw q (List.mem_cons_of_mem _ hq)) (fun q hq => hs q (List.mem_cons_of_mem _ hq)) (by simpa using hl)
    unfold cols at *
    rw [List.map_map] at *
    have e : ((List.range w).map ((fun c => dot (x :: g) c) ∘ fun k => (r :: rows).map fun r => r.getD k 0)) = (List.range w).map fun k => x * r.getD k 0 + ((fun c => dot g c) ∘ fun k => rows.map fun r => r.getD k 0) k := by
      apply List.map_congr_left
      intro k _
      simp only [Function.comp, List.map_cons]
      exact dot_cons _ _ _ _
    rw [e, sum_add, ih, sum_mulf, row_sum w r (hw r List.mem_cons_self), hs r List.mem_cons_self, List.sum_cons, Int.mul_add, Int.mul_comm x d]
  | [], _ :: _, _, _, h => by simp at h
  | _ :: _, [], _, _, h => by simp at h
theorem W_unheard {n w : Nat} {d : Int} {rows gs : List (List Int)} (hg : gs ≠ []) (hn : rows.length = n) (lg : ∀ g ∈ gs, g.length = n) (hw : ∀ r ∈ rows, r.length = w) (hs : ∀ r ∈ rows, r.sum = d) : d * mx (gs.map fun g => g.sum) ≤ W gs (cols w rows) := by
  have n1 : (gs.map fun g => g.sum) ≠ [] := fun z => hg (List.map_eq_nil_iff.mp z)
  obtain ⟨g, h1, h2⟩ := List.mem_map.mp (mx_mem n1)
  rw [← h2, ← dot_cols hw hs ((lg g h1).trans hn.symm), W_eq]
  refine sum_le fun c _ => ?_
  exact le_mx (List.mem_map.mpr ⟨g, h1, rfl⟩)
/-! ### garbled -/
theorem dot_lin (w : Nat) (t : Nat → Int) : ∀ (gg : List Int) (rows : List (List Int)), dot gg (rows.map fun r => ((List.range w).map fun y => r.getD y 0 * t y).sum) = ((List.range w).map fun y => t y * dot gg (rows.map fun r => r.getD y 0)).sum
  | [], rows => by
    rw [dot_nil]
    have : (fun y => t y * dot [] (rows.map fun r => r.getD y 0)) = fun _ => 0 := by funext y; rw [dot_nil]; simp
    rw [this, sum_zero]
  | x :: g, [] => by
    rw [List.map_nil, dot_nilr]
    have : (fun y => t y * dot (x :: g) (([] : List (List Int)).map fun r => r.getD y 0)) = fun _ => 0 := by funext y; rw [List.map_nil, dot_nilr]; simp
    rw [this, sum_zero]
  | x :: g, r :: rows => by
    rw [List.map_cons, dot_cons, dot_lin w t g rows, ← sum_mulf, ← sum_add]
    congr 1
    apply List.map_congr_left
    intro y _
    rw [List.map_cons, dot_cons, Int.mul_add]
    congr 1
    simp only [Int.mul_comm, Int.mul_left_comm, Int.mul_assoc]
theorem getD_range {α : Type} (f : Nat → α) (a : α) {v z : Nat} (h : z < v) : ((List.range v).map f).getD z a = f z := by
  rw [List.getD_eq_getElem?_getD, List.getElem?_map, List.getElem?_range h]
  rfl
theorem cols_prod {w v : Nat} {rows g : List (List Int)} : cols v (prod w v rows g) = (List.range v).map fun z => rows.map fun r => ((List.range w).map fun y => r.getD y 0 * (g.getD y []).getD z 0).sum := by
  unfold cols prod
  apply List.map_congr_left
  intro z hz
  rw [List.map_map]
  apply List.map_congr_left
  intro r _
  simp only [Function.comp]
  exact getD_range _ _ (by simpa using hz)
theorem W_garbled {w v : Nat} {e : Int} {rows g gs : List (List Int)} (hgs : gs ≠ []) (hl : g.length = w) (hw : ∀ r ∈ g, r.length = v) (nn : ∀ r ∈ g, ∀ x ∈ r, 0 ≤ x) (hs : ∀ r ∈ g, r.sum = e) : W gs (cols v (prod w v rows g)) ≤ e * W gs (cols w rows) := by
  have gnn : ∀ y z, y < w → z < v → 0 ≤ (g.getD y []).getD z 0 := fun y z hy hz => by
    have hm := getD_memL (r := g) (k := y) (by omega)
    exact nn _ hm _ (getD_mem (by rw [hw _ hm]; exact hz))
  have h1 : W gs (cols v (prod w v rows g)) ≤ ((List.range v).map fun z => ((List.range w).map fun y => (g.getD y []).getD z 0 * Mc gs (rows.map fun r => r.getD y 0)).sum).sum := by
    rw [W_eq, cols_prod, List.map_map]
    refine sum_le fun z hz => ?_
    have hz' : z < v := by simpa using hz
    simp only [Function.comp]
    have n1 : (gs.map fun gg => dot gg (rows.map fun r => ((List.range w).map fun y => r.getD y 0 * (g.getD y []).getD z 0).sum)) ≠ [] := fun q => hgs (List.map_eq_nil_iff.mp q)
    refine mx_le n1 fun x hx => ?_
    obtain ⟨gg, h1, rfl⟩ := List.mem_map.mp hx
    rw [dot_lin w (fun y => (g.getD y []).getD z 0) gg rows]
    refine sum_le fun y hy => ?_
    exact Int.mul_le_mul_of_nonneg_left (le_mx (List.mem_map.mpr ⟨gg, h1, rfl⟩)) (gnn y z (by simpa using hy) hz')
  refine Int.le_trans h1 (Int.le_of_eq ?_)
  rw [sum_swap]
  have h2 : ((List.range w).map fun y => ((List.range v).map fun z => (g.getD y []).getD z 0 * Mc gs (rows.map fun r => r.getD y 0)).sum) = (List.range w).map fun y => e * Mc gs (rows.map fun r => r.getD y 0) := by
    apply List.map_congr_left
    intro y hy
    have hm := getD_memL (r := g) (k := y) (by have : y < w := by simpa using hy
                                               omega)
    have e1 : (fun z => (g.getD y []).getD z 0 * Mc gs (rows.map fun r => r.getD y 0)) = fun z => Mc gs (rows.map fun r => r.getD y 0) * (g.getD y []).getD z 0 := by
      funext z
      exact Int.mul_comm _ _
    rw [e1, sum_mulf, row_sum v _ (hw _ hm), hs _ hm, Int.mul_comm]
  rw [h2, sum_mulf, W_eq, cols, List.map_map]
  rfl
theorem prod_sum {w v : Nat} {d e : Int} {rows g : List (List Int)} (hr : ∀ r ∈ rows, r.length = w) (hd : ∀ r ∈ rows, r.sum = d) (hl : g.length = w) (hw : ∀ r ∈ g, r.length = v) (hs : ∀ r ∈ g, r.sum = e) : ∀ r ∈ prod w v rows g, r.sum = d * e := by
  intro q hq
  obtain ⟨r, h0, rfl⟩ := List.mem_map.mp hq
  rw [sum_swap]
  have h2 : ((List.range w).map fun y => ((List.range v).map fun z => r.getD y 0 * (g.getD y []).getD z 0).sum) = (List.range w).map fun y => e * r.getD y 0 := by
    apply List.map_congr_left
    intro y hy
    have hm := getD_memL (r := g) (k := y) (by have : y < w := by simpa using hy
                                               omega)
    rw [sum_mulf, row_sum v _ (hw _ hm), hs _ hm, Int.mul_comm]
  rw [h2, sum_mulf, row_sum w r (hr r h0), hd r h0, Int.mul_comm]
/-! ### moved gains -/
theorem dot_set (b : Int) : ∀ (g c : List Int) (s : Nat), s < g.length → s < c.length → dot (g.set s (g.getD s 0 + b)) c = dot g c + b * c.getD s 0
  | [], _, _, h, _ => by simp at h
  | _ :: _, [], _, _, h => by simp at h
  | x :: g, y :: c, 0, _, _ => by
    rw [List.set_cons_zero, dot_cons, dot_cons]
    simp only [List.getD_cons_zero, Int.add_mul]
    omega
  | x :: g, y :: c, s + 1, h, h2 => by
    rw [List.set_cons_succ, dot_cons, dot_cons]
    simp only [List.getD_cons_succ]
    rw [dot_set b g c s (by simpa using h) (by simpa using h2)]
    omega
def moved (s : Nat) (b : Int) (gs : List (List Int)) : List (List Int) := gs.map fun g => g.set s (g.getD s 0 + b)
theorem mx_shift {k : Int} {l : List Int} (h : l ≠ []) : mx (l.map fun x => x + k) = mx l + k := by
  refine mx_eq (List.mem_map.mpr ⟨_, mx_mem h, rfl⟩) fun x hx => ?_
  obtain ⟨y, hy, rfl⟩ := List.mem_map.mp hx
  have := le_mx hy
  omega
theorem W_moved {n w : Nat} {d : Int} {s : Nat} {b : Int} {rows gs : List (List Int)} (hgs : gs ≠ []) (hn : rows.length = n) (hs : s < n) (lg : ∀ g ∈ gs, g.length = n) (hw : ∀ r ∈ rows, r.length = w) (hd : ∀ r ∈ rows, r.sum = d) :
    W (moved s b gs) (cols w rows) = W gs (cols w rows) + b * d := by
  have e1 : ∀ c ∈ cols w rows, Mc (moved s b gs) c = Mc gs c + b * c.getD s 0 := by
    intro c hc
    have hcl : c.length = n := by
      obtain ⟨k, _, rfl⟩ := List.mem_map.mp hc
      rw [List.length_map, hn]
    have n1 : (gs.map fun g => dot g c) ≠ [] := fun z => hgs (List.map_eq_nil_iff.mp z)
    unfold Mc moved
    rw [List.map_map]
    have : (gs.map ((fun g => dot g c) ∘ fun g => g.set s (g.getD s 0 + b))) = (gs.map fun g => dot g c).map fun x => x + b * c.getD s 0 := by
      rw [List.map_map]
      apply List.map_congr_left
      intro g hg
      exact dot_set b g c s (by rw [lg g hg]; exact hs) (by rw [hcl]; exact hs)
    rw [this, mx_shift n1]
  have e2 : W (moved s b gs) (cols w rows) = ((cols w rows).map fun c => Mc gs c + b * c.getD s 0).sum := by
    rw [W_eq]
    congr 1
    exact List.map_congr_left e1
  rw [e2, sum_add, sum_mulf, W_eq]
  congr 2
  have hm : rows.getD s [] ∈ rows := getD_memL (by rw [hn]; exact hs)
  rw [← hd _ hm, ← row_sum w _ (hw _ hm)]
  unfold cols
  rw [List.map_map]
  congr 1
  apply List.map_congr_left
  intro k _
  simp only [Function.comp]
  rw [List.getD_eq_getElem?_getD, List.getElem?_map, List.getElem?_eq_getElem (by rw [hn]; exact hs), List.getD_eq_getElem?_getD (l := rows), List.getElem?_eq_getElem (by rw [hn]; exact hs)]
  rfl
end NS
set_option linter.all false
set_option maxRecDepth 100000
set_option maxHeartbeats 1000000
namespace NS
open Tn
open PySem (PyData Str)
theorem getD_along (x : Nat) : Along fun c => c.getD x 0 := by
  intro t k _
  unfold ray
  simp only [List.getD_eq_getElem?_getD, List.getElem?_map]
  cases k[x]? <;> simp
theorem step_keys {kvs : KV} {c : List Int} : ∀ kv ∈ stepK kvs c, kv.1 = dir c ∨ ∃ kv' ∈ kvs, kv'.1 = kv.1 := by
  intro kv h
  unfold stepK at h
  split at h
  · rcases put_mem h with rfl | h
    · exact .inl rfl
    · exact .inr ⟨kv, h, rfl⟩
  · exact .inr ⟨kv, h, rfl⟩
theorem found_keys (cs : List (List Int)) : ∀ kv ∈ foundK cs, ∃ c ∈ cs, kv.1 = dir c := by
  have go : ∀ (cs : List (List Int)) (kvs : KV) (Q : List Int → Prop), (∀ kv ∈ kvs, Q kv.1) → (∀ c ∈ cs, Q (dir c)) → ∀ kv ∈ cs.foldl stepK kvs, Q kv.1 := by
    intro cs
    induction cs with
    | nil => intro kvs Q h _; exact h
    | cons c cs ih =>
      intro kvs Q h hc
      rw [List.foldl_cons]
      refine ih _ Q (fun kv hkv => ?_) fun x hx => hc x (List.mem_cons_of_mem _ hx)
      rcases step_keys kv hkv with e | ⟨kv', h1, e⟩
      · rw [e]; exact hc c List.mem_cons_self
      · rw [← e]; exact h kv' h1
  exact go cs [] (fun k => ∃ c ∈ cs, k = dir c) (fun kv h => by simp at h) fun c hc => ⟨c, hc, rfl⟩
theorem left_nn {cs : List (List Int)} (h : ∀ c ∈ cs, ∀ x ∈ c, 0 ≤ x) : ∀ c ∈ left (foundK cs), ∀ x ∈ c, 0 ≤ x := by
  intro c hc x hx
  obtain ⟨R, _⟩ := found_rays (f := fun c => c.getD 0 0) (getD_along 0) cs
  have hm := (left_perm R).mem_iff.mp hc
  obtain ⟨kv, h1, rfl⟩ := List.mem_map.mp hm
  obtain ⟨t, ht, e⟩ := R.ray kv h1
  obtain ⟨c0, h2, e2⟩ := found_keys cs kv h1
  rw [e] at hx
  obtain ⟨y, hy, rfl⟩ := List.mem_map.mp hx
  rw [e2] at hy
  obtain ⟨z, hz, rfl⟩ := List.mem_map.mp hy
  exact Int.mul_nonneg ht (Int.ediv_nonneg (h c0 h2 z hz) (by omega))
theorem left_len {n : Nat} {cs : List (List Int)} (h : ∀ c ∈ cs, c.length = n) : (∀ c ∈ left (foundK cs), c.length = n) ∧ (left (foundK cs)).length ≤ cs.length := by
  obtain ⟨R, _⟩ := found_rays (f := fun c => c.getD 0 0) (getD_along 0) cs
  obtain ⟨h1, h2⟩ := found_ok h
  refine ⟨fun c hc => ?_, ?_⟩
  · have hm := (left_perm R).mem_iff.mp hc
    obtain ⟨kv, h3, rfl⟩ := List.mem_map.mp hm
    exact (h1 kv h3).2
  · rw [(left_perm R).length_eq, List.length_map]
    exact h2
theorem cols_turned {n : Nat} {S : List (List Int)} (h : ∀ c ∈ S, c.length = n) : cols S.length (turned n S) = S := by
  unfold cols turned
  apply List.ext_getElem
  · simp
  · intro k h1 h2
    simp only [List.getElem_map, List.getElem_range, List.map_map]
    apply List.ext_getElem
    · simp [h _ (List.getElem_mem h2)]
    · intro x h3 h4
      simp only [List.getElem_map, List.getElem_range, Function.comp]
      rw [List.getD_eq_getElem?_getD, List.getElem?_map, List.getElem?_eq_getElem h2]
      simp [h4]
theorem col_sum {n w : Nat} {d : Int} {rows : List (List Int)} (hn : rows.length = n) (hw : ∀ r ∈ rows, r.length = w) (hd : ∀ r ∈ rows, r.sum = d) {x : Nat} (hx : x < n) : ((cols w rows).map fun c => c.getD x 0).sum = d := by
  have hm : rows.getD x [] ∈ rows := getD_memL (by rw [hn]; exact hx)
  rw [← hd _ hm, ← row_sum w _ (hw _ hm)]
  unfold cols
  rw [List.map_map]
  congr 1
  apply List.map_congr_left
  intro k _
  simp only [Function.comp]
  rw [List.getD_eq_getElem?_getD, List.getElem?_map, List.getElem?_eq_getElem (by rw [hn]; exact hx), List.getD_eq_getElem?_getD (l := rows), List.getElem?_eq_getElem (by rw [hn]; exact hx)]
  rfl
/-- the plain form of a teller: a teller of the same worths -/
theorem plain_full {n w : Nat} {d : Int} {rows : List (List Int)} (h : Tel n w d rows) : ∃ (w' : Nat) (d' : Int) (rows' : List (List Int)), G 40 [T d rows] = M.pure (T d' rows') ∧ Tel n w' d' rows' ∧ ∀ gs : List (List Int), gs ≠ [] → ratio (W gs (cols w' rows')) d' = ratio (W gs (cols w rows)) d := by
  have n1 := h.n1
  have d1 := h.d1
  have hcl : ∀ c ∈ cols w rows, c.length = n := fun c hc => by
    obtain ⟨k, hk, rfl⟩ := List.mem_map.mp hc
    rw [List.length_map]
    exact h.len
  have hcn : ∀ c ∈ cols w rows, ∀ x ∈ c, 0 ≤ x := fun c hc x hx => by
    obtain ⟨k, hk, rfl⟩ := List.mem_map.mp hc
    obtain ⟨r, hr, rfl⟩ := List.mem_map.mp hx
    exact h.nn r hr _ (getD_mem (by rw [h.wid r hr]; simpa using hk))
  have hne : foundK (cols w rows) ≠ [] := by
    intro z
    have h1 := (found_rays (getD_along 0) (cols w rows)).2
    rw [z, col_sum h.len h.wid h.sum (by omega)] at h1
    have : tot (fun c => c.getD 0 0) [] = 0 := rfl
    omega
  obtain ⟨l1, l2⟩ := left_len hcl
  rw [cols_len] at l2
  have hS0 : left (foundK (cols w rows)) ≠ [] := by
    intro z
    have hl := (left_perm (found_rays (getD_along 0) (cols w rows)).1).length_eq
    rw [z, List.length_map] at hl
    exact hne (List.eq_nil_of_length_eq_zero hl.symm)
  have hnn := left_nn hcn
  have hsum : ∀ x, x < n → ((left (foundK (cols w rows))).map fun c => c.getD x 0).sum = d := fun x hx => by
    rw [left_sum (getD_along x), col_sum h.len h.wid h.sum hx]
  have hW : ∀ gs : List (List Int), gs ≠ [] → W gs (left (foundK (cols w rows))) = W gs (cols w rows) := fun gs hg => W_left hg _
  have po := plain_ok (w' := (left (foundK (cols w rows))).length) h hne
  generalize left (foundK (cols w rows)) = S at *
  have hSl : 1 ≤ S.length := by
    cases S with
    | nil => exact absurd rfl hS0
    | cons _ _ => simp
  have w12 := h.w12
  have tn : ∀ r ∈ turned n S, ∀ x ∈ r, 0 ≤ x := by
    intro r hr x hx
    obtain ⟨k, hk, rfl⟩ := List.mem_map.mp hr
    obtain ⟨c, hc, rfl⟩ := List.mem_map.mp hx
    exact hnn c hc _ (getD_mem (by rw [l1 c hc]; simpa using hk))
  have ts : ∀ r ∈ turned n S, r.sum = d := by
    intro r hr
    obtain ⟨k, hk, rfl⟩ := List.mem_map.mp hr
    exact hsum k (by simpa using hk)
  have tw : ∀ r ∈ turned n S, r.length = S.length := by
    intro r hr
    obtain ⟨k, hk, rfl⟩ := List.mem_map.mp hr
    simp
  have tl : (turned n S).length = n := by simp [turned]
  have TT : Tel n S.length d (turned n S) := ⟨tl, n1, h.n6, tw, hSl, by omega, tn, ts, d1, h.dM⟩
  refine ⟨S.length, _, _, po TT.tab (by omega) tn, low_tel tl n1 h.n6 tw hSl (by omega) tn ts (by omega) h.dM, fun gs hg => ?_⟩
  rw [ratio_low hg tw (by omega), cols_turned l1, hW gs hg]
end NS
set_option linter.all false
set_option maxRecDepth 100000
set_option maxHeartbeats 1000000
set_option exponentiation.threshold 2000
namespace NS
open Tn
open PySem (PyData Str)
abbrev dr : D := Tn.obj 0
def drO (large cells : List Int) (rest turn : Int) : Objs := [⟨0, [.own (large.map .int), .v (.list (cells.map .int)), .v (.int rest), .v (.int turn)]⟩]
structure DrOk (N : Nat) (large cells : List Int) (rest turn : Int) : Prop where
  hl : ∀ x ∈ large, 0 ≤ x
  hc : ∀ c ∈ cells, 0 ≤ c ∧ c < 2147483629
  clen : cells.length ≤ 1000
  hr : 0 ≤ rest
  t0 : 0 ≤ turn
  tN : turn ≤ N
/-- the drawing, so often gone on at most -/
def Dr (N : Nat) (o : Objs) : Prop := ∃ large cells rest turn, o = drO large cells rest turn ∧ DrOk N large cells rest turn
theorem Dr.mono {N M : Nat} {o : Objs} (h : Dr N o) (hm : N ≤ M) : Dr M o := by
  obtain ⟨l, c, r, t, e, h⟩ := h
  exact ⟨l, c, r, t, e, ⟨h.hl, h.hc, h.clen, h.hr, h.t0, by have := h.tN; omega⟩⟩
section
variable {large cells : List Int} {rest turn x : Int}
theorem get_cells : getO 0 1 dr (drO large cells rest turn) = some (.ok (.list (cells.map .int)) (drO large cells rest turn)) := rfl
theorem get_rest : getO 0 2 dr (drO large cells rest turn) = some (.ok (.int rest) (drO large cells rest turn)) := rfl
theorem get_turn : getO 0 3 dr (drO large cells rest turn) = some (.ok (.int turn) (drO large cells rest turn)) := rfl
theorem set_rest : setO 0 2 dr (.int x) (drO large cells rest turn) = some (.ok () (drO large cells x turn)) := rfl
theorem set_turn : setO 0 3 dr (.int x) (drO large cells rest turn) = some (.ok () (drO large cells rest x)) := rfl
theorem pop_large {y : Int} : popO 0 0 dr (drO (y :: large) cells rest turn) = some (.ok (.int y) (drO large cells rest turn)) := rfl
theorem ne_large : neO 0 0 dr (drO large cells rest turn) = some (.ok (.bool (!large.isEmpty)) (drO large cells rest turn)) := by
  have h : (large.map (PyData.int : Int → D)).all (shN 7) = true := by
    rw [List.all_eq_true]
    intro d hd
    obtain ⟨i, _, rfl⟩ := List.mem_map.mp hd
    rfl
  have h2 : (large.map (PyData.int : Int → D)).isEmpty = large.isEmpty := by cases large <;> rfl
  show (if (large.map (PyData.int : Int → D)).all (shN 7) then some (Out.ok (PyData.bool (!(large.map (PyData.int : Int → D)).isEmpty)) (drO large cells rest turn)) else none) = _
  rw [h, if_pos rfl, h2]
end
/-- a mixed number -/
def MixedOk : Prop := ∀ (N : Nat) (large cells : List Int) (rest turn : Int), N ≤ 1000000000 → DrOk N large cells rest turn → ∃ v : Int, 0 ≤ v ∧ G 2 [dr] (drO large cells rest turn) = some (.ok (.int v) (drO large cells rest (turn + 1)))
theorem take_ok (hm : MixedOk) {N : Nat} (hN : N ≤ 1000000000) {many : Int} (h1 : 1 ≤ many) (h2 : many ≤ 1000000) {o : Objs} (h : Dr N o) : Wp (G 3 [dr, .int many]) o fun r o' => ∃ n : Int, r = .int n ∧ 0 ≤ n ∧ n < many ∧ Dr (N + 1) o' := by
  obtain ⟨large, cells, rest, turn, rfl, ok⟩ := h
  have hdiv : divOk many = true := divOk_sm (by omega) (by have : (1000000 : Nat) < 2 ^ 1000 := by decide
                                                           omega)
  -- behind the first test
  have fin : ∀ (large : List Int) (rest turn : Int), DrOk (N + 1) large cells rest turn → Wp (execs (tab fs 3) (.cons (.set (.nm 2) (.bin .mod (.blt .int (.cons (.getF 0 2 (.var 0)) .nil)) (.var 1)))
 (.cons (.setF 0 2 (.var 0) (.bin .fdiv (.blt .int (.cons (.getF 0 2 (.var 0)) .nil)) (.var 1)))
 (.cons (.ret (.var 2))
 .nil))) [some (.v dr), some (.v (.int many)), none]) (drO large cells rest turn) fun r o' => ∃ d, r.1 = .rt d ∧ ∃ n : Int, d = .int n ∧ 0 ≤ n ∧ n < many ∧ Dr (N + 1) o' := by
    intro large rest turn ok
    refine ⟨(.rt (.int (rest % many)), [some (.v dr), some (.v (.int many)), some (.v (.int (rest % many)))]), drO large cells (rest / many) turn, ?_, _, rfl, _, rfl, Int.emod_nonneg _ (by omega), Int.emod_lt_of_pos _ (by omega), large, cells, _, turn, rfl, ⟨ok.hl, ok.hc, ok.clen, Int.ediv_nonneg ok.hr (by omega), ok.t0, ok.tN⟩⟩
    have hp : 0 < many := by omega
    simp [execs, exec, getV, asg, M.bind, get_rest, bltD, un, intD, binD, ints2, hp, hdiv, M.lift, M.pure, set_rest, frz, frzC]
  rw [R3]
  refine wp_fin ?_
  show Wp (execs (tab fs 3) f3.body [some (.v dr), some (.v (.int many)), none]) _ _
  refine wp_cons ?_
  by_cases hr : rest = 0
  · subst hr
    cases large with
    | nil =>
      obtain ⟨v, hv, hg⟩ := hm N [] cells 0 turn hN ok
      refine ⟨(.nx, [some (.v dr), some (.v (.int many)), none]), drO [] cells v (turn + 1), ?_, rfl, fin [] v (turn + 1) ⟨ok.hl, ok.hc, ok.clen, hv, by have := ok.t0; omega, by have := ok.tN; omega⟩⟩
      have hc : tab fs 3 2 = G 2 := call (by decide)
      simp [execs, exec, getV, M.bind, get_rest, M.lift, M.pure, ne_large, hc, hg, set_rest]
    | cons y ys =>
      refine ⟨(.nx, [some (.v dr), some (.v (.int many)), none]), drO ys cells y turn, ?_, rfl, fin ys y turn ⟨fun x hx => ok.hl x (List.mem_cons_of_mem _ hx), ok.hc, ok.clen, ok.hl y List.mem_cons_self, ok.t0, by have := ok.tN; omega⟩⟩
      simp [execs, exec, getV, M.bind, get_rest, M.lift, M.pure, ne_large, pop_large, set_rest]
  · refine ⟨(.nx, [some (.v dr), some (.v (.int many)), none]), drO large cells rest turn, ?_, rfl, fin large rest turn ⟨ok.hl, ok.hc, ok.clen, ok.hr, ok.t0, by have := ok.tN; omega⟩⟩
    simp [execs, exec, getV, M.bind, get_rest, M.lift, M.pure, hr]
end NS
set_option autoImplicit false
set_option linter.all false
set_option maxRecDepth 100000
set_option maxHeartbeats 1000000
set_option exponentiation.threshold 2000
namespace NS
open Tn
open PySem (PyData Str)
theorem mixed_ok : MixedOk := by
  intro N large cells rest turn hN ok
  have t0 := ok.t0
  have tN := ok.tN
  have key : Wp (G 2 [dr]) (drO large cells rest turn) fun r o' => o' = drO large cells rest (turn + 1) ∧ ∃ v : Int, r = .int v ∧ 0 ≤ v := by
    rw [R2]
    refine wp_fin ?_
    show Wp (execs (tab fs 2) f2.body [some (.v dr), none, none, none, none, none]) _ _
    refine wp_cons ⟨(.nx, [some (.v dr), some (.v (.int (turn + 1))), some (.v (.int 0)), none, none, none]), drO large cells rest turn, by simp [exec, ev, evs, getV, asg, M.bind, get_turn, binD, addD, setAll, M.lift, M.pure], rfl, ?_⟩
    refine wp_cons ⟨(.nx, [some (.v dr), some (.v (.int (turn + 1))), some (.v (.int 0)), none, none, none]), drO large cells rest (turn + 1), by simp [exec, ev, evs, getV, asg, M.bind, set_turn, M.lift, M.pure], rfl, ?_⟩
    refine wp_cons (wp_for ?_)
    refine ⟨[.int 2147483647, .int 2147483629, .int 2147483587, .int 2147483579], drO large cells rest (turn + 1), by simp [iters, ev, evs, M.bind, M.lift, M.pure, itemsOf], ?_⟩
    refine (wp_forL (fun n env o => o = drO large cells rest (turn + 1) ∧ ∃ v : Int, ∃ a b c, env = [some (.v dr), some (.v (.int (turn + 1))), some (.v (.int v)), a, b, c] ∧ 0 ≤ v ∧ v < 2 ^ (60 * n)) _ 0 _ _ ⟨rfl, 0, _, _, _, rfl, by omega, by decide⟩ ?_).imp ?_
    · rintro i env o x hx ⟨rfl, v, a, b, c, rfl, hv, hb⟩
      have hp : ∃ p : Int, x = .int p ∧ 2 ≤ p ∧ p < 2147483648 := by
        have hm : x ∈ [(.int 2147483647 : D), .int 2147483629, .int 2147483587, .int 2147483579] := List.mem_of_getElem? hx
        simp at hm
        rcases hm with h | h | h | h <;> exact ⟨_, h, by decide, by decide⟩
      obtain ⟨p, rfl, p1, p2⟩ := hp
      have i4 : i < 4 := by
        have := (List.getElem?_eq_some_iff.mp hx).1
        simpa using this
      have big : (2147483648 * 4000000 : Nat) * 100000000 < 2 ^ 1000 := by decide
      have m1 : mulOk 48271 (turn + 1) = true := mulOk_sm (by omega) (by omega)
      have d1 : divOk 37 = true := by decide
      have hdp : divOk p = true := divOk_sm (by omega) (by omega)
      rw [show asg (.nm 3) (.int p) [some (.v dr), some (.v (.int (turn + 1))), some (.v (.int v)), a, b, c] = some [some (.v dr), some (.v (.int (turn + 1))), some (.v (.int v)), some (.v (.int p)), b, c] from rfl, lsome, bpure]
      have q0 : 0 ≤ p / 37 := Int.ediv_nonneg (by omega) (by omega)
      have q1 : p / 37 < 2147483648 := by omega
      refine wp_cons ⟨(.nx, [some (.v dr), some (.v (.int (turn + 1))), some (.v (.int v)), some (.v (.int p)), some (.v (.int (48271 * (turn + 1) + p / 37))), c]), drO large cells rest (turn + 1), by simp [exec, ev, getV, asg, M.bind, binD, addD, mulD, ints2, m1, d1, M.lift, M.pure], rfl, ?_⟩
      refine wp_cons (wp_for ?_)
      refine ⟨cells.map .int, drO large cells rest (turn + 1), by simp [iters, ev, getV, M.bind, get_cells, M.lift, M.pure, itemsOf], ?_⟩
      refine (wp_forL (fun _ env o => o = drO large cells rest (turn + 1) ∧ ∃ f : Int, ∃ c, env = [some (.v dr), some (.v (.int (turn + 1))), some (.v (.int v)), some (.v (.int p)), some (.v (.int f)), c] ∧ 0 ≤ f ∧ f < 70368744177664) _ 0 _ _ ⟨rfl, _, _, rfl, by omega, by omega⟩ ?_).imp ?_
      · rintro j env o y hy ⟨rfl, f, c, rfl, f0, f1⟩
        obtain ⟨z, hz, rfl⟩ := List.mem_map.mp (List.mem_of_getElem? hy)
        obtain ⟨z0, z1⟩ := ok.hc z hz
        have m2 : mulOk f 69621 = true := mulOk_sm (by omega) (by omega)
        have g0 : 0 ≤ (f * 69621 + z + (turn + 1)) % p := Int.emod_nonneg _ (by omega)
        have g1 : (f * 69621 + z + (turn + 1)) % p < p := Int.emod_lt_of_pos _ (by omega)
        rw [show asg (.nm 5) (.int z) [some (.v dr), some (.v (.int (turn + 1))), some (.v (.int v)), some (.v (.int p)), some (.v (.int f)), c] = some [some (.v dr), some (.v (.int (turn + 1))), some (.v (.int v)), some (.v (.int p)), some (.v (.int f)), some (.v (.int z))] from rfl, lsome, bpure]
        have pp : 0 < p := by omega
        exact wp_cons ⟨(.nx, [some (.v dr), some (.v (.int (turn + 1))), some (.v (.int v)), some (.v (.int p)), some (.v (.int ((f * 69621 + z + (turn + 1)) % p))), some (.v (.int z))]), drO large cells rest (turn + 1), by simp [exec, ev, evs, getV, asg, M.bind, bltD, un, intD, binD, addD, mulD, ints2, m2, pp, hdp, M.lift, M.pure], rfl, wp_nil ⟨rfl, rfl, _, _, rfl, g0, by omega⟩⟩
      · rintro ⟨fl, env⟩ o' ⟨h1, rfl, f, c, rfl, f0, f1⟩
        refine ⟨h1, ?_⟩
        have e60 : (2 : Int) ^ (60 * (0 + i + 1)) = 2 ^ (60 * (0 + i)) * 1152921504606846976 := by
          rw [show 60 * (0 + i + 1) = 60 * (0 + i) + 60 by omega, Int.pow_add]; rfl
        have vb : v.natAbs < 2 ^ 1000 := by
          have h1 : (2 : Nat) ^ (60 * (0 + i)) ≤ 2 ^ 1000 := Nat.pow_le_pow_right (by omega) (by omega)
          have h2 : v < ((2 ^ (60 * (0 + i)) : Nat) : Int) := by rw [Int.natCast_pow]; exact hb
          omega
        have m3 : mulOk v 2147483648 = true := mulOk_sm vb (by omega)
        refine wp_cons ⟨(.nx, [some (.v dr), some (.v (.int (turn + 1))), some (.v (.int (v * 2147483648 + f))), some (.v (.int p)), some (.v (.int f)), c]), drO large cells rest (turn + 1), by simp [exec, ev, getV, asg, M.bind, binD, addD, mulD, m3, M.lift, M.pure], rfl, wp_nil ⟨rfl, rfl, _, _, _, _, rfl, by omega, ?_⟩⟩
        rw [e60]
        generalize (2 : Int) ^ (60 * (0 + i)) = X at *
        omega
    · rintro ⟨fl, env⟩ o' ⟨h1, rfl, v, a, b, c, rfl, hv, _⟩
      refine ⟨h1, ?_⟩
      exact wp_last ⟨(.rt (.int v), [some (.v dr), some (.v (.int (turn + 1))), some (.v (.int v)), a, b, c]), _, by simp [exec, ev, getV, M.bind, M.lift, M.pure, frz, frzC], ⟨_, rfl⟩, _, rfl, rfl, v, rfl, hv⟩
  obtain ⟨r, o', e, rfl, v, rfl, hv⟩ := key
  exact ⟨v, hv, e⟩
end NS
set_option linter.all false
set_option maxRecDepth 100000
set_option maxHeartbeats 1000000
set_option exponentiation.threshold 2000
namespace NS
open Tn
open PySem (PyData Str)
/-- a number below `many` -/
theorem take_wp {N : Nat} (hN : N ≤ 1000000000) {many : Int} (h1 : 1 ≤ many) (h2 : many ≤ 1000000) {o : Objs} (h : Dr N o) : Wp (G 3 [dr, .int many]) o fun r o' => ∃ n : Int, r = .int n ∧ 0 ≤ n ∧ n < many ∧ Dr (N + 1) o' := take_ok mixed_ok hN h1 h2 h
/-- one of a list -/
theorem pick_wp {N : Nat} (hN : N ≤ 1000000000) {ys : List D} (h1 : ys ≠ []) (h2 : ys.length ≤ 1000000) {o : Objs} (h : Dr N o) : Wp (G 4 [dr, .list ys]) o fun r o' => r ∈ ys ∧ Dr (N + 1) o' := by
  rw [R4]
  refine wp_fin ?_
  show Wp (execs (tab fs 4) f4.body [some (.v dr), some (.v (.list ys))]) _ _
  refine wp_last ?_
  have hc : tab fs 4 3 = G 3 := call (by decide)
  have hl : 0 < ys.length := List.length_pos_iff.mpr h1
  obtain ⟨r, o', e, n, rfl, n0, n1, hd⟩ := take_wp hN (many := (ys.length : Nat)) (by omega) (by omega) h
  have hn : n.toNat < ys.length := by omega
  refine ⟨(.rt ys[n.toNat], [some (.v dr), some (.v (.list ys))]), o', ?_, ⟨_, rfl⟩, _, rfl, List.getElem_mem hn, hd⟩
  have hi : idxD (.list ys) (.int n) = some ys[n.toNat] := by
    have : ixAt ys.length n = some n.toNat := by unfold ixAt; rw [if_pos n0, if_pos n1]
    simp [idxD, this, hn]
  simp [exec, ev, evs, getV, frz, frzC, M.bind, hc, bltD, un, lenD, M.lift, M.pure, e, hi]
end NS
set_option linter.all false
set_option maxRecDepth 100000
set_option maxHeartbeats 1000000
set_option exponentiation.threshold 2000
namespace NS
open Tn
open PySem (PyData Str)
theorem sum_up : ∀ (xs : List Int) (j : Nat) (h : j < xs.length), (xs.set j (xs[j] + 1)).sum = xs.sum + 1
  | x :: xs, 0, _ => by simp; omega
  | x :: xs, j + 1, h => by
    have := sum_up xs j (by simpa using h)
    simp at this ⊢
    omega
/-- some numbers below `many` -/
theorem picks_wp {N : Nat} (hN : N ≤ 100000000) {m : Int} (h1 : 1 ≤ m) (h2 : m ≤ 1000) {F : Nat → List D → M D} (hF : F 3 = G 3) {env : Env} {own : List Nat} {t : Nat}
    (hc : clearE env own = true) (e0 : ∀ e x, asg (.nm t) x (wipeE env own) = some e → getV e 0 = M.pure dr ∧ getV e 2 = M.pure (PyData.int m)) (ea : ∀ x, ∃ e, asg (.nm t) x (wipeE env own) = some e) (g0 : getV env 0 = M.pure dr) {o : Objs} (h : Dr N o) :
    Wp (ev F (.comp own (.call 3 (.cons (.var 0) (.cons (.var 2) .nil))) (.nm t) (.rng1 (.bin .add (.con (.int 1)) (.call 3 (.cons (.var 0) (.cons (.con (.int 4)) .nil))))) .none) env) o fun r o' =>
      ∃ ys : List D, r = .list ys ∧ 1 ≤ ys.length ∧ ys.length ≤ 4 ∧ (∀ y ∈ ys, ∃ n : Int, y = .int n ∧ 0 ≤ n ∧ n < m) ∧ Dr (N + 5) o' := by
  refine wp_comp (R := fun y => ∃ n : Int, y = .int n ∧ 0 ≤ n ∧ n < m) (I := fun i o => Dr i o) hc ?_
  obtain ⟨r, o1, e, k, rfl, k0, k1, hd⟩ := take_wp (by omega) (many := 4) (by omega) (by omega) h
  refine ⟨rngL 0 (1 + k).toNat, o1, ?_, by simp [rngL]; omega, N + 1, hd, ?_, ?_⟩
  · have hb : (-16777216 : Int) ≤ 1 + k ∧ 1 + k ≤ 16777216 := by omega
    simp [iters, ev, evs, M.bind, g0, hF, e, binD, addD, M.lift, M.pure, intOf, hb]
  · intro x hx j o hj hj2 hI
    have hj3 : j ≤ 1000000000 := by simp [rngL] at hj2; omega
    obtain ⟨e1, he1⟩ := ea x
    obtain ⟨a1, a2⟩ := e0 _ _ he1
    obtain ⟨r, o3, e', n, rfl, n0, n1, hd'⟩ := take_wp hj3 h1 (by omega) hI
    exact ⟨e1, he1, .int n, o3, by simp [ev, evs, M.bind, a1, a2, hF, e', M.pure], ⟨n, rfl, n0, n1⟩, hd'⟩
  · intro ys o2 hl hr hI
    refine ⟨ys, rfl, ?_, ?_, hr, ?_⟩
    · rw [hl]; simp [rngL]; omega
    · rw [hl]; simp [rngL]; omega
    · refine Dr.mono hI ?_; simp [rngL]; omega
end NS
set_option linter.all false
set_option maxRecDepth 100000
set_option maxHeartbeats 1000000
set_option exponentiation.threshold 2000
namespace NS
open Tn
open PySem (PyData Str)
/-- a row: so many numbers from 0, of that sum -/
theorem row_wp {N : Nat} (hN : N ≤ 90000000) {s m : Int} (s0 : 0 ≤ s) (s1 : s ≤ 1000) (h1 : 1 ≤ m) (h2 : m ≤ 1000) {o : Objs} (h : Dr N o) :
    Wp (G 5 [dr, .int s, .int m]) o fun r o' => ∃ xs : List Int, r = .tuple (xs.map .int) ∧ (xs.length : Int) = m ∧ (∀ x ∈ xs, 0 ≤ x) ∧ xs.sum = s ∧ Dr (N + 5 + s.toNat) o' := by
  rw [R5]
  refine wp_fin ?_
  show Wp (execs (tab fs 5) f5.body [some (.v dr), some (.v (.int s)), some (.v (.int m)), none, none, none, none]) _ _
  refine wp_cons ?_
  have hp := picks_wp (N := N) (by omega) h1 h2 (F := tab fs 5) (call (by decide)) (env := [some (.v dr), some (.v (.int s)), some (.v (.int m)), none, none, none, none]) (own := [5]) (t := 5) rfl
    (by intro e x he; simp [asg, wipeE] at he; subst he; exact ⟨rfl, rfl⟩) (by intro x; exact ⟨_, rfl⟩) rfl h
  obtain ⟨r, o1, e, ys, rfl, y1, y4, hy, hd⟩ := hp
  have hz : (List.replicate m.toNat [(.int 0 : D)]).flatten = (List.replicate m.toNat (0 : Int)).map .int := by
    generalize m.toNat = k
    induction k with
    | zero => rfl
    | succ k ih => simp [List.replicate_succ, ih]
  refine ⟨(.nx, [some (.v dr), some (.v (.int s)), some (.v (.int m)), some (.own ((List.replicate m.toNat (0 : Int)).map .int)), some (.v (.list ys)), none, none]), o1, ?_, rfl, ?_⟩
  · have hm : mulD (.list [.int 0]) (.int m) = some (.list ((List.replicate m.toNat (0 : Int)).map .int)) := by
      rw [← hz]; show (if _ then _ else _) = _; rw [if_pos ⟨by omega, h2, by simp⟩]
    have ha : ev (tab fs 5) (.bin .mul (.lst (.cons (.con (.int 0)) .nil)) (.var 2)) [some (.v dr), some (.v (.int s)), some (.v (.int m)), none, none, none, none] = M.pure (.list ((List.replicate m.toNat (0 : Int)).map .int)) := by
      simp [ev, evs, getV, binD, hm]
    show (M.bind _ _ : M _) o = _
    rw [ha, bpure]
    show (M.bind _ _ : M _) o = _
    rw [show listOf (.list ((List.replicate m.toNat (0 : Int)).map .int)) = some ((List.replicate m.toNat (0 : Int)).map .int) from rfl, lsome, bpure]
    show (M.bind _ _ : M _) o = _
    unfold M.bind
    rw [e]
    rfl
  refine wp_cons (wp_for ?_)
  have hs : -(big : Int) ≤ s ∧ s ≤ big := by unfold big; omega
  refine ⟨rngL 0 s.toNat, o1, by unfold big at hs; simp [iters, ev, getV, M.bind, M.lift, M.pure, intOf, big]; rw [if_pos (by simpa using hs)]; rfl, ?_⟩
  refine (wp_forL (fun n env o => Dr (N + 5 + n) o ∧ ∃ xs : List Int, ∃ a b, env = [some (.v dr), some (.v (.int s)), some (.v (.int m)), some (.own (xs.map .int)), some (.v (.list ys)), a, b] ∧ (xs.length : Int) = m ∧ (∀ x ∈ xs, 0 ≤ x) ∧ xs.sum = n) _ 0 _ _ ⟨hd, _, _, _, rfl, by simp; omega, by intro x hx; have := List.eq_of_mem_replicate hx; omega, by simp⟩ ?_).imp ?_
  · rintro i env o x hx ⟨hd, xs, a, b, rfl, hl, hn, hsum⟩
    have hi : i < s.toNat := by
      have := (List.getElem?_eq_some_iff.mp hx).1
      simpa [rngL] using this
    rw [show asg (.nm 5) x [some (.v dr), some (.v (.int s)), some (.v (.int m)), some (.own (xs.map .int)), some (.v (.list ys)), a, b] = some [some (.v dr), some (.v (.int s)), some (.v (.int m)), some (.own (xs.map .int)), some (.v (.list ys)), some (.v x), b] from rfl, lsome, bpure]
    have hc : tab fs 5 4 = G 4 := call (by decide)
    obtain ⟨r, o2, e2, hr, hd2⟩ := pick_wp (by omega) (ys := ys) (by intro h; subst h; simp at y1) (by omega) hd
    obtain ⟨n, rfl, n0, n1⟩ := hy r hr
    have hn2 : n.toNat < xs.length := by omega
    refine wp_cons ⟨(.nx, [some (.v dr), some (.v (.int s)), some (.v (.int m)), some (.own (xs.map .int)), some (.v (.list ys)), some (.v x), some (.v (.int n))]), o2, by simp [exec, ev, evs, getV, asg, M.bind, hc, e2, M.lift, M.pure], rfl, ?_⟩
    have hix : ixAt (xs.map (PyData.int : Int → D)).length n = some n.toNat := by unfold ixAt; rw [List.length_map, if_pos n0, if_pos (by omega)]
    have hset : (xs.map (PyData.int : Int → D)).set n.toNat (.int (xs[n.toNat] + 1)) = (xs.set n.toNat (xs[n.toNat] + 1)).map .int := by rw [List.map_set]
    have hidx : idxD (.list (xs.map .int)) (.int n) = some (.int xs[n.toNat]) := by simp only [idxD]; rw [hix]; simp [hn2]
    refine wp_cons ⟨(.nx, [some (.v dr), some (.v (.int s)), some (.v (.int m)), some (.own ((xs.set n.toNat (xs[n.toNat] + 1)).map .int)), some (.v (.list ys)), some (.v x), some (.v (.int n))]), o2, ?_, rfl, wp_nil ⟨rfl, by rw [show N + 5 + (0 + i + 1) = N + 5 + (0 + i) + 1 by omega]; exact hd2, _, _, _, rfl, by simpa using hl, ?_, by rw [sum_up _ _ hn2, hsum]; omega⟩⟩
    · rw [← hset]
      rw [List.length_map] at hix
      simp [exec, ev, getV, M.bind, ownAt, hidx, binD, addD, intOf, hix, M.lift, M.pure]
    · intro z hz
      rcases List.mem_or_eq_of_mem_set hz with h | h
      · exact hn z h
      · have := hn _ (List.getElem_mem hn2); omega
  · rintro ⟨fl, env⟩ o2 ⟨h1', hd2, xs, a, b, rfl, hl, hn, hsum⟩
    refine ⟨h1', wp_last ⟨(.rt (.tuple (xs.map .int)), [some (.v dr), some (.v (.int s)), some (.v (.int m)), some (.own (xs.map .int)), some (.v (.list ys)), a, b]), o2, ?_, ⟨_, rfl⟩, _, rfl, xs, rfl, hl, hn, ?_, ?_⟩⟩
    · simp [exec, ev, evs, getV, frz, frzC, M.bind, bltD, un, M.lift, M.pure, itemsOf]
    · rw [hsum]; simp [rngL]; omega
    · simpa [rngL] using hd2
end NS
set_option linter.all false
set_option maxRecDepth 100000
set_option maxHeartbeats 1000000
set_option exponentiation.threshold 2000
namespace NS
open Tn
open PySem (PyData Str)
/-- the drawing, begun -/
theorem begun_ok {ns : List Int} (hl : ns.length ≤ 63) : ∃ o, G 0 [scrD (ns.map .int)] [] = some (.ok dr o) ∧ Dr 0 o := by
  have hp : binD .pow (.int 10) (.int 18) = some (.int 1000000000000000000) := by simp [binD, ints2]
  have ab : ∀ x : Int, absD (.int x) = some (.int (x.natAbs : Int)) := fun x => by
    have : (if x < 0 then -x else x) = (x.natAbs : Int) := by omega
    simp [absD, this]
  have is : itemsS (scrD (ns.map .int)) = some (ns.map .int) := rfl
  have c1 : ev (tab fs 0) (.comp [2] (.bin .sub (.blt .abs (.cons (.var 2) .nil)) (.bin .pow (.con (.int 10)) (.con (.int 18)))) (.nm 2) (.seq (.var 0)) (.some (.cmp .ge (.blt .abs (.cons (.var 2) .nil)) (.bin .pow (.con (.int 10)) (.con (.int 18))))))
      [some (.v (scrD (ns.map .int))), none, none] = M.pure (.list (((ns.filter fun x => decide (1000000000000000000 ≤ (x.natAbs : Int))).map fun x => (x.natAbs : Int) - 1000000000000000000).map .int)) := by
    rw [x_compF (xs := ns) (enc := .int) (q := fun x => decide (1000000000000000000 ≤ (x.natAbs : Int))) (g := fun x => .int ((x.natAbs : Int) - 1000000000000000000))]
    · rw [List.map_map]; rfl
    · simp [getV, is]
    · rfl
    · intro x hx
      refine ⟨_, .bool (decide (1000000000000000000 ≤ (x.natAbs : Int))), rfl, ?_, rfl, fun _ => ?_⟩
      · simp [getV, wipeE, bltD, un, ab, hp]
      · simp [getV, wipeE, bltD, un, ab, hp, binD, ints2]
    · simp; omega
  have c2 : ∀ l : List D, ev (tab fs 0) (.comp [2] (.bin .mod (.blt .int (.cons (.blt .abs (.cons (.var 2) .nil)) .nil)) (.con (.int 2147483629))) (.nm 2) (.seq (.var 0)) .none) [some (.v (scrD (ns.map .int))), some (.own l), none] =
      M.pure (.list ((ns.map fun x => (x.natAbs : Int) % 2147483629).map .int)) := fun l => by
    rw [x_comp (xs := ns) (enc := .int) (g := fun x => .int ((x.natAbs : Int) % 2147483629))]
    · rw [List.map_map]; rfl
    · simp [getV, is]
    · rfl
    · intro x hx
      refine ⟨_, rfl, ?_⟩
      simp [getV, wipeE, bltD, un, ab, binD, ints2, intD]
    · simp; omega
  generalize hA : (ns.filter fun x => decide (1000000000000000000 ≤ (x.natAbs : Int))).map (fun x => (x.natAbs : Int) - 1000000000000000000) = A at c1
  have hA0 : ∀ x ∈ A, 0 ≤ x := by
    subst hA
    intro x hx
    obtain ⟨y, hy, rfl⟩ := List.mem_map.mp hx
    have := of_decide_eq_true (List.mem_filter.mp hy).2
    omega
  refine ⟨drO A (ns.map fun x => (x.natAbs : Int) % 2147483629) 0 0, ?_, _, _, _, _, rfl, hA0, ?_, by rw [List.length_map]; omega, by omega, by omega, by omega⟩
  · rw [R0]
    show (M.bind _ _ : M _) [] = _
    rw [f0, exs_nx (ex_own c1 (by simp))]
    simp only [List.set_cons_succ, List.set_cons_zero]
    show (M.bind (M.bind (M.bind _ _) _) _ : M _) [] = _
    have hn : guardB (decide (movedIx [(true, E.var 1), (false, (.comp [2] (.bin .mod (.blt .int (.cons (.blt .abs (.cons (.var 2) .nil)) .nil)) (.con (.int 2147483629))) (.nm 2) (.seq (.var 0)) .none)), (false, (.con (.int 0))), (false, (.con (.int 0)))]).Nodup) = M.pure () := rfl
    rw [hn, bpure]
    simp only [fields, fieldC, ownAt, List.getElem?_cons_succ, List.getElem?_cons_zero, lsome, bpure, c2, x_con]
    rfl
  · intro c hc
    obtain ⟨x, _, rfl⟩ := List.mem_map.mp hc
    exact ⟨Int.emod_nonneg _ (by omega), Int.emod_lt_of_pos _ (by omega)⟩
/-- so many rows -/
theorem rows_wp {N : Nat} (hN : N ≤ 80000000) {s m : Int} (s0 : 0 ≤ s) (s1 : s ≤ 12) (h1 : 1 ≤ m) (h2 : m ≤ 1000) {k : Nat} (hk : k ≤ 12) {F : Nat → List D → M D} (hF : F 5 = G 5) {env : Env} {t vs vm vn : Nat}
    (hc : clearE env [t] = true) (ht : t < env.length) (h0 : ∀ x, getV ((wipeE env [t]).set t (some (.v x))) 0 = M.pure dr) (hs : ∀ x, getV ((wipeE env [t]).set t (some (.v x))) vs = M.pure (PyData.int s)) (hm : ∀ x, getV ((wipeE env [t]).set t (some (.v x))) vm = M.pure (PyData.int m)) (hn : getV env vn = M.pure (PyData.int k)) {o : Objs} (h : Dr N o) :
    Wp (ev F (.comp [t] (.call 5 (.cons (.var 0) (.cons (.var vs) (.cons (.var vm) .nil)))) (.nm t) (.rng1 (.var vn)) .none) env) o fun r o' =>
      ∃ rows : List (List Int), r = .list (rows.map tup) ∧ rows.length = k ∧ (∀ r ∈ rows, (r.length : Int) = m ∧ (∀ x ∈ r, 0 ≤ x) ∧ r.sum = s) ∧ Dr (N + 20 * k) o' := by
  refine wp_comp (R := fun y => ∃ r : List Int, y = tup r ∧ (r.length : Int) = m ∧ (∀ x ∈ r, 0 ≤ x) ∧ r.sum = s) (I := fun i o => Dr (N + 20 * i) o) hc ?_
  refine ⟨rngL 0 k, o, ?_, by simp [rngL]; omega, 0, h, ?_, ?_⟩
  · have hb : (-16777216 : Int) ≤ k ∧ (k : Int) ≤ 16777216 := by omega
    simp [iters, ev, M.bind, hn, M.lift, M.pure, intOf, hb]
  · intro x hx j o hj hj2 hI
    have hj3 : j < 12 := by simp [rngL] at hj2; omega
    obtain ⟨r, o3, e', xs, rfl, l1, l2, l3, hd'⟩ := row_wp (N := N + 20 * j) (by omega) s0 (by omega) h1 h2 hI
    refine ⟨(wipeE env [t]).set t (some (.v x)), ?_, _, o3, ?_, ⟨xs, rfl, l1, l2, l3⟩, Dr.mono hd' (by omega)⟩
    · have : t < (wipeE env [t]).length := by simp [wipeE]; exact ht
      simp [asg, this]
    · have e0 := h0 x
      have es := hs x
      have em := hm x
      generalize (wipeE env [t]).set t (some (.v x)) = E0 at e0 es em
      simp [ev, evs, M.bind, e0, es, em, hF, e', M.pure]; rfl
  · intro ys o2 hl hr hI
    have : ∃ rows : List (List Int), ys = rows.map tup ∧ (∀ r ∈ rows, (r.length : Int) = m ∧ (∀ x ∈ r, 0 ≤ x) ∧ r.sum = s) := by
      clear hl hI
      induction ys with
      | nil => exact ⟨[], rfl, fun r hr => by simp at hr⟩
      | cons y ys ih =>
        obtain ⟨rows, e, h⟩ := ih fun d hd => hr d (List.mem_cons_of_mem _ hd)
        obtain ⟨r, e2, h2⟩ := hr y List.mem_cons_self
        refine ⟨r :: rows, by rw [e2, e]; rfl, fun q hq => ?_⟩
        rcases List.mem_cons.mp hq with rfl | hq
        · exact h2
        · exact h q hq
    obtain ⟨rows, rfl, hq⟩ := this
    refine ⟨rows, rfl, by simpa [rngL] using hl, hq, ?_⟩
    refine Dr.mono hI ?_; simp [rngL]
/-- a garbler -/
theorem garbler_wp {N : Nat} (hN : N ≤ 9000000) {w : Nat} {m : Int} (w1 : 1 ≤ w) (w2 : w ≤ 12) (h1 : 1 ≤ m) (h2 : m ≤ 12) {o : Objs} (h : Dr N o) :
    Wp (G 6 [dr, .int w, .int m]) o fun r o' => ∃ (e : Int) (rows : List (List Int)), r = Gb e rows ∧ Gar w m.toNat e rows ∧ e ≤ 6 ∧ Dr (N + 300) o' := by
  rw [R6]
  refine wp_fin ?_
  show Wp (execs (tab fs 6) f6.body [some (.v dr), some (.v (.int w)), some (.v (.int m)), none, none]) _ _
  have hc : tab fs 6 3 = G 3 := call (by decide)
  obtain ⟨r, o1, e, k, rfl, k0, k1, hd⟩ := take_wp (by omega) (many := 6) (by omega) (by omega) h
  refine wp_cons ⟨(.nx, [some (.v dr), some (.v (.int w)), some (.v (.int m)), some (.v (.int (1 + k))), none]), o1, by simp [exec, ev, evs, getV, asg, M.bind, hc, e, binD, addD, M.lift, M.pure], rfl, ?_⟩
  obtain ⟨r, o2, e2, rows, rfl, l1, l2, hd2⟩ := rows_wp (N := N + 1) (s := 1 + k) (m := m) (k := w) (by omega) (by omega) (by omega) h1 (by omega) (by omega) (F := tab fs 6) (call (by decide)) (env := [some (.v dr), some (.v (.int w)), some (.v (.int m)), some (.v (.int (1 + k))), none]) (t := 4) (vs := 3) (vm := 2) (vn := 1) rfl (by simp) (fun _ => rfl) (fun _ => rfl) (fun _ => rfl) rfl hd
  refine wp_last ⟨(.rt (Gb (1 + k) rows), [some (.v dr), some (.v (.int w)), some (.v (.int m)), some (.v (.int (1 + k))), none]), o2, ?_, ⟨_, rfl⟩, _, rfl, _, rows, rfl, ⟨l1, w1, w2, fun r hr => ?_, by omega, by omega, fun r hr => (l2 r hr).2.1, fun r hr => (l2 r hr).2.2, by omega, by omega⟩, by omega, Dr.mono hd2 (by omega)⟩
  · have c1 : ev (tab fs 6) (.comp [4] (.call 5 (.cons (.var 0) (.cons (.var 3) (.cons (.var 2) .nil)))) (.nm 4) (.rng1 (.var 1)) .none) [some (.v dr), some (.v (.int w)), some (.v (.int m)), some (.v (.int (1 + k))), none] o1 = some (.ok (.list (rows.map tup)) o2) := e2
    show (M.bind (ev _ _ _) _ : M _) o1 = _
    generalize hc : (E.comp [4] (.call 5 (.cons (.var 0) (.cons (.var 3) (.cons (.var 2) .nil)))) (.nm 4) (.rng1 (.var 1)) .none) = cc at c1
    simp [ev, evs, M.bind, c1, getV, frz, frzC, bltD, un, M.lift, M.pure, Gb, tups]
  · have := (l2 r hr).1
    omega
/-- a teller -/
theorem drawn_wp {N : Nat} (hN : N ≤ 9000000) {n : Nat} (n1 : 1 ≤ n) (n2 : n ≤ 6) {o : Objs} (h : Dr N o) :
    Wp (G 13 [dr, .int n, .int 5]) o fun r o' => ∃ (w : Nat) (d : Int) (rows : List (List Int)), r = T d rows ∧ Tel n w d rows ∧ w ≤ 5 ∧ d ≤ 12 ∧ Dr (N + 300) o' := by
  rw [R13]
  refine wp_fin ?_
  show Wp (execs (tab fs 13) f13.body [some (.v dr), some (.v (.int n)), some (.v (.int 5)), none, none, none, none]) _ _
  have hc : tab fs 13 3 = G 3 := call (by decide)
  obtain ⟨r, o1, e, k, rfl, k0, k1, hd⟩ := take_wp (by omega) (many := 12) (by omega) (by omega) h
  obtain ⟨r, o2, e2, j, rfl, j0, j1, hd⟩ := take_wp (by omega) (many := 5) (by omega) (by omega) hd
  refine wp_cons ⟨(.nx, [some (.v dr), some (.v (.int n)), some (.v (.int 5)), some (.v (.int (1 + k))), some (.v (.int (1 + j))), none, none]), o2, by simp [exec, ev, evs, getV, asg, asgs, M.bind, hc, e, e2, binD, addD, M.lift, M.pure], rfl, ?_⟩
  obtain ⟨r, o3, e3, rows, rfl, l1, l2, hd⟩ := rows_wp (N := N + 1 + 1) (s := 1 + k) (m := 1 + j) (k := n) (by omega) (by omega) (by omega) (by omega) (by omega) (by omega) (F := tab fs 13) (call (by decide)) (env := [some (.v dr), some (.v (.int n)), some (.v (.int 5)), some (.v (.int (1 + k))), some (.v (.int (1 + j))), none, none]) (t := 6) (vs := 3) (vm := 4) (vn := 1) rfl (by simp) (fun _ => rfl) (fun _ => rfl) (fun _ => rfl) rfl hd
  refine wp_cons (wp_set ⟨_, o3, e3, _, rfl, rfl, ?_⟩)
  obtain ⟨r, o4, e4, q, rfl, q0, q1, hd⟩ := take_wp (by omega) (many := 6) (by omega) (by omega) hd
  have tel : ∀ rows : List (List Int), rows.length = n → (∀ r ∈ rows, (r.length : Int) = 1 + j ∧ (∀ x ∈ r, 0 ≤ x) ∧ r.sum = 1 + k) → Tel n (1 + j).toNat (1 + k) rows := fun rows l1 l2 =>
    ⟨l1, n1, n2, fun r hr => by have := (l2 r hr).1; omega, by omega, by omega, fun r hr => (l2 r hr).2.1, fun r hr => (l2 r hr).2.2, by omega, by omega⟩
  have last : ∀ rows : List (List Int), rows.length = n → (∀ r ∈ rows, (r.length : Int) = 1 + j ∧ (∀ x ∈ r, 0 ≤ x) ∧ r.sum = 1 + k) → Wp (execs (tab fs 13) (.cons (.ret (.tup (.cons (.con (.str "teller")) (.cons (.var 3) (.cons (.blt .tuple (.cons (.var 5) .nil)) .nil)))))
 .nil) [some (.v dr), some (.v (.int n)), some (.v (.int 5)), some (.v (.int (1 + k))), some (.v (.int (1 + j))), some (.v (.list (rows.map tup))), none]) o4 fun r o' => ∃ d, r.1 = .rt d ∧ ∃ (w : Nat) (d' : Int) (rows : List (List Int)), d = T d' rows ∧ Tel n w d' rows ∧ w ≤ 5 ∧ d' ≤ 12 ∧ Dr (N + 300) o' := fun rows l1 l2 =>
    wp_last ⟨(.rt (T (1 + k) rows), _), o4, by simp [exec, ev, evs, M.bind, getV, frz, frzC, bltD, un, M.lift, M.pure, T, tups]; rfl, ⟨_, rfl⟩, _, rfl, _, _, rows, rfl, tel rows l1 l2, by omega, by omega, Dr.mono hd (by omega)⟩
  refine wp_cons (wp_if ⟨.bool (decide (q = 0)), o4, ?_, _, rfl, ?_⟩)
  · simp [ev, evs, getV, M.bind, hc, e4, M.lift, M.pure]
  · by_cases hq : q = 0
    · rw [decide_eq_true hq, if_pos rfl]
      obtain ⟨r0, rs, er⟩ : ∃ r0 rs, rows = r0 :: rs := by cases rows with
        | nil => simp at l1; omega
        | cons a b => exact ⟨a, b, rfl⟩
      have hr0 := l2 r0 (by rw [er]; exact List.mem_cons_self)
      have hm : mulD (.list [tup r0]) (.int n) = some (.list ((List.replicate n r0).map tup)) := by
        have : (List.replicate n ([tup r0] : List D)).flatten = (List.replicate n r0).map tup := by simp
        show (if _ then _ else _) = _
        rw [if_pos ⟨by omega, by omega, by simp⟩, Int.toNat_natCast, this]
      have hi : idxD (.list (rows.map tup)) (.int 0) = some (tup r0) := by subst er; simp [idxD, ixAt]
      refine wp_cons (wp_set ⟨.list ((List.replicate n r0).map tup), o4, ?_, _, rfl, rfl, wp_nil ⟨rfl, ?_⟩⟩)
      · simp [ev, evs, getV, M.bind, M.lift, M.pure, hi, binD, hm]
      · exact last (List.replicate n r0) (by simp) fun r hr => by rw [List.eq_of_mem_replicate hr]; exact hr0
    · rw [decide_eq_false hq]
      exact wp_nil (F := tab fs 13) ⟨rfl, last rows l1 l2⟩
end NS
set_option linter.all false
set_option maxRecDepth 100000
set_option maxHeartbeats 1000000
set_option exponentiation.threshold 2000
namespace NS
open Tn
open PySem (PyData Str)
def Gn (n : Nat) (g : List Int) : Prop := g.length = n ∧ ∀ x ∈ g, x.natAbs ≤ 6
theorem gn_sml {n : Nat} {g : List Int} (hn : n ≤ 6) (h : Gn n g) : Sml g := by
  refine ⟨by rw [h.1]; omega, fun x hx => ?_⟩
  have := h.2 x hx
  have h4 : (6 : Nat) < 2 ^ 200 := by decide
  omega
theorem map_enc {ys : List D} {P : List Int → Prop} (h : ∀ d ∈ ys, ∃ g, d = tup g ∧ P g) : ∃ gs : List (List Int), ys = gs.map tup ∧ ∀ g ∈ gs, P g := by
  induction ys with
  | nil => exact ⟨[], rfl, fun g hg => by simp at hg⟩
  | cons y ys ih =>
    obtain ⟨gs, e, h1⟩ := ih fun d hd => h d (List.mem_cons_of_mem _ hd)
    obtain ⟨g, e2, h2⟩ := h y List.mem_cons_self
    refine ⟨g :: gs, by rw [e2, e]; rfl, fun q hq => ?_⟩
    rcases List.mem_cons.mp hq with rfl | hq
    · exact h2
    · exact h1 q hq
theorem map_encI {ys : List D} {P : Int → Prop} (h : ∀ d ∈ ys, ∃ g, d = .int g ∧ P g) : ∃ gs : List Int, ys = gs.map .int ∧ ∀ g ∈ gs, P g := by
  induction ys with
  | nil => exact ⟨[], rfl, fun g hg => by simp at hg⟩
  | cons y ys ih =>
    obtain ⟨gs, e, h1⟩ := ih fun d hd => h d (List.mem_cons_of_mem _ hd)
    obtain ⟨g, e2, h2⟩ := h y List.mem_cons_self
    refine ⟨g :: gs, by rw [e2, e]; rfl, fun q hq => ?_⟩
    rcases List.mem_cons.mp hq with rfl | hq
    · exact h2
    · exact h1 q hq
/-- stakes -/
theorem stakes_wp {N : Nat} (hN : N ≤ 9000000) {n : Nat} (n1 : 1 ≤ n) (n2 : n ≤ 6) {o : Objs} (h : Dr N o) :
    Wp (G 8 [dr, .int n, .int (-6)]) o fun r o' => ∃ gs : List (List Int), r = K gs ∧ 1 ≤ gs.length ∧ gs.length ≤ 4 ∧ (∀ g ∈ gs, Gn n g) ∧ Dr (N + 300) o' := by
  rw [R8]
  refine wp_fin ?_
  show Wp (execs (tab fs 8) f8.body [some (.v dr), some (.v (.int n)), some (.v (.int (-6))), none, none, none]) _ _
  have hc : tab fs 8 3 = G 3 := call (by decide)
  refine wp_cons ⟨(.nx, [some (.v dr), some (.v (.int n)), some (.v (.int (-6))), some (.own []), none, none]), o, by simp [exec, ev, evs, getV, M.bind, M.lift, M.pure, listOf, setC], rfl, ?_⟩
  obtain ⟨r, o1, e, k, rfl, k0, k1, hd⟩ := take_wp (by omega) (many := 4) (by omega) (by omega) h
  refine wp_cons (wp_for ?_)
  refine ⟨rngL 0 (1 + k).toNat, o1, ?_, ?_⟩
  · have hb : (-16777216 : Int) ≤ 1 + k ∧ 1 + k ≤ 16777216 := by omega
    simp [iters, ev, evs, M.bind, getV, hc, e, binD, addD, M.lift, M.pure, intOf, hb]
  refine (wp_forL (fun i env o => Dr (N + 1 + 12 * i) o ∧ ∃ gs : List (List Int), ∃ a, env = [some (.v dr), some (.v (.int n)), some (.v (.int (-6))), some (.own (gs.map tup)), a, none] ∧ gs.length = i ∧ ∀ g ∈ gs, Gn n g) _ 0 _ _ ⟨hd, [], none, rfl, rfl, fun g hg => by simp at hg⟩ ?_).imp ?_
  · rintro i env o x hx ⟨hd, gs, a, rfl, hl, hg⟩
    have hi : i < 4 := by
      have := (List.getElem?_eq_some_iff.mp hx).1
      simp [rngL] at this
      omega
    rw [show asg (.nm 4) x [some (.v dr), some (.v (.int n)), some (.v (.int (-6))), some (.own (gs.map tup)), a, none] = some [some (.v dr), some (.v (.int n)), some (.v (.int (-6))), some (.own (gs.map tup)), some (.v x), none] from rfl, lsome, bpure]
    have cw := wp_comp (F := tab fs 8) (env := [some (.v dr), some (.v (.int n)), some (.v (.int (-6))), some (.own (gs.map tup)), some (.v x), none]) (own := [5]) (p := .bin .add (.var 2) (.call 3 (.cons (.var 0) (.cons (.con (.int 12)) .nil)))) (tg := .nm 5) (it := .rng1 (.var 1)) (o := o)
      (R := fun y => ∃ g : Int, y = .int g ∧ g.natAbs ≤ 6) (I := fun j o => Dr (N + 1 + 12 * i + j) o) (Q := fun r o' => ∃ g : List Int, r = .list (g.map .int) ∧ Gn n g ∧ Dr (N + 1 + 12 * i + n) o') rfl (by
      refine ⟨rngL 0 n, o, ?_, by simp [rngL]; omega, 0, by rw [show 0 + i = i by omega] at hd; exact hd, ?_, ?_⟩
      · have hb : (-16777216 : Int) ≤ n ∧ (n : Int) ≤ 16777216 := by omega
        simp [iters, ev, evs, M.bind, getV, M.lift, M.pure, intOf, hb]
      · intro y hy j o hj hj2 hI
        obtain ⟨r, o2, e2, q, rfl, q0, q1, hd2⟩ := take_wp (many := 12) (by simp [rngL] at hj2; omega) (by omega) (by omega) hI
        exact ⟨_, rfl, .int (-6 + q), o2, by simp [ev, evs, M.bind, getV, wipeE, hc, e2, M.lift, M.pure, binD, addD], ⟨_, rfl, by omega⟩, hd2⟩
      · intro ys o2 hl hr hI
        obtain ⟨g, rfl, hg⟩ := map_encI hr
        exact ⟨g, rfl, ⟨by simpa [rngL] using hl, hg⟩, by simpa [rngL] using hI⟩)
    obtain ⟨r, o2, e2, g, rfl, hgn, hd2⟩ := cw
    refine wp_cons ⟨(.nx, [some (.v dr), some (.v (.int n)), some (.v (.int (-6))), some (.own ((gs ++ [g]).map tup)), some (.v x), none]), o2, ?_, rfl, wp_nil ⟨rfl, Dr.mono hd2 (by omega), _, _, rfl, by simp [hl], fun g' hg' => ?_⟩⟩
    · generalize hcc : (E.comp [5] (.bin .add (.var 2) (.call 3 (.cons (.var 0) (.cons (.con (.int 12)) .nil)))) (.nm 5) (.rng1 (.var 1)) .none) = cc at e2
      have : gs.length < 16777216 := by omega
      simp [exec, ownAt, M.bind, ev, evs, e2, M.lift, M.pure, bltD, un, this, tup]
    · rcases List.mem_append.mp hg' with h | h
      · exact hg g' h
      · have : g' = g := by simpa using h
        rw [this]; exact hgn
  · rintro ⟨fl, env⟩ o2 ⟨h1', hd2, gs, a, rfl, hl, hg⟩
    have hl : gs.length = (1 + k).toNat := by simpa [rngL] using hl
    refine ⟨h1', wp_last ⟨(.rt (K gs), [some (.v dr), some (.v (.int n)), some (.v (.int (-6))), some (.own (gs.map tup)), a, none]), o2, ?_, ⟨_, rfl⟩, _, rfl, gs, rfl, by omega, by omega, hg, Dr.mono hd2 (by simp [rngL]; omega)⟩⟩
    simp [exec, ev, evs, getV, frz, frzC, M.bind, bltD, un, M.lift, M.pure, itemsOf, K, tups]
theorem gn_stn {n : Nat} {gs : List (List Int)} (n1 : 1 ≤ n) (n2 : n ≤ 6) (h1 : 1 ≤ gs.length) (h2 : gs.length ≤ 12) (h : ∀ g ∈ gs, Gn n g) : Stn n gs :=
  ⟨⟨fun z => by rw [z] at h1; simp at h1, by omega, fun g hg => gn_sml n2 (h g hg)⟩, h2, fun g hg => (h g hg).1, n1, n2⟩
/-- the heard teller: a teller, its worths are the table's -/
theorem garbled_full {n w v : Nat} {d e : Int} {rows g : List (List Int)} (h : Tel n w d rows) (hg : Gar w v e g) (hde : d * e ≤ 1000000000000000000000000000000) :
    ∃ d' rows', G 33 [T d rows, Gb e g] = M.pure (T d' rows') ∧ Tel n v d' rows' ∧ 1 ≤ d' ∧ d' ≤ d * e ∧ ∀ gs : List (List Int), gs ≠ [] → ratio (W gs (cols v rows')) d' = ratio (W gs (cols v (prod w v rows g))) (d * e) := by
  have d1 := h.d1
  have e1 := hg.d1
  have hpos : 0 < d * e := Int.mul_pos (by omega) (by omega)
  have pw : ∀ r ∈ prod w v rows g, r.length = v := by
    intro r hr
    obtain ⟨r0, h0, rfl⟩ := List.mem_map.mp hr
    rw [List.length_map, List.length_range]
  have pt : Tel n v (d * e / byOf (d * e) (prod w v rows g)) (low (byOf (d * e) (prod w v rows g)) (prod w v rows g)) :=
    low_tel (by unfold prod; rw [List.length_map]; exact h.len) h.n1 h.n6 pw hg.v1 hg.v12 (prod_nn h hg) (prod_sum h.wid h.sum hg.len hg.wid hg.sum) hpos hde
  refine ⟨_, _, garbled_ok h hg hde, pt, pt.d1, Int.ediv_le_self _ (Int.le_of_lt hpos), fun gs hgs => ratio_low hgs pw hpos⟩
end NS
set_option linter.all false
set_option maxRecDepth 100000
set_option maxHeartbeats 1000000
namespace NS
open Tn
open PySem (PyData Str)
def q_0 : S := (.set (.nm 1) (.call 0 (.cons (.var 0) .nil)))
def q_1_0 : S := (.set (.nm 3) (.bin .add (.con (.int 1)) (.call 3 (.cons (.var 1) (.cons (.con (.int 5)) .nil)))))
def q_1_1 : S := (.par [4, 5, 6] (.cons (.call 13 (.cons (.var 1) (.cons (.var 3) (.cons (.con (.int 5)) .nil)))) (.cons (.call 8 (.cons (.var 1) (.cons (.var 3) (.cons (.neg (.con (.int 6))) .nil)))) (.cons (.call 8 (.cons (.var 1) (.cons (.var 3) (.cons (.neg (.con (.int 6))) .nil)))) .nil))))
def q_1_2 : S := (.par [5, 6] (.cons (.tup (.cons (.con (.str "stakes")) (.cons (.slice (.idx (.var 5) (.con (.int 1))) .none (.some (.con (.int 3)))) .nil))) (.cons (.tup (.cons (.con (.str "stakes")) (.cons (.slice (.idx (.var 6) (.con (.int 1))) .none (.some (.con (.int 4)))) .nil))) .nil)))
def q_1_3 : S := (.par [7, 8] (.cons (.call 45 (.cons (.var 5) (.cons (.var 6) .nil))) (.cons (.call 44 (.cons (.var 5) (.cons (.var 6) .nil))) .nil)))
def q_1_4 : S := (.set (.nm 9) (.lst .nil))
def q_1_5_0 : S := (.set (.nm 9) (.bin .add (.var 9) (.comp [13] (.blt .tuple (.cons (.comp [11, 12] (.bin .add (.var 11) (.var 12)) (.tp (.cons (.nm 11) (.cons (.nm 12) .nil))) (.zip2 (.var 10) (.var 13)) .none) .nil)) (.nm 13) (.seq (.idx (.var 6) (.con (.int 1)))) .none)))
def q_1_5B : Ss := (.cons q_1_5_0 .nil)
def q_1_5 : S := .for_ (.nm 10) (.seq (.idx (.var 5) (.con (.int 1)))) q_1_5B
def q_1_6 : S := (.ite (.or_ (.cmp .isntB (.call 15 (.cons (.var 5) .nil)) (.con (.bool true))) (.or_ (.cmp .ne (.var 7) (.tup (.cons (.con (.str "stakes")) (.cons (.blt .tuple (.cons (.var 9) .nil)) .nil)))) (.cmp .ne (.var 8) (.tup (.cons (.con (.str "stakes")) (.cons (.bin .add (.idx (.var 5) (.con (.int 1))) (.idx (.var 6) (.con (.int 1)))) .nil)))))) (.cons (.ret (.con (.bool false))) .nil) .nil)
def q_1_7_0 : S := (.set (.nm 15) (.call 14 (.cons (.var 4) (.cons (.var 14) .nil))))
def q_1_7_1 : S := (.ite (.or_ (.cmp .ne (.call 49 (.cons (.var 4) (.cons (.var 14) .nil))) (.var 15)) (.or_ (.cmp .ne (.call 46 (.cons (.var 14) .nil)) (.blt .max (.cons (.comp [10] (.blt .sum (.cons (.var 10) .nil)) (.nm 10) (.seq (.idx (.var 14) (.con (.int 1)))) .none) .nil))) (.call 7 (.cons (.var 15) (.cons (.tup (.cons (.call 46 (.cons (.var 14) .nil)) (.cons (.con (.int 1)) .nil))) .nil))))) (.cons (.ret (.con (.bool false))) .nil) .nil)
def q_1_7_2_0 : S := (.set (.nm 18) (.call 12 (.cons (.var 17) (.cons (.var 14) .nil))))
def q_1_7_2_1 : S := (.ite (.cmp .ne (.call 25 (.cons (.var 4) (.cons (.var 14) (.cons (.var 16) .nil)))) (.blt .tuple (.cons (.comp [19] (.var 19) (.nm 19) (.rng1 (.blt .len (.cons (.var 18) .nil))) (.some (.cmp .eq (.idx (.var 18) (.var 19)) (.blt .max (.cons (.var 18) .nil))))) .nil))) (.cons (.ret (.con (.bool false))) .nil) .nil)
def q_1_7_2B : Ss := (.cons q_1_7_2_0 (.cons q_1_7_2_1 .nil))
def q_1_7_2 : S := .for_ (.tp (.cons (.nm 16) (.cons (.nm 17) .nil))) (.enum (.call 1 (.cons (.var 4) .nil))) q_1_7_2B
def q_1_7_3 : S := (.ite (.cmp .ne (.call 49 (.cons (.call 40 (.cons (.var 4) .nil)) (.cons (.var 14) .nil))) (.var 15)) (.cons (.ret (.con (.bool false))) .nil) .nil)
def q_1_7B : Ss := (.cons q_1_7_0 (.cons q_1_7_1 (.cons q_1_7_2 (.cons q_1_7_3 .nil))))
def q_1_7 : S := .for_ (.nm 14) (.seq (.lst (.cons (.var 5) (.cons (.var 6) (.cons (.var 7) (.cons (.var 8) .nil)))))) q_1_7B
def q_1_8 : S := (.ite (.cmp .ne (.call 49 (.cons (.var 4) (.cons (.var 7) .nil))) (.call 11 (.cons (.call 49 (.cons (.var 4) (.cons (.var 5) .nil))) (.cons (.call 49 (.cons (.var 4) (.cons (.var 6) .nil))) .nil)))) (.cons (.ret (.con (.bool false))) .nil) .nil)
def q_1_9 : S := (.ite (.or_ (.call 7 (.cons (.call 49 (.cons (.var 4) (.cons (.var 8) .nil))) (.cons (.call 49 (.cons (.var 4) (.cons (.var 5) .nil))) .nil))) (.call 7 (.cons (.call 49 (.cons (.var 4) (.cons (.var 8) .nil))) (.cons (.call 49 (.cons (.var 4) (.cons (.var 6) .nil))) .nil)))) (.cons (.ret (.con (.bool false))) .nil) .nil)
def q_1_10 : S := (.set (.nm 20) (.call 33 (.cons (.var 4) (.cons (.call 6 (.cons (.var 1) (.cons (.blt .len (.cons (.idx (.idx (.var 4) (.con (.int 2))) (.con (.int 0))) .nil)) (.cons (.bin .add (.con (.int 1)) (.call 3 (.cons (.var 1) (.cons (.con (.int 4)) .nil)))) .nil)))) .nil))))
def q_1_11 : S := (.ite (.call 7 (.cons (.call 49 (.cons (.var 4) (.cons (.var 5) .nil))) (.cons (.call 49 (.cons (.var 20) (.cons (.var 5) .nil))) .nil))) (.cons (.ret (.con (.bool false))) .nil) .nil)
def q_1_12 : S := (.set (.tp (.cons (.nm 21) (.cons (.nm 22) .nil))) (.tup (.cons (.call 3 (.cons (.var 1) (.cons (.var 3) .nil))) (.cons (.bin .sub (.call 3 (.cons (.var 1) (.cons (.con (.int 9)) .nil))) (.con (.int 4))) .nil))))
def q_1_13 : S := (.set (.nm 23) (.tup (.cons (.con (.str "stakes")) (.cons (.blt .tuple (.cons (.comp [10] (.bin .add (.bin .add (.slice (.var 10) .none (.some (.var 21))) (.tup (.cons (.bin .add (.idx (.var 10) (.var 21)) (.var 22)) .nil))) (.slice (.var 10) (.some (.bin .add (.var 21) (.con (.int 1)))) .none)) (.nm 10) (.seq (.idx (.var 5) (.con (.int 1)))) .none) .nil)) .nil))))
def q_1_14 : S := (.ite (.cmp .ne (.call 49 (.cons (.var 4) (.cons (.var 23) .nil))) (.call 11 (.cons (.call 49 (.cons (.var 4) (.cons (.var 5) .nil))) (.cons (.tup (.cons (.var 22) (.cons (.con (.int 1)) .nil))) .nil)))) (.cons (.ret (.con (.bool false))) .nil) .nil)
def q_1_15 : S := (.set (.nm 24) (.tup (.cons (.con (.str "stakes")) (.cons (.bin .add (.idx (.var 5) (.con (.int 1))) (.slice (.idx (.var 5) (.con (.int 1))) .none (.some (.con (.int 1))))) .nil))))
def q_1_16 : S := (.ite (.cmp .ne (.call 49 (.cons (.var 4) (.cons (.var 24) .nil))) (.call 49 (.cons (.var 4) (.cons (.var 5) .nil)))) (.cons (.ret (.con (.bool false))) .nil) .nil)
def q_1B : Ss := (.cons q_1_0 (.cons q_1_1 (.cons q_1_2 (.cons q_1_3 (.cons q_1_4 (.cons q_1_5 (.cons q_1_6 (.cons q_1_7 (.cons q_1_8 (.cons q_1_9 (.cons q_1_10 (.cons q_1_11 (.cons q_1_12 (.cons q_1_13 (.cons q_1_14 (.cons q_1_15 (.cons q_1_16 .nil)))))))))))))))))
def q_1 : S := .for_ (.nm 2) (.rng1 (.bin .add (.con (.int 3)) (.blt .min2 (.cons (.blt .len (.cons (.var 0) .nil)) (.cons (.con (.int 5)) .nil))))) q_1B
def q_2 : S := (.ret (.con (.bool true)))
def qB : Ss := (.cons q_0 (.cons q_1 (.cons q_2 .nil)))
theorem q_eq : f50.body = qB := rfl
end NS
set_option linter.all false
set_option maxRecDepth 100000
set_option maxHeartbeats 1000000
set_option exponentiation.threshold 2000
namespace NS
open Tn
open PySem (PyData Str)
/-! ### sizes -/
theorem natAbs_sum_le {B : Nat} : ∀ {l : List Int}, (∀ x ∈ l, x.natAbs ≤ B) → l.sum.natAbs ≤ l.length * B
  | [], _ => by simp
  | x :: l, h => by
    have h1 := h x List.mem_cons_self
    have h2 := natAbs_sum_le fun y hy => h y (List.mem_cons_of_mem _ hy)
    rw [List.sum_cons, List.length_cons, Nat.succ_mul]
    omega
theorem dot_le {A B : Nat} {g c : List Int} (hg : ∀ x ∈ g, x.natAbs ≤ A) (hc : ∀ x ∈ c, x.natAbs ≤ B) : (dot g c).natAbs ≤ g.length * (A * B) := by
  unfold dot
  refine Nat.le_trans (natAbs_sum_le (B := A * B) fun x hx => ?_) ?_
  · obtain ⟨p, hp, rfl⟩ := List.mem_map.mp hx
    obtain ⟨h1, h2⟩ := List.of_mem_zip (show (p.1, p.2) ∈ g.zip c from hp)
    rw [Int.natAbs_mul]
    exact Nat.mul_le_mul (hg _ h1) (hc _ h2)
  · refine Nat.mul_le_mul_right _ ?_
    rw [List.length_map, List.length_zip]
    exact Nat.min_le_left _ _
theorem W_le {A B k : Nat} {gs cs : List (List Int)} (hne : gs ≠ []) (hk : ∀ g ∈ gs, g.length ≤ k) (hg : ∀ g ∈ gs, ∀ x ∈ g, x.natAbs ≤ A) (hc : ∀ c ∈ cs, ∀ x ∈ c, x.natAbs ≤ B) : (W gs cs).natAbs ≤ cs.length * (k * (A * B)) := by
  rw [W_eq]
  have := natAbs_sum_le (l := cs.map (Mc gs)) (B := k * (A * B)) fun x hx => by
    obtain ⟨c, hcm, rfl⟩ := List.mem_map.mp hx
    have hn : (gs.map fun g => dot g c) ≠ [] := fun z => hne (List.map_eq_nil_iff.mp z)
    obtain ⟨g, hgm, e⟩ := List.mem_map.mp (mx_mem hn)
    unfold Mc
    rw [← e]
    exact Nat.le_trans (dot_le (hg g hgm) (hc c hcm)) (Nat.mul_le_mul_right _ (hk g hgm))
  rw [List.length_map] at this
  exact this
theorem cols_mem {w : Nat} {rows : List (List Int)} (hw : ∀ r ∈ rows, r.length = w) {P : Int → Prop} (h : ∀ r ∈ rows, ∀ x ∈ r, P x) : ∀ c ∈ cols w rows, ∀ x ∈ c, P x := by
  intro c hc x hx
  obtain ⟨k, hk, rfl⟩ := List.mem_map.mp hc
  obtain ⟨r, hr, rfl⟩ := List.mem_map.mp hx
  exact h r hr _ (getD_mem (by rw [hw r hr]; simpa using hk))
/-- the worth's top is small -/
theorem W_small {n w : Nat} {d : Int} {rows gs : List (List Int)} (h : Tel n w d rows) (hg : Stn n gs) (hs : ∀ g ∈ gs, ∀ x ∈ g, x.natAbs ≤ 1000) : (W gs (cols w rows)).natAbs < 2 ^ 200 := by
  have h1 := W_le (A := 1000) (B := 1000000000000000000000000000000) (k := 6) (cs := cols w rows) hg.ne (fun g hm => by rw [hg.wid g hm]; exact hg.n6) hs (cols_mem h.wid fun r hr x hx => by
    have q1 := (le_sum (h.nn r hr)).2 x hx
    have q2 := h.nn r hr x hx
    rw [h.sum r hr] at q1
    have q3 := h.dM
    omega)
  rw [cols_len] at h1
  have h2 := h.w12
  have h3 : (12 : Nat) * (6 * (1000 * 1000000000000000000000000000000)) < 2 ^ 200 := by decide
  have h4 : w * (6 * (1000 * 1000000000000000000000000000000)) ≤ 12 * (6 * (1000 * 1000000000000000000000000000000)) := Nat.mul_le_mul_right _ h2
  omega
theorem ratio_bd {a b : Int} (hb : 0 < b) : (ratio a b).1.natAbs ≤ a.natAbs ∧ 0 < (ratio a b).2 ∧ (ratio a b).2 ≤ b := by
  obtain ⟨g, g0, e1, e2, p⟩ := ratio_parts (a := a) hb
  refine ⟨?_, p, ?_⟩
  · conv => rhs; rw [e1]
    rw [Int.natAbs_mul]
    exact Nat.le_mul_of_pos_left _ (by omega)
  · conv => rhs; rw [e2]
    have := Int.mul_le_mul_of_nonneg_right (show (1 : Int) ≤ g by omega) (Int.le_of_lt p)
    omega
theorem less_rat {a b c d : Int} (hb : 0 < b) (hd : 0 < d) (h1 : a.natAbs < 2 ^ 900) (h2 : b.natAbs < 2 ^ 900) (h3 : c.natAbs < 2 ^ 900) (h4 : d.natAbs < 2 ^ 900) : G 7 [rat (ratio a b), rat (ratio c d)] = M.pure (.bool (decide (a * d < c * b))) := by
  have q1 := ratio_bd (a := a) hb
  have q2 := ratio_bd (a := c) hd
  have pw : (2 : Nat) ^ 900 ≤ 2 ^ 1000 := Nat.pow_le_pow_right (by decide) (by decide)
  have e := ratio_less (a := a) (c := c) hb hd
  generalize ratio a b = r at *
  generalize ratio c d = s at *
  obtain ⟨r1, r2⟩ := r
  obtain ⟨s1, s2⟩ := s
  have q1 : r1.natAbs ≤ a.natAbs ∧ 0 < r2 ∧ r2 ≤ b := q1
  have q2 : s1.natAbs ≤ c.natAbs ∧ 0 < s2 ∧ s2 ≤ d := q2
  have e : (r1 * s2 < s1 * r2) ↔ a * d < c * b := e
  rw [less_ok (mulOk_sm (by omega) (by omega)) (mulOk_sm (by omega) (by omega))]
  simp only [e]
theorem sum_rat {a b c d : Int} (hb : 0 < b) (hd : 0 < d) (h1 : a.natAbs < 2 ^ 400) (h2 : b.natAbs < 2 ^ 400) (h3 : c.natAbs < 2 ^ 400) (h4 : d.natAbs < 2 ^ 400) : G 11 [rat (ratio a b), rat (ratio c d)] = M.pure (rat (ratio (a * d + c * b) (b * d))) := by
  have q1 := ratio_bd (a := a) hb
  have q2 := ratio_bd (a := c) hd
  have pw : (2 : Nat) ^ 400 ≤ 2 ^ 1000 := Nat.pow_le_pow_right (by decide) (by decide)
  have e := ratio_sum (a := a) (c := c) hb hd
  generalize ratio a b = r at *
  generalize ratio c d = s at *
  obtain ⟨r1, r2⟩ := r
  obtain ⟨s1, s2⟩ := s
  have q1 : r1.natAbs ≤ a.natAbs ∧ 0 < r2 ∧ r2 ≤ b := q1
  have q2 : s1.natAbs ≤ c.natAbs ∧ 0 < s2 ∧ s2 ≤ d := q2
  have hp : 0 < r2 * s2 := Int.mul_pos q1.2.1 q2.2.1
  rw [sum_ok (mulOk_sm (by omega) (by omega)) (mulOk_sm (by omega) (by omega)) (mulOk_sm (by omega) (by omega)) hp, ← e]
  rw [Int.natAbs_mul]
  have : r2.natAbs * s2.natAbs < 2 ^ 400 * 2 ^ 400 := Nat.mul_lt_mul'' (by omega) (by omega)
  have h8 : (2 : Nat) ^ 400 * 2 ^ 400 ≤ 2 ^ 1000 := by rw [← Nat.pow_add]; exact Nat.pow_le_pow_right (by decide) (by decide)
  omega
theorem ratio_one (a : Int) : ratio a 1 = (a, 1) := by
  unfold ratio
  simp
/-! ### shapes -/
theorem sh_tups {n : Nat} {gs : List (List Int)} : shN (n + 2) (tups gs) = true := by
  unfold tups shN
  rw [List.all_eq_true]
  intro d hd
  obtain ⟨g, _, rfl⟩ := List.mem_map.mp hd
  exact shN_tup
theorem sh_K {gs : List (List Int)} : sh (K gs) = true := by
  show (shN 7 (.str "stakes") && (shN 7 (tups gs) && true)) = true
  rw [sh_tups (n := 5)]
  decide +kernel
theorem sh_rat {p : Int × Int} : sh (rat p) = true := rfl
theorem sh_tup {p : List Int} : sh (tup p) = true := shN_tup
end NS
set_option linter.all false
set_option maxRecDepth 100000
set_option maxHeartbeats 1000000
set_option exponentiation.threshold 2000
namespace NS
open Tn
open PySem (PyData Str)
noncomputable abbrev F50 := tab fs 50
variable {f : Nat → Option D}
theorem tupK {gs : List (List Int)} : (PyData.tuple [.str "stakes", .tuple (gs.map tup)] : D) = K gs := rfl
theorem K_0 {gs : List (List Int)} : idxD (K gs) (.int 1) = some (tups gs) := rfl
theorem T_1 {d : Int} {rows : List (List Int)} : idxD (T d rows) (.int 1) = some (.int d) := rfl
theorem T_2 {d : Int} {rows : List (List Int)} : idxD (T d rows) (.int 2) = some (tups rows) := rfl
theorem slice_tups {gs : List (List Int)} {k : Nat} : sliceD (tups gs) none (some (k : Int)) = some (tups (gs.take k)) := by
  unfold tups
  rw [slice_to, List.map_take]
/-- stakes, shortened -/
theorem s2_ok {gs hs : List (List Int)} (h5 : f 5 = some (K gs)) (h6 : f 6 = some (K hs)) : exec F50 q_1_2 (V 25 f) = M.pure (.nx, V 25 (upd (upd f 5 (K (gs.take 3))) 6 (K (hs.take 4)))) := by
  have e1 := slice_tups (gs := gs) (k := 3)
  have e2 := slice_tups (gs := hs) (k := 4)
  simp at e1 e2
  show M.bind (evs F50 _ _) _ = _
  simp [h5, h6, K_0, intOf, e1, e2]
  rfl
theorem s3_ok {n : Nat} {gs hs : List (List Int)} (h5 : f 5 = some (K gs)) (h6 : f 6 = some (K hs)) (sg : Stn n gs) (sh : Stn n hs) (g3 : gs.length ≤ 3) (h4 : hs.length ≤ 4) :
    exec F50 q_1_3 (V 25 f) = M.pure (.nx, V 25 (upd (upd f 7 (K (both gs hs))) 8 (K (gs ++ hs)))) := by
  have c1 := sum_ok' sg sh (by have := Nat.mul_le_mul g3 h4; omega)
  have c2 := either_ok sg sh (by omega)
  show M.bind (evs F50 _ _) _ = _
  simp [h5, h6, call, c1, c2]
  rfl
theorem s5_ok {n : Nat} {gs hs : List (List Int)} (h5 : f 5 = some (K gs)) (h6 : f 6 = some (K hs)) (h9 : f 9 = some (.list [])) (sg : Stn n gs) (sh : Stn n hs) (g3 : gs.length ≤ 3) (h4 : hs.length ≤ 4) :
    ∃ f', exec F50 q_1_5 (V 25 f) = M.pure (.nx, V 25 f') ∧ f' 9 = some (.list ((both gs hs).map tup)) ∧ ∀ k, k ≠ 9 → k ≠ 10 → f' k = f k := by
  have n1 := sg.n1
  have bl : ∀ ys : List (List Int), (both ys hs).length = ys.length * hs.length := fun ys => by
    unfold both
    induction ys with
    | nil => simp
    | cons y ys ih => rw [List.flatMap_cons, List.length_append, ih, List.length_map, List.length_cons, Nat.succ_mul]; omega
  have bs : ∀ ys : List (List Int), ∀ g, both (ys ++ [g]) hs = both ys hs ++ hs.map fun o => addv g o := fun ys g => by
    unfold both
    rw [List.flatMap_append]
    simp
  obtain ⟨v', h1, h2⟩ := forL_V (n := 25) (f := fun d env => M.bind (M.lift (asg (.nm 10) d env)) fun e => execs F50 q_1_5B e) (fun i v => v 9 = some (.list ((both (gs.take i) hs).map tup)) ∧ ∀ k, k ≠ 9 → k ≠ 10 → v k = f k) (xs := gs.map tup) (v := f) ⟨h9, fun _ _ _ => rfl⟩ (by
    rintro i v x hx ⟨v9, vk⟩
    rw [List.getElem?_map] at hx
    obtain ⟨g, hg, rfl⟩ := Option.map_eq_some_iff.mp hx
    have hgm := List.mem_of_getElem? hg
    have hi := (List.getElem?_eq_some_iff.mp hg).1
    have htk : gs.take (i + 1) = gs.take i ++ [g] := by rw [List.take_succ, hg]; rfl
    have c1 : ∀ f : Nat → Option D, f 6 = some (K hs) → f 10 = some (tup g) → ev F50 (.comp [13] (.blt .tuple (.cons (.comp [11, 12] (.bin .add (.var 11) (.var 12)) (.tp (.cons (.nm 11) (.cons (.nm 12) .nil))) (.zip2 (.var 10) (.var 13)) .none) .nil)) (.nm 13) (.seq (.idx (.var 6) (.con (.int 1)))) .none) (V 25 f) = M.pure (.list ((hs.map fun o => addv g o).map tup)) := by
      intro f h6 h10
      rw [x_comp (xs := hs) (enc := tup) (g := fun o => tup (addv g o))]
      · simp [Function.comp_def]
      · simp [h6, K_0, tups]
      · simp
      · intro o ho
        refine ⟨V 25 (upd (wips f [13]) 13 (tup o)), by simp, ?_⟩
        rw [x_blt, xs_cons, x_comp (xs := g.zip o) (enc := fun p => .tuple [.int p.1, .int p.2]) (g := fun p => .int (p.1 + p.2))]
        · simp [bltD, un, tup, addv, Function.comp_def]
        · simp [h10, zipD, tup, zipL_ints]
        · simp
        · intro p hp
          refine ⟨_, by simp [asg_tp, asgs_cons, asgs_nil]; rfl, ?_⟩
          simp [binD, addD]
        · have := (sg.sm g hgm).1
          simp
          omega
      · have := sh.len
        simp; omega
    have c2 := c1 (upd v 10 (tup g)) (by simp [vk, h6]) (by simp)
    have hlen : (both (gs.take i) hs).length ≤ 1000 := by
      rw [bl, List.length_take]
      exact Nat.le_trans (Nat.mul_le_mul (show min i gs.length ≤ 3 by omega) h4) (by decide)
    have hadd : addD (.list ((both (gs.take i) hs).map tup)) (.list ((hs.map fun o => addv g o).map tup)) = some (.list ((both (gs.take (i + 1)) hs).map tup)) := by
      show (if _ then _ else _) = _
      rw [if_pos (by rw [List.length_map, List.length_map, List.length_map]; unfold big; omega), htk, bs, List.map_append]
    have st : exec F50 q_1_5_0 (V 25 (upd v 10 (tup g))) = M.pure (.nx, V 25 (upd (upd v 10 (tup g)) 9 (.list ((both (gs.take (i + 1)) hs).map tup)))) := by
      refine ex_set (d := .list ((both (gs.take (i + 1)) hs).map tup)) ?_ (V_asg (by decide))
      have e9 : (upd v 10 (tup g)) 9 = some (.list ((both (gs.take i) hs).map tup)) := by simp [v9]
      rw [x_bin, x_var, V_getV (by decide), e9, lsome, bpure, c2, bpure]
      exact congrArg M.lift hadd
    refine ⟨upd (upd v 10 (tup g)) 9 (.list ((both (gs.take (i + 1)) hs).map tup)), ?_, by simp, fun k k9 k10 => by simp [k9, k10, vk k k9 k10]⟩
    rw [V_asg (by decide), lsome, bpure]
    exact exs_nx st)
  rw [List.length_map, List.take_length] at h2
  refine ⟨v', ex_for (xs := gs.map tup) ?_ h1, h2⟩
  simp [h5, K_0, tups]
end NS
set_option linter.all false
set_option maxRecDepth 100000
set_option maxHeartbeats 1000000
set_option exponentiation.threshold 2000
namespace NS
open Tn
open PySem (PyData Str)
variable {f : Nat → Option D}
theorem neD {d : D} (h : sh d = true) : cmpD .ne d d = some false := by
  rw [cmp_ne, eqD_refl h]
  rfl
theorem s6_ok {n : Nat} {gs hs : List (List Int)} (h5 : f 5 = some (K gs)) (h6 : f 6 = some (K hs)) (h7 : f 7 = some (K (both gs hs))) (h8 : f 8 = some (K (gs ++ hs))) (h9 : f 9 = some (.list ((both gs hs).map tup))) (sg : Stn n gs) (g3 : gs.length ≤ 3) (h4 : hs.length ≤ 4) :
    exec F50 q_1_6 (V 25 f) = M.pure (.nx, V 25 f) := by
  have b : G 15 [K gs] = M.pure (.bool true) := stakes_ok sg
  have e1 : eqD (K (both gs hs)) (.tuple [.str "stakes", .tuple ((both gs hs).map tup)]) = some true := eqD_refl sh_K
  have e2 : eqD (K (gs ++ hs)) (.tuple [.str "stakes", tups (gs ++ hs)]) = some true := eqD_refl sh_K
  have e3 : addD (tups gs) (tups hs) = some (tups (gs ++ hs)) := by
    show (if _ then _ else _) = _
    rw [if_pos (by rw [List.length_map, List.length_map]; unfold big; omega), ← List.map_append]
    rfl
  refine ex_no (d := .bool false) ?_ rfl
  simp [h5, h6, h7, h8, h9, call, b, cmpD, isB, bltD, un, K_0, binD, e1, e2, e3]
/-- what is bound for the drawn -/
structure Sm (n w : Nat) (d : Int) (rows gs : List (List Int)) : Prop where
  tel : Tel n w d rows
  stn : Stn n gs
  sm : ∀ g ∈ gs, ∀ x ∈ g, x.natAbs ≤ 1000
theorem d_small {n w : Nat} {d : Int} {rows : List (List Int)} (h : Tel n w d rows) : d.natAbs < 2 ^ 200 := by
  have h4 : (1000000000000000000000000000000 : Nat) < 2 ^ 200 := by decide
  have := h.d1
  have := h.dM
  omega
theorem p24 : (2 : Nat) ^ 200 ≤ 2 ^ 400 := Nat.pow_le_pow_right (by decide) (by decide)
theorem p29 : (2 : Nat) ^ 200 ≤ 2 ^ 900 := Nat.pow_le_pow_right (by decide) (by decide)
theorem u_small {n : Nat} {gs : List (List Int)} (h : Stn n gs) (hs : ∀ g ∈ gs, ∀ x ∈ g, x.natAbs ≤ 1000) : (mx (gs.map fun g => g.sum)).natAbs < 2 ^ 200 := by
  have hne : (gs.map fun g => g.sum) ≠ [] := fun z => h.ne (List.map_eq_nil_iff.mp z)
  obtain ⟨g, hg, e⟩ := List.mem_map.mp (mx_mem hne)
  rw [← e]
  have h1 := natAbs_sum_le (hs g hg)
  have h2 := h.wid g hg
  have h3 := h.n6
  have h4 : g.length * 1000 ≤ 6 * 1000 := Nat.mul_le_mul_right _ (by omega)
  have h5 : (6000 : Nat) < 2 ^ 200 := by decide
  omega
theorem s70_ok {n w : Nat} {d : Int} {rows gs : List (List Int)} (h4 : f 4 = some (T d rows)) (h14 : f 14 = some (K gs)) (m : Sm n w d rows gs) : exec F50 q_1_7_0 (V 25 f) = M.pure (.nx, V 25 (upd f 15 (rat (ratio (W gs (cols w rows)) d)))) := by
  have c := lworth_ok (d := d) m.tel.tab m.stn.toStk (by have := m.tel.d1; omega) (Nat.lt_of_lt_of_le (d_small m.tel) pow_mono)
  exact ex_set (d := rat (ratio (W gs (cols w rows)) d)) (by simp [h4, h14, call, c]) (V_asg (by decide))
theorem s71_ok {n w : Nat} {d : Int} {rows gs : List (List Int)} (h4 : f 4 = some (T d rows)) (h14 : f 14 = some (K gs)) (h15 : f 15 = some (rat (ratio (W gs (cols w rows)) d))) (m : Sm n w d rows gs) : exec F50 q_1_7_1 (V 25 f) = M.pure (.nx, V 25 f) := by
  have d1 := m.tel.d1
  have c1 := worth_ok m.tel m.stn
  have c2 := unheard_ok m.stn
  have c3 := less_rat (a := W gs (cols w rows)) (b := d) (c := mx (gs.map fun g => g.sum)) (d := 1) (by omega) (by omega) (Nat.lt_of_lt_of_le (W_small m.tel m.stn m.sm) p29) (Nat.lt_of_lt_of_le (d_small m.tel) p29) (Nat.lt_of_lt_of_le (u_small m.stn m.sm) p29) (by decide)
  have hu := W_unheard m.stn.ne m.tel.len m.stn.wid m.tel.wid m.tel.sum
  rw [ratio_one, decide_eq_false (by rw [Int.mul_comm] at hu; omega)] at c3
  have hne : (gs.map fun g => g.sum) ≠ [] := fun z => m.stn.ne (List.map_eq_nil_iff.mp z)
  have c4 : ev F50 (.comp [10] (.blt .sum (.cons (.var 10) .nil)) (.nm 10) (.seq (.idx (.var 14) (.con (.int 1)))) .none) (V 25 f) = M.pure (.list ((gs.map fun g => g.sum).map .int)) := by
    rw [x_comp (xs := gs) (enc := tup) (g := fun g => .int g.sum)]
    · simp [Function.comp_def]
    · simp [h14, K_0, tups]
    · simp
    · intro g hg
      refine ⟨V 25 (upd (wips f [10]) 10 (tup g)), by simp, ?_⟩
      simp [tup, bltD, un, sumD, intsOf_ints]
    · have := m.stn.len
      simp; omega
  have c5 := max_list hne
  have c3' : G 7 [rat (ratio (W gs (cols w rows)) d), .tuple [.int (mx (gs.map fun g => g.sum)), .int 1]] = M.pure (.bool false) := c3
  generalize hr : rat (ratio (W gs (cols w rows)) d) = r at *
  have hsr : sh r = true := by rw [← hr]; exact sh_rat
  have ne1 := neD hsr
  rw [cmp_ne] at ne1
  generalize mx (gs.map fun g => g.sum) = u at *
  refine ex_no (d := .bool false) ?_ rfl
  generalize hc : (E.comp [10] (.blt .sum (.cons (.var 10) .nil)) (.nm 10) (.seq (.idx (.var 14) (.con (.int 1)))) .none) = cc at c4
  generalize (gs.map fun g => g.sum).map (PyData.int : Int → D) = us at c4 c5
  simp [h4, h14, h15, call, c1, c2, c3', c4, c5, ne1, bltD, un]
theorem s72_ok {n w : Nat} {d : Int} {rows gs : List (List Int)} (h4 : f 4 = some (T d rows)) (h14 : f 14 = some (K gs)) (m : Sm n w d rows gs) : ∃ f', exec F50 q_1_7_2 (V 25 f) = M.pure (.nx, V 25 f') ∧ ∀ k, k ≠ 16 → k ≠ 17 → k ≠ 18 → f' k = f k := by
  have c1 := lcolumns_ok (d := d) m.tel.tab
  have hen : enumD (.list ((cols w rows).map tup)) = some ((List.range w).map fun (k : Nat) => .tuple [.int k, tup ((cols w rows).getD k [])]) := by
    have go : ∀ (l : List (List Int)) (s : Nat), enumL s (l.map tup) = (List.range l.length).map fun (k : Nat) => .tuple [.int ((s + k : Nat) : Int), tup (l.getD k [])] := by
      intro l
      induction l with
      | nil => intro s; rfl
      | cons c l ih =>
        intro s
        rw [List.map_cons, List.length_cons, List.range_succ_eq_map, List.map_cons, List.map_map]
        show _ :: enumL (s + 1) (l.map tup) = _
        rw [ih (s + 1)]
        congr 1
        apply List.map_congr_left
        intro k _
        simp only [Function.comp, List.getD_cons_succ]
        congr 4
        omega
    have := go (cols w rows) 0
    rw [cols_len] at this
    show some (enumL 0 _) = _
    rw [this]
    congr 1
    apply List.map_congr_left
    intro k _
    rw [Nat.zero_add]
  obtain ⟨v', h1, h2⟩ := forL_V (n := 25) (f := fun d env => M.bind (M.lift (asg (.tp (.cons (.nm 16) (.cons (.nm 17) .nil))) d env)) fun e => execs F50 q_1_7_2B e) (fun _ v => ∀ k, k ≠ 16 → k ≠ 17 → k ≠ 18 → v k = f k) (xs := (List.range w).map fun (k : Nat) => .tuple [.int k, tup ((cols w rows).getD k [])]) (v := f) (fun _ _ _ _ => rfl) (by
    intro i v x hx vk
    rw [List.getElem?_map] at hx
    obtain ⟨k, hk, rfl⟩ := Option.map_eq_some_iff.mp hx
    have hkw : k < w := by simpa using List.mem_of_getElem? hk
    have hc : (cols w rows).getD k [] ∈ cols w rows := by
      rw [List.getD_eq_getElem?_getD, List.getElem?_eq_getElem (by rw [cols_len]; exact hkw)]
      exact List.getElem_mem _
    have c2 := best_ok m.tel m.stn hkw
    have c3 := lsums_ok m.stn.len m.stn.sm (cols_sml m.tel.tab _ hc)
    generalize (cols w rows).getD k [] = c at c2 c3
    have hne : (gs.map fun g => dot g c) ≠ [] := fun z => m.stn.ne (List.map_eq_nil_iff.mp z)
    have hl : (gs.map fun g => dot g c).length ≤ 1000 := by rw [List.length_map]; exact m.stn.len
    generalize (gs.map fun g => dot g c) = sums at c2 c3 hne hl
    rw [asg_tp, asgs_cons, V_asg (by decide)]
    show ∃ v', M.bind (M.lift (asgs (.cons (.nm 17) .nil) [tup c] (V 25 (upd v 16 (.int k))))) _ = _ ∧ _
    rw [asgs_cons, V_asg (by decide)]
    show ∃ v', M.bind (M.lift (asgs .nil [] (V 25 (upd (upd v 16 (.int k)) 17 (tup c))))) _ = _ ∧ _
    rw [asgs_nil, lsome, bpure]
    have e4 : v 4 = some (T d rows) := by rw [vk 4 (by decide) (by decide) (by decide), h4]
    have e14 : v 14 = some (K gs) := by rw [vk 14 (by decide) (by decide) (by decide), h14]
    have t0 : exec F50 q_1_7_2_0 (V 25 (upd (upd v 16 (.int k)) 17 (tup c))) = M.pure (.nx, V 25 (upd (upd (upd v 16 (.int k)) 17 (tup c)) 18 (.list (sums.map .int)))) :=
      ex_set (d := .list (sums.map .int)) (by simp [e14, call, c3]) (V_asg (by decide))
    have t1 : ∀ v : Nat → Option D, v 4 = some (T d rows) → v 14 = some (K gs) → v 16 = some (.int k) → v 18 = some (.list (sums.map .int)) → exec F50 q_1_7_2_1 (V 25 v) = M.pure (.nx, V 25 v) := by
      intro v e4 e14 e16 e18
      have c5 : ev F50 (.comp [19] (.var 19) (.nm 19) (.rng1 (.blt .len (.cons (.var 18) .nil))) (.some (.cmp .eq (.idx (.var 18) (.var 19)) (.blt .max (.cons (.var 18) .nil))))) (V 25 v) = M.pure (.list ((bestOf sums).map .int)) := by
        rw [x_compF (xs := List.range sums.length) (enc := fun (a : Nat) => .int a) (q := fun a => decide (sums.getD a 0 = mx sums)) (g := fun (a : Nat) => .int a)]
        · unfold bestOf; rw [List.map_map]; rfl
        · have : (-16777216 : Int) ≤ (sums.length : Nat) ∧ ((sums.length : Nat) : Int) ≤ 16777216 := by omega
          simp [e18, bltD, un, intOf, rngL, this]
        · simp
        · intro a ha
          have ha' : a < sums.length := by simpa using ha
          refine ⟨V 25 (upd (wips v [19]) 19 (.int a)), .bool (decide (sums.getD a 0 = mx sums)), by simp, ?_, rfl, fun _ => by simp⟩
          have i1 : idxD (.list (sums.map .int)) (.int a) = some (.int (sums.getD a 0)) := by
            simp [idxD, ixAt, ha', List.getD_eq_getElem?_getD]
          have i2 := max_list hne
          generalize sums.map (PyData.int : Int → D) = sd at *
          simp [e18, i1, i2, bltD, un]
        · simp; omega
      have ne1 := neD (sh_tup (p := bestOf sums))
      rw [cmp_ne] at ne1
      have tn : PyData.tuple ((bestOf sums).map (PyData.int : Int → D)) = tup (bestOf sums) := rfl
      refine ex_no (d := .bool false) ?_ rfl
      generalize hcc : (E.comp [19] (.var 19) (.nm 19) (.rng1 (.blt .len (.cons (.var 18) .nil))) (.some (.cmp .eq (.idx (.var 18) (.var 19)) (.blt .max (.cons (.var 18) .nil))))) = cc at c5
      generalize bestOf sums = bo at *
      simp [e4, e14, e16, call, c2, c5, ne1, tn, bltD, un]
    refine ⟨upd (upd (upd v 16 (.int k)) 17 (tup c)) 18 (.list (sums.map .int)), ?_, fun j j1 j2 j3 => by simp [j1, j2, j3, vk j j1 j2 j3]⟩
    show execs F50 (.cons q_1_7_2_0 (.cons q_1_7_2_1 .nil)) _ = _
    rw [exs_nx t0, exs_nx (t1 _ (by simp [e4]) (by simp [e14]) (by simp) (by simp)), exs_nil])
  refine ⟨v', ex_for ?_ h1, h2⟩
  simp [h4, call, c1, hen]
theorem s73_ok {n w : Nat} {d : Int} {rows gs : List (List Int)} (h4 : f 4 = some (T d rows)) (h14 : f 14 = some (K gs)) (h15 : f 15 = some (rat (ratio (W gs (cols w rows)) d))) (m : Sm n w d rows gs) : exec F50 q_1_7_3 (V 25 f) = M.pure (.nx, V 25 f) := by
  obtain ⟨w', d', rows', c1, t', hr⟩ := plain_full m.tel
  have c2 := worth_ok t' m.stn
  rw [hr gs m.stn.ne] at c2
  have ne1 := neD (sh_rat (p := ratio (W gs (cols w rows)) d))
  rw [cmp_ne] at ne1
  refine ex_no (d := .bool false) ?_ rfl
  simp [h4, h14, h15, call, c1, c2, ne1]
/-- all that is asked of one's stakes -/
theorem s7B_ok {n w : Nat} {d : Int} {rows gs : List (List Int)} (h4 : f 4 = some (T d rows)) (h14 : f 14 = some (K gs)) (m : Sm n w d rows gs) : ∃ f', execs F50 q_1_7B (V 25 f) = M.pure (.nx, V 25 f') ∧ ∀ k, k ≠ 15 → k ≠ 16 → k ≠ 17 → k ≠ 18 → f' k = f k := by
  have t0 := s70_ok h4 h14 m
  have t1 := s71_ok (f := upd f 15 (rat (ratio (W gs (cols w rows)) d))) (by simp [h4]) (by simp [h14]) (by simp) m
  obtain ⟨f', t2, hk⟩ := s72_ok (f := upd f 15 (rat (ratio (W gs (cols w rows)) d))) (by simp [h4]) (by simp [h14]) m
  have t3 := s73_ok (f := f') (by rw [hk 4 (by decide) (by decide) (by decide)]; simp [h4]) (by rw [hk 14 (by decide) (by decide) (by decide)]; simp [h14]) (by rw [hk 15 (by decide) (by decide) (by decide)]; simp) m
  refine ⟨f', ?_, fun k a b c e => by rw [hk k b c e]; simp [a]⟩
  show execs F50 (.cons q_1_7_0 (.cons q_1_7_1 (.cons q_1_7_2 (.cons q_1_7_3 .nil)))) _ = _
  rw [exs_nx t0, exs_nx t1, exs_nx t2, exs_nx t3, exs_nil]
end NS
set_option linter.all false
set_option maxRecDepth 100000
set_option maxHeartbeats 1000000
set_option exponentiation.threshold 2000
namespace NS
open Tn
open PySem (PyData Str)
variable {f : Nat → Option D}
theorem s7_ok {n w : Nat} {d : Int} {rows a b c e : List (List Int)} (h4 : f 4 = some (T d rows)) (h5 : f 5 = some (K a)) (h6 : f 6 = some (K b)) (h7 : f 7 = some (K c)) (h8 : f 8 = some (K e)) (ma : Sm n w d rows a) (mb : Sm n w d rows b) (mc : Sm n w d rows c) (me : Sm n w d rows e) :
    ∃ f', exec F50 q_1_7 (V 25 f) = M.pure (.nx, V 25 f') ∧ ∀ k, k ≠ 14 → k ≠ 15 → k ≠ 16 → k ≠ 17 → k ≠ 18 → f' k = f k := by
  obtain ⟨v', h1, h2⟩ := forL_V (n := 25) (f := fun d env => M.bind (M.lift (asg (.nm 14) d env)) fun e => execs F50 q_1_7B e) (fun _ v => ∀ k, k ≠ 14 → k ≠ 15 → k ≠ 16 → k ≠ 17 → k ≠ 18 → v k = f k) (xs := [K a, K b, K c, K e]) (v := f) (fun _ _ _ _ _ _ => rfl) (by
    intro i v x hx vk
    have hm := List.mem_of_getElem? hx
    have : ∃ gs, x = K gs ∧ Sm n w d rows gs := by
      simp only [List.mem_cons, List.not_mem_nil, or_false] at hm
      rcases hm with rfl | rfl | rfl | rfl
      · exact ⟨_, rfl, ma⟩
      · exact ⟨_, rfl, mb⟩
      · exact ⟨_, rfl, mc⟩
      · exact ⟨_, rfl, me⟩
    obtain ⟨gs, rfl, m⟩ := this
    have e4 : v 4 = some (T d rows) := by rw [vk 4 (by decide) (by decide) (by decide) (by decide) (by decide), h4]
    obtain ⟨f', t, hk⟩ := s7B_ok (f := upd v 14 (K gs)) (by simp [e4]) (by simp) m
    refine ⟨f', ?_, fun j a b c d e => by rw [hk j b c d e]; simp [a, vk j a b c d e]⟩
    rw [V_asg (by decide), lsome, bpure, t])
  refine ⟨v', ex_for ?_ h1, h2⟩
  simp [h5, h6, h7, h8]
theorem s8_ok {n w : Nat} {d : Int} {rows gs hs : List (List Int)} (h4 : f 4 = some (T d rows)) (h5 : f 5 = some (K gs)) (h6 : f 6 = some (K hs)) (h7 : f 7 = some (K (both gs hs))) (ma : Sm n w d rows gs) (mb : Sm n w d rows hs) (mc : Sm n w d rows (both gs hs)) : exec F50 q_1_8 (V 25 f) = M.pure (.nx, V 25 f) := by
  have d1 := ma.tel.d1
  have c1 := worth_ok ma.tel ma.stn
  have c2 := worth_ok mb.tel mb.stn
  have c3 := worth_ok mc.tel mc.stn
  have c4 := sum_rat (a := W gs (cols w rows)) (b := d) (c := W hs (cols w rows)) (d := d) (by omega) (by omega) (Nat.lt_of_lt_of_le (W_small ma.tel ma.stn ma.sm) p24) (Nat.lt_of_lt_of_le (d_small ma.tel) p24) (Nat.lt_of_lt_of_le (W_small mb.tel mb.stn mb.sm) p24) (Nat.lt_of_lt_of_le (d_small ma.tel) p24)
  have hd : (0 : Int) < d := by omega
  have e : ratio (W gs (cols w rows) * d + W hs (cols w rows) * d) (d * d) = ratio (W (both gs hs) (cols w rows)) d := by
    rw [W_both ma.stn.ne mb.stn.ne ma.stn.wid mb.stn.wid, ← Int.add_mul, Int.mul_comm _ d, ratio_scale hd hd]
  rw [e] at c4
  have ne1 := neD (sh_rat (p := ratio (W (both gs hs) (cols w rows)) d))
  rw [cmp_ne] at ne1
  refine ex_no (d := .bool false) ?_ rfl
  simp [h4, h5, h6, h7, call, c1, c2, c3, c4, ne1]
theorem less_no {n w : Nat} {d : Int} {rows gs hs : List (List Int)} (ma : Sm n w d rows gs) (mb : Sm n w d rows hs) (h : W gs (cols w rows) ≤ W hs (cols w rows)) : G 7 [rat (ratio (W hs (cols w rows)) d), rat (ratio (W gs (cols w rows)) d)] = M.pure (.bool false) := by
  have d1 := ma.tel.d1
  have hd : (0 : Int) < d := by omega
  rw [less_rat hd hd (Nat.lt_of_lt_of_le (W_small mb.tel mb.stn mb.sm) p29) (Nat.lt_of_lt_of_le (d_small ma.tel) p29) (Nat.lt_of_lt_of_le (W_small ma.tel ma.stn ma.sm) p29) (Nat.lt_of_lt_of_le (d_small ma.tel) p29)]
  have := Int.mul_le_mul_of_nonneg_right h (Int.le_of_lt hd)
  rw [decide_eq_false (by omega)]
theorem s9_ok {n w : Nat} {d : Int} {rows gs hs : List (List Int)} (h4 : f 4 = some (T d rows)) (h5 : f 5 = some (K gs)) (h6 : f 6 = some (K hs)) (h8 : f 8 = some (K (gs ++ hs))) (ma : Sm n w d rows gs) (mb : Sm n w d rows hs) (mc : Sm n w d rows (gs ++ hs)) : exec F50 q_1_9 (V 25 f) = M.pure (.nx, V 25 f) := by
  have c1 := worth_ok ma.tel ma.stn
  have c2 := worth_ok mb.tel mb.stn
  have c3 := worth_ok mc.tel mc.stn
  have l1 := less_no ma mc (W_sub ma.stn.ne (fun g hg => List.mem_append_left _ hg) _)
  have l2 := less_no mb mc (W_sub mb.stn.ne (fun g hg => List.mem_append_right _ hg) _)
  refine ex_no (d := .bool false) ?_ rfl
  simp [h4, h5, h6, h8, call, c1, c2, c3, l1, l2]
theorem s11_ok {n w v : Nat} {d e d' : Int} {rows g rows' gs : List (List Int)} (h4 : f 4 = some (T d rows)) (h5 : f 5 = some (K gs)) (h20 : f 20 = some (T d' rows')) (ma : Sm n w d rows gs) (hg : Gar w v e g) (tl : Tel n v d' rows') (d0 : 1 ≤ d') (hde : d * e ≤ 1000000000000000000000000000000)
    (hr : ∀ gs : List (List Int), gs ≠ [] → ratio (W gs (cols v rows')) d' = ratio (W gs (cols v (prod w v rows g))) (d * e)) : exec F50 q_1_11 (V 25 f) = M.pure (.nx, V 25 f) := by
  have d1 := ma.tel.d1
  have e1 := hg.d1
  have hd : (0 : Int) < d := by omega
  have hde0 : 0 < d * e := Int.mul_pos hd (by omega)
  have c1 := worth_ok ma.tel ma.stn
  have c2 := worth_ok tl ma.stn
  have hW := W_garbled (gs := gs) (rows := rows) ma.stn.ne hg.len hg.wid hg.nn hg.sum
  have c3 := less_rat (a := W gs (cols w rows)) (b := d) (c := W gs (cols v rows')) (d := d') hd (by omega) (Nat.lt_of_lt_of_le (W_small ma.tel ma.stn ma.sm) p29) (Nat.lt_of_lt_of_le (d_small ma.tel) p29) (Nat.lt_of_lt_of_le (W_small tl ma.stn ma.sm) p29) (Nat.lt_of_lt_of_le (d_small tl) p29)
  have no : ¬ (W gs (cols w rows) * d' < W gs (cols v rows') * d) := by
    intro z
    have z2 := (ratio_less (a := W gs (cols w rows)) (b := d) (c := W gs (cols v rows')) (d := d') hd (by omega)).mpr z
    rw [hr gs ma.stn.ne] at z2
    have z3 := (ratio_less (a := W gs (cols w rows)) (b := d) (c := W gs (cols v (prod w v rows g))) (d := d * e) hd hde0).mp z2
    have z4 := Int.mul_le_mul_of_nonneg_right hW (Int.le_of_lt hd)
    have z5 : W gs (cols w rows) * (d * e) = e * W gs (cols w rows) * d := by simp only [Int.mul_comm, Int.mul_left_comm, Int.mul_assoc]
    omega
  rw [decide_eq_false no] at c3
  refine ex_no (d := .bool false) ?_ rfl
  simp [h4, h5, h20, call, c1, c2, c3]
theorem moved_tup {g : List Int} {s : Nat} {b : Int} (hs : s < g.length) : g.take s ++ [g.getD s 0 + b] ++ g.drop (s + 1) = g.set s (g.getD s 0 + b) := by
  rw [List.set_eq_take_append_cons_drop, if_pos hs]
  simp
theorem s13_ok {n : Nat} {gs : List (List Int)} {s : Nat} {b : Int} (h5 : f 5 = some (K gs)) (h21 : f 21 = some (.int s)) (h22 : f 22 = some (.int b)) (sg : Stn n gs) (hs : s < n) : exec F50 q_1_13 (V 25 f) = M.pure (.nx, V 25 (upd f 23 (K (moved s b gs)))) := by
  have n6 := sg.n6
  have c1 : ev F50 (.comp [10] (.bin .add (.bin .add (.slice (.var 10) .none (.some (.var 21))) (.tup (.cons (.bin .add (.idx (.var 10) (.var 21)) (.var 22)) .nil))) (.slice (.var 10) (.some (.bin .add (.var 21) (.con (.int 1)))) .none)) (.nm 10) (.seq (.idx (.var 5) (.con (.int 1)))) .none) (V 25 f) = M.pure (.list ((moved s b gs).map tup)) := by
    rw [x_comp (xs := gs) (enc := tup) (g := fun g => tup (g.set s (g.getD s 0 + b)))]
    · simp [moved, Function.comp_def]
    · simp [h5, K_0, tups]
    · simp
    · intro g hg
      have hl := sg.wid g hg
      refine ⟨V 25 (upd (wips f [10]) 10 (tup g)), by simp, ?_⟩
      have i1 : idxD (tup g) (.int s) = some (.int (g.getD s 0)) := by
        simp [idxD, ixAt, tup, hl, hs, List.getD_eq_getElem?_getD]
      have i2 : sliceD (tup g) none (some (s : Int)) = some (tup (g.take s)) := by
        unfold tup
        rw [slice_to, List.map_take]
      have i3 : sliceD (tup g) (some ((s : Int) + 1)) none = some (tup (g.drop (s + 1))) := by
        unfold tup
        rw [show ((s : Int) + 1) = ((s + 1 : Nat) : Int) by omega, slice_from, List.map_drop]
      have a1 : addD (tup (g.take s)) (.tuple [.int (g.getD s 0 + b)]) = some (tup (g.take s ++ [g.getD s 0 + b])) := by
        show (if _ then _ else _) = _
        rw [if_pos (by rw [List.length_map, List.length_take]; simp; omega)]
        simp [tup]
      have a2 : addD (tup (g.take s ++ [g.getD s 0 + b])) (tup (g.drop (s + 1))) = some (tup (g.set s (g.getD s 0 + b))) := by
        rw [← moved_tup (by omega)]
        show (if _ then _ else _) = _
        rw [if_pos (by rw [List.length_map, List.length_map, List.length_append, List.length_take, List.length_drop]; simp; omega)]
        simp [tup]
      generalize g.getD s 0 = x at *
      generalize tup (g.take s) = y1 at *
      generalize tup (g.drop (s + 1)) = y2 at *
      generalize tup (g.take s ++ [x + b]) = y3 at *
      simp [h21, h22, intOf, i1, i2, i3, binD, addD] at a1 a2 ⊢
      simp [addD, a1, a2]
    · have := sg.len
      simp; omega
  refine ex_set (d := K (moved s b gs)) ?_ (V_asg (by decide))
  generalize hcc : (E.comp [10] (.bin .add (.bin .add (.slice (.var 10) .none (.some (.var 21))) (.tup (.cons (.bin .add (.idx (.var 10) (.var 21)) (.var 22)) .nil))) (.slice (.var 10) (.some (.bin .add (.var 21) (.con (.int 1)))) .none)) (.nm 10) (.seq (.idx (.var 5) (.con (.int 1)))) .none) = cc at c1
  simp [c1, bltD, un]
  rfl
theorem s14_ok {n w : Nat} {d : Int} {s : Nat} {b : Int} {rows gs : List (List Int)} (h4 : f 4 = some (T d rows)) (h5 : f 5 = some (K gs)) (h22 : f 22 = some (.int b)) (h23 : f 23 = some (K (moved s b gs))) (hs : s < n) (hb : b.natAbs ≤ 10) (ma : Sm n w d rows gs) (mc : Sm n w d rows (moved s b gs)) : exec F50 q_1_14 (V 25 f) = M.pure (.nx, V 25 f) := by
  have d1 := ma.tel.d1
  have hd : (0 : Int) < d := by omega
  have c1 := worth_ok ma.tel ma.stn
  have c3 := worth_ok mc.tel mc.stn
  have h10 : (10 : Nat) < 2 ^ 400 := by decide
  have c4 := sum_rat (a := W gs (cols w rows)) (b := d) (c := b) (d := 1) hd (by omega) (Nat.lt_of_lt_of_le (W_small ma.tel ma.stn ma.sm) p24) (Nat.lt_of_lt_of_le (d_small ma.tel) p24) (by omega) (by decide)
  rw [ratio_one, Int.mul_one, Int.mul_one, ← W_moved ma.stn.ne ma.tel.len hs ma.stn.wid ma.tel.wid ma.tel.sum] at c4
  have c4 : G 11 [rat (ratio (W gs (cols w rows)) d), .tuple [.int b, .int 1]] = M.pure (rat (ratio (W (moved s b gs) (cols w rows)) d)) := c4
  have ne1 := neD (sh_rat (p := ratio (W (moved s b gs) (cols w rows)) d))
  rw [cmp_ne] at ne1
  refine ex_no (d := .bool false) ?_ rfl
  simp [h4, h5, h22, h23, call, c1, c3, c4, ne1]
theorem s15_ok {gs : List (List Int)} (h5 : f 5 = some (K gs)) (hl : gs.length ≤ 1000) : exec F50 q_1_15 (V 25 f) = M.pure (.nx, V 25 (upd f 24 (K (gs ++ gs.take 1)))) := by
  have e1 := slice_tups (gs := gs) (k := 1)
  simp at e1
  have a1 : addD (tups gs) (tups (gs.take 1)) = some (tups (gs ++ gs.take 1)) := by
    show (if _ then _ else _) = _
    rw [if_pos (by rw [List.length_map, List.length_map, List.length_take]; unfold big; omega), ← List.map_append]
    rfl
  refine ex_set (d := K (gs ++ gs.take 1)) ?_ (V_asg (by decide))
  simp [h5, K_0, intOf, e1, binD, a1]
  rfl
theorem s16_ok {n w : Nat} {d : Int} {rows gs : List (List Int)} (h4 : f 4 = some (T d rows)) (h5 : f 5 = some (K gs)) (h24 : f 24 = some (K (gs ++ gs.take 1))) (ma : Sm n w d rows gs) (mc : Sm n w d rows (gs ++ gs.take 1)) : exec F50 q_1_16 (V 25 f) = M.pure (.nx, V 25 f) := by
  have c1 := worth_ok ma.tel ma.stn
  have c3 := worth_ok mc.tel mc.stn
  have e : W (gs ++ gs.take 1) (cols w rows) = W gs (cols w rows) := by
    have h1 := W_sub (gs := gs) (hs := gs ++ gs.take 1) ma.stn.ne (fun g hg => List.mem_append_left _ hg) (cols w rows)
    have h2 := W_sub (gs := gs ++ gs.take 1) (hs := gs) mc.stn.ne (fun g hg => by
      rcases List.mem_append.mp hg with h | h
      · exact h
      · exact List.mem_of_mem_take h) (cols w rows)
    omega
  rw [e] at c3
  have ne1 := neD (sh_rat (p := ratio (W gs (cols w rows)) d))
  rw [cmp_ne] at ne1
  refine ex_no (d := .bool false) ?_ rfl
  simp [h4, h5, h24, call, c1, c3, ne1]
end NS
set_option linter.all false
set_option maxRecDepth 100000
set_option maxHeartbeats 1000000
set_option exponentiation.threshold 2000
namespace NS
open Tn
open PySem (PyData Str)
theorem sm_of {n w : Nat} {d : Int} {rows gs : List (List Int)} (t : Tel n w d rows) (h1 : 1 ≤ gs.length) (h2 : gs.length ≤ 12) (hg : ∀ g ∈ gs, g.length = n ∧ ∀ x ∈ g, x.natAbs ≤ 1000) : Sm n w d rows gs := by
  have n6 := t.n6
  have h3 : (1000 : Nat) < 2 ^ 200 := by decide
  refine ⟨t, ⟨⟨fun z => by rw [z] at h1; simp at h1, by omega, fun g hm => ⟨by rw [(hg g hm).1]; omega, fun x hx => ?_⟩⟩, h2, fun g hm => (hg g hm).1, t.n1, n6⟩, fun g hm => (hg g hm).2⟩
  have := (hg g hm).2 x hx
  omega
theorem both_len (ys hs : List (List Int)) : (both ys hs).length = ys.length * hs.length := by
  unfold both
  induction ys with
  | nil => simp
  | cons y ys ih => rw [List.flatMap_cons, List.length_append, ih, List.length_map, List.length_cons, Nat.succ_mul]; omega
theorem both_gn {n : Nat} {gs hs : List (List Int)} (h1 : ∀ g ∈ gs, Gn n g) (h2 : ∀ g ∈ hs, Gn n g) : ∀ g ∈ both gs hs, g.length = n ∧ ∀ x ∈ g, x.natAbs ≤ 1000 := by
  intro g hg
  obtain ⟨a, ha, hm⟩ := List.mem_flatMap.mp hg
  obtain ⟨b, hb2, rfl⟩ := List.mem_map.mp hm
  have q1 := h1 a ha
  have q2 := h2 b hb2
  refine ⟨(addv_len (q1.1.trans q2.1.symm)).trans q2.1, fun x hx => ?_⟩
  obtain ⟨p, hp, rfl⟩ := List.mem_map.mp hx
  obtain ⟨p1, p2⟩ := List.of_mem_zip (show (p.1, p.2) ∈ a.zip b from hp)
  have := q1.2 _ p1
  have := q2.2 _ p2
  omega
theorem gn_wide {n : Nat} {gs : List (List Int)} (h : ∀ g ∈ gs, Gn n g) : ∀ g ∈ gs, g.length = n ∧ ∀ x ∈ g, x.natAbs ≤ 1000 := fun g hg => ⟨(h g hg).1, fun x hx => by have := (h g hg).2 x hx; omega⟩
theorem moved_gn {n s : Nat} {b : Int} {gs : List (List Int)} (h : ∀ g ∈ gs, Gn n g) (hs : s < n) (hb : b.natAbs ≤ 10) : ∀ g ∈ moved s b gs, g.length = n ∧ ∀ x ∈ g, x.natAbs ≤ 1000 := by
  intro g hg
  obtain ⟨a, ha, rfl⟩ := List.mem_map.mp hg
  have q := h a ha
  refine ⟨by rw [List.length_set]; exact q.1, fun x hx => ?_⟩
  rcases List.mem_or_eq_of_mem_set hx with z | z
  · have := q.2 x z; omega
  · have := q.2 _ (getD_mem (r := a) (k := s) (by rw [q.1]; exact hs))
    omega
/-- the law's own invariant -/
def Inv (scr : D) (N : Nat) (f : Nat → Option D) (o : Objs) : Prop := f 0 = some scr ∧ f 1 = some dr ∧ Dr N o
theorem turn_ok {scr : D} {N : Nat} (hN : N ≤ 8000000) {f : Nat → Option D} {o : Objs} (h : Inv scr N f o) : Wp (execs F50 q_1B (V 25 f)) o fun r o' => r.1 = .nx ∧ ∃ f', r.2 = V 25 f' ∧ Inv scr (N + 2000) f' o' := by
  obtain ⟨h0, h1, hd⟩ := h
  show Wp (execs F50 (.cons q_1_0 (.cons q_1_1 (.cons q_1_2 (.cons q_1_3 (.cons q_1_4 (.cons q_1_5 (.cons q_1_6 (.cons q_1_7 (.cons q_1_8 (.cons q_1_9 (.cons q_1_10 (.cons q_1_11 (.cons q_1_12 (.cons q_1_13 (.cons q_1_14 (.cons q_1_15 (.cons q_1_16 .nil))))))))))))))))) _) _ _
  -- how many states
  have hc3 : F50 3 = G 3 := call (by decide)
  have hc13 : F50 13 = G 13 := call (by decide)
  have hc8 : F50 8 = G 8 := call (by decide)
  have hc6 : F50 6 = G 6 := call (by decide)
  have hc33 : F50 33 = G 33 := call (by decide)
  obtain ⟨r, o1, e1, k, rfl, k0, k1, hd⟩ := take_wp (by omega) (many := 5) (by omega) (by omega) hd
  obtain ⟨n, hn⟩ : ∃ n : Nat, (n : Int) = 1 + k := ⟨(1 + k).toNat, by omega⟩
  have n1 : 1 ≤ n := by omega
  have n5 : n ≤ 5 := by omega
  refine wp_cons ⟨(.nx, V 25 (upd f 3 (.int n))), o1, ?_, rfl, ?_⟩
  · show (M.bind _ _ : M _) o = _
    simp [M.bind, ev, evs, getV, V_at, h1, hc3, e1, binD, addD, M.lift, M.pure, hn]
  -- a teller, stakes
  obtain ⟨r, o2, e2, w, d, rows, rfl, tl, w5, d12, hd⟩ := drawn_wp (n := n) (by omega) n1 (by omega) hd
  obtain ⟨r, o3, e3, gs0, rfl, g1, g4, gg, hd⟩ := stakes_wp (n := n) (by omega) n1 (by omega) hd
  obtain ⟨r, o4, e4, hs0, rfl, l1, l4, hg, hd⟩ := stakes_wp (n := n) (by omega) n1 (by omega) hd
  have e3' : G 8 [dr, .int n, .int (-6)] o2 = some (.ok (K gs0) o3) := e3
  refine wp_cons ⟨(.nx, V 25 (upd (upd (upd (upd f 3 (.int n)) 4 (T d rows)) 5 (K gs0)) 6 (K hs0))), o4, ?_, rfl, ?_⟩
  · have c : evs F50 (.cons (.call 13 (.cons (.var 1) (.cons (.var 3) (.cons (.con (.int 5)) .nil)))) (.cons (.call 8 (.cons (.var 1) (.cons (.var 3) (.cons (.neg (.con (.int 6))) .nil)))) (.cons (.call 8 (.cons (.var 1) (.cons (.var 3) (.cons (.neg (.con (.int 6))) .nil)))) .nil))) (V 25 (upd f 3 (.int n))) o1 = some (.ok [T d rows, K gs0, K hs0] o4) := by
      simp [M.bind, ev, evs, getV, V_at, h1, hc13, hc8, e2, e3, e4, M.lift, M.pure, intOf]
    show (M.bind _ _ : M _) o1 = _
    unfold M.bind
    rw [c]
    simp [M.lift, M.bind, M.pure]
  have gg' : ∀ g ∈ gs0.take 3, Gn n g := fun g hm => gg g (List.mem_of_mem_take hm)
  have hg' : ∀ g ∈ hs0.take 4, Gn n g := fun g hm => hg g (List.mem_of_mem_take hm)
  have tg : 1 ≤ (gs0.take 3).length ∧ (gs0.take 3).length ≤ 3 := by rw [List.length_take]; omega
  have th : 1 ≤ (hs0.take 4).length ∧ (hs0.take 4).length ≤ 4 := by rw [List.length_take]; omega
  refine wp_step (s2_ok (gs := gs0) (hs := hs0) (by simp) (by simp)) ?_
  generalize gs0.take 3 = gs at gg' tg
  generalize hs0.take 4 = hs at hg' th
  have ma : Sm n w d rows gs := sm_of tl tg.1 (by omega) (gn_wide gg')
  have mb : Sm n w d rows hs := sm_of tl th.1 (by omega) (gn_wide hg')
  have bl := both_len gs hs
  have mc : Sm n w d rows (both gs hs) := sm_of tl (by rw [bl]; exact Nat.mul_pos tg.1 th.1) (by rw [bl]; exact Nat.mul_le_mul tg.2 th.2) (both_gn gg' hg')
  have me : Sm n w d rows (gs ++ hs) := sm_of tl (by rw [List.length_append]; omega) (by rw [List.length_append]; omega) (by
    intro g hm
    rcases List.mem_append.mp hm with z | z
    · exact gn_wide gg' g z
    · exact gn_wide hg' g z)
  refine wp_step (s3_ok (gs := gs) (hs := hs) (by simp) (by simp) ma.stn mb.stn tg.2 th.2) ?_
  refine wp_step (env' := V 25 (upd (upd (upd (upd (upd (upd (upd (upd (upd f 3 (.int n)) 4 (T d rows)) 5 (K gs0)) 6 (K hs0)) 5 (K gs)) 6 (K hs)) 7 (K (both gs hs))) 8 (K (gs ++ hs))) 9 (.list []))) (ex_set (d := .list []) (by simp) (V_asg (by decide))) ?_
  obtain ⟨f5, t5, f9, fk⟩ := s5_ok (f := upd (upd (upd (upd (upd (upd (upd (upd (upd f 3 (.int n)) 4 (T d rows)) 5 (K gs0)) 6 (K hs0)) 5 (K gs)) 6 (K hs)) 7 (K (both gs hs))) 8 (K (gs ++ hs))) 9 (.list [])) (gs := gs) (hs := hs) (by simp) (by simp) (by simp) ma.stn mb.stn tg.2 th.2
  refine wp_step t5 ?_
  have x0 : f5 0 = some scr := by rw [fk 0 (by decide) (by decide)]; simp [h0]
  have x1 : f5 1 = some dr := by rw [fk 1 (by decide) (by decide)]; simp [h1]
  have x3 : f5 3 = some (.int n) := by rw [fk 3 (by decide) (by decide)]; simp
  have x4 : f5 4 = some (T d rows) := by rw [fk 4 (by decide) (by decide)]; simp
  have x5 : f5 5 = some (K gs) := by rw [fk 5 (by decide) (by decide)]; simp
  have x6 : f5 6 = some (K hs) := by rw [fk 6 (by decide) (by decide)]; simp
  have x7 : f5 7 = some (K (both gs hs)) := by rw [fk 7 (by decide) (by decide)]; simp
  have x8 : f5 8 = some (K (gs ++ hs)) := by rw [fk 8 (by decide) (by decide)]; simp
  clear t5 fk
  refine wp_step (s6_ok x5 x6 x7 x8 f9 ma.stn tg.2 th.2) ?_
  obtain ⟨f7, t7, gk⟩ := s7_ok x4 x5 x6 x7 x8 ma mb mc me
  refine wp_step t7 ?_
  have y0 : f7 0 = some scr := by rw [gk 0 (by decide) (by decide) (by decide) (by decide) (by decide)]; exact x0
  have y1 : f7 1 = some dr := by rw [gk 1 (by decide) (by decide) (by decide) (by decide) (by decide)]; exact x1
  have y3 : f7 3 = some (.int n) := by rw [gk 3 (by decide) (by decide) (by decide) (by decide) (by decide)]; exact x3
  have y4 : f7 4 = some (T d rows) := by rw [gk 4 (by decide) (by decide) (by decide) (by decide) (by decide)]; exact x4
  have y5 : f7 5 = some (K gs) := by rw [gk 5 (by decide) (by decide) (by decide) (by decide) (by decide)]; exact x5
  have y6 : f7 6 = some (K hs) := by rw [gk 6 (by decide) (by decide) (by decide) (by decide) (by decide)]; exact x6
  have y7 : f7 7 = some (K (both gs hs)) := by rw [gk 7 (by decide) (by decide) (by decide) (by decide) (by decide)]; exact x7
  have y8 : f7 8 = some (K (gs ++ hs)) := by rw [gk 8 (by decide) (by decide) (by decide) (by decide) (by decide)]; exact x8
  clear t7 gk x0 x1 x3 x4 x5 x6 x7 x8 f9 f5
  refine wp_step (s8_ok y4 y5 y6 y7 ma mb mc) (wp_step (s9_ok y4 y5 y6 y8 ma mb me) ?_)
  -- heard behind a garbler
  obtain ⟨r, o5, e5, j, rfl, j0, j1, hd⟩ := take_wp (by omega) (many := 4) (by omega) (by omega) hd
  have w1 := tl.w1
  obtain ⟨r, o6, e6, e, g, rfl, gar, e6', hd⟩ := garbler_wp (w := w) (m := 1 + j) (by omega) w1 (by omega) (by omega) (by omega) hd
  have hde : d * e ≤ 1000000000000000000000000000000 := by
    have := Int.mul_le_mul (show d ≤ 12 by omega) (show e ≤ 6 by omega) (by have := gar.d1; omega) (by decide)
    omega
  obtain ⟨d', rows', c33, tl', d0', dle, hr⟩ := garbled_full tl gar hde
  obtain ⟨r0, rs, er, hr0⟩ := tl.tab.cons
  have i2 : idxD (tups rows) (.int 0) = some (tup r0) := by subst er; simp [tups, idxD, ixAt]
  have i3 : lenD (tup r0) = some (.int w) := by simp [tup, hr0]
  refine wp_cons ⟨(.nx, V 25 (upd f7 20 (T d' rows'))), o6, ?_, rfl, ?_⟩
  · have c : ev F50 (.call 33 (.cons (.var 4) (.cons (.call 6 (.cons (.var 1) (.cons (.blt .len (.cons (.idx (.idx (.var 4) (.con (.int 2))) (.con (.int 0))) .nil)) (.cons (.bin .add (.con (.int 1)) (.call 3 (.cons (.var 1) (.cons (.con (.int 4)) .nil)))) .nil)))) .nil))) (V 25 f7) o4 = some (.ok (T d' rows') o6) := by
      have c33' := congrFun c33 o6
      generalize T d' rows' = t' at *
      simp [M.bind, ev, evs, getV, V_at, y1, y4, hc3, hc6, hc33, T_2, i2, i3, bltD, un, e5, e6, binD, addD, c33', M.lift, M.pure]
    show (M.bind _ _ : M _) o4 = _
    unfold M.bind
    rw [c]
    simp [M.lift, M.bind, M.pure]
  refine wp_step (s11_ok (f := upd f7 20 (T d' rows')) (by simp [y4]) (by simp [y5]) (by simp) ma gar tl' d0' hde hr) ?_
  -- moved gains
  obtain ⟨r, o7, e7, s, rfl, s0, s1, hd⟩ := take_wp (by omega) (many := (n : Int)) (by omega) (by omega) hd
  obtain ⟨r, o8, e8, b, rfl, b0, b1, hd⟩ := take_wp (by omega) (many := 9) (by omega) (by omega) hd
  obtain ⟨s, rfl⟩ := Int.eq_ofNat_of_zero_le s0
  refine wp_cons ⟨(.nx, V 25 (upd (upd (upd f7 20 (T d' rows')) 21 (.int s)) 22 (.int (b - 4)))), o8, ?_, rfl, ?_⟩
  · have c : ev F50 (.tup (.cons (.call 3 (.cons (.var 1) (.cons (.var 3) .nil))) (.cons (.bin .sub (.call 3 (.cons (.var 1) (.cons (.con (.int 9)) .nil))) (.con (.int 4))) .nil))) (V 25 (upd f7 20 (T d' rows'))) o6 = some (.ok (.tuple [.int s, .int (b - 4)]) o8) := by
      simp [M.bind, ev, evs, getV, V_at, y1, y3, hc3, e7, e8, binD, ints2, M.lift, M.pure]
    show (M.bind _ _ : M _) o6 = _
    unfold M.bind
    rw [c]
    simp [M.lift, M.bind, M.pure, asg_tp, asgs_cons, asgs_nil]
  have hs : s < n := by omega
  have mm : Sm n w d rows (moved s (b - 4) gs) := sm_of tl (by unfold moved; rw [List.length_map]; exact tg.1) (by unfold moved; rw [List.length_map]; omega) (moved_gn gg' hs (by omega))
  have mt : Sm n w d rows (gs ++ gs.take 1) := sm_of tl (by rw [List.length_append]; omega) (by rw [List.length_append, List.length_take]; omega) (by
    intro g hm
    rcases List.mem_append.mp hm with z | z
    · exact gn_wide gg' g z
    · exact gn_wide gg' g (List.mem_of_mem_take z))
  refine wp_step (s13_ok (gs := gs) (s := s) (b := b - 4) (by simp [y5]) (by simp) (by simp) ma.stn hs) ?_
  refine wp_step (s14_ok (gs := gs) (s := s) (b := b - 4) (by simp [y4]) (by simp [y5]) (by simp) (by simp) hs (by omega) ma mm) ?_
  refine wp_step (s15_ok (gs := gs) (by simp [y5]) (by omega)) ?_
  refine wp_step (s16_ok (gs := gs) (by simp [y4]) (by simp [y5]) (by simp) ma mt) ?_
  exact wp_nil (F := F50) ⟨rfl, _, rfl, by simp [y0], by simp [y1], Dr.mono hd (by omega)⟩
theorem math : ∀ ns : List Int, ns.length ≤ 63 → ∃ o, tab fs 51 50 [scrD (ns.map .int)] [] = some (.ok (.bool true) o) := by
  intro ns hl
  have hR := congrFun (R50 (scrD (ns.map .int))) []
  obtain ⟨o, h0, hd⟩ := begun_ok hl
  have key : Wp (M.bind (execs (tab fs 50) f50.body (V 25 fun i => [scrD (ns.map .int)][i]?)) fin) [] fun r _ => r = .bool true := by
    refine wp_fin ?_
    rw [q_eq]
    show Wp (execs F50 (.cons q_0 (.cons q_1 (.cons q_2 .nil))) _) _ _
    have hc0 : F50 0 = G 0 := call (by decide)
    refine wp_cons ⟨(.nx, V 25 (upd (fun i => [scrD (ns.map .int)][i]?) 1 dr)), o, ?_, rfl, ?_⟩
    · have c : ev F50 (.call 0 (.cons (.var 0) .nil)) (V 25 fun i => [scrD (ns.map .int)][i]?) [] = some (.ok dr o) := by
        simp [M.bind, ev, evs, getV, V_at, hc0, h0, M.pure]
      show (M.bind _ _ : M _) [] = _
      unfold M.bind
      rw [c]
      simp [M.lift, M.bind, M.pure]
    have ll : bltD .len [scrD (ns.map .int)] = some (.int (ns.length : Nat)) := by
      show some (PyData.int (((ns.map (PyData.int : Int → D)).length : Nat) : Int)) = _
      rw [List.length_map]
    refine wp_cons (wp_for (.pure' (a := rngL 0 ((3 : Int) + (if (5 : Int) < (ns.length : Int) then (5 : Int) else (ns.length : Int))).toNat) ?_ ?_))
    · have hb : (-16777216 : Int) ≤ 3 + (if (5 : Int) < ns.length then 5 else (ns.length : Int)) ∧ 3 + (if (5 : Int) < ns.length then 5 else (ns.length : Int)) ≤ 16777216 := by split <;> omega
      have b2 : ∀ a b : Int, bltD .min2 [.int a, .int b] = some (.int (if b < a then b else a)) := fun _ _ => rfl
      generalize scrD (ns.map .int) = sc at *
      simp [ll, b2, binD, addD, intOf, hb]
    refine (wp_forL (fun i env o => ∃ f, env = V 25 f ∧ Inv (scrD (ns.map .int)) (2000 * i) f o) _ 0 _ _ ⟨upd (fun i => [scrD (ns.map .int)][i]?) 1 dr, rfl, by simp, by simp, hd⟩ ?_).imp ?_
    · rintro i env o x hx ⟨f, rfl, hi⟩
      have hi8 : i < 8 := by
        have := (List.getElem?_eq_some_iff.mp hx).1
        simp [rngL] at this
        split at this <;> omega
      rw [V_asg (by decide), lsome, bpure]
      refine (turn_ok (scr := scrD (ns.map .int)) (N := 2000 * (0 + i)) (by omega) (f := upd f 2 x) ⟨by simp [hi.1], by simp [hi.2.1], hi.2.2⟩).imp ?_
      rintro ⟨fl, env⟩ o' ⟨a, f', rfl, b⟩
      exact ⟨a, f', rfl, by rw [show 2000 * (0 + i + 1) = 2000 * (0 + i) + 2000 by omega]; exact b⟩
    · rintro ⟨fl, env⟩ o' ⟨a, f, rfl, b⟩
      refine ⟨a, wp_last (.pure' (a := (.rt (.bool true), V 25 f)) (ex_ret (by simp)) ⟨⟨_, rfl⟩, _, rfl, rfl⟩)⟩
  obtain ⟨a, o', h, rfl⟩ := key
  exact ⟨o', hR.trans h⟩
end NS
set_option Elab.async false
set_option linter.all false
set_option maxRecDepth 100000
set_option maxHeartbeats 0
namespace NS
open PySem PySem.Spec PyProof.Rows L2 Tn
def top (i : Nat) : Stmt := PySem.Challenge.pw_toldnoless_k90_whole_across_stakes.main.body.getD i (.Pass ⟨0, 0, 0, 0⟩)
/-- _law_begun -/
def e0 : DefE := ⟨"_law_begun", "_law_begun", ["script", "large", "grain"], ["script"], top 60⟩
/-- _law_columns -/
def e1 : DefE := ⟨"_law_columns", "_law_columns", ["teller", "row", "k"], ["teller"], top 70⟩
/-- _law_mixed -/
def e2 : DefE := ⟨"_law_mixed", "_law_mixed", ["draw", "turn", "found", "prime", "blend", "grain"], ["draw"], top 61⟩
/-- _law_take -/
def e3 : DefE := ⟨"_law_take", "_law_take", ["draw", "many", "found"], ["draw", "many"], top 62⟩
/-- _law_pick -/
def e4 : DefE := ⟨"_law_pick", "_law_pick", ["draw", "some"], ["draw", "some"], top 63⟩
/-- _law_row -/
def e5 : DefE := ⟨"_law_row", "_law_row", ["draw", "size", "many", "found", "some", "k", "at"], ["draw", "size", "many"], top 67⟩
/-- _law_garbler -/
def e6 : DefE := ⟨"_law_garbler", "_law_garbler", ["draw", "heard", "said", "size", "k"], ["draw", "heard", "said"], top 69⟩
/-- _law_less -/
def e7 : DefE := ⟨"_law_less", "_law_less", ["first", "second"], ["first", "second"], top 66⟩
/-- _law_stakes -/
def e8 : DefE := ⟨"_law_stakes", "_law_stakes", ["draw", "many", "low", "deeds", "k", "state"], ["draw", "many", "low"], top 73⟩
/-- _law_gcd -/
def e9 : DefE := ⟨"_law_gcd", "_law_gcd", ["one", "other"], ["one", "other"], top 64⟩
/-- _law_ratio -/
def e10 : DefE := ⟨"_law_ratio", "_law_ratio", ["above", "below", "part"], ["above", "below"], top 65⟩
/-- _law_sum -/
def e11 : DefE := ⟨"_law_sum", "_law_sum", ["first", "second"], ["first", "second"], top 74⟩
/-- _law_sums -/
def e12 : DefE := ⟨"_law_sums", "_law_sums", ["column", "stakes", "gain", "number", "deed"], ["column", "stakes"], top 71⟩
/-- _law_teller -/
def e13 : DefE := ⟨"_law_teller", "_law_teller", ["draw", "many", "most", "size", "count", "rows", "state"], ["draw", "many", "most"], top 68⟩
/-- _law_worth -/
def e14 : DefE := ⟨"_law_worth", "_law_worth", ["teller", "stakes", "column"], ["teller", "stakes"], top 72⟩
/-- are_stakes -/
def e15 : DefE := ⟨"are_stakes", "are_stakes", ["thing", "gains", "deed", "gain"], ["thing"], top 27⟩
/-- are_stakes_for -/
def e16 : DefE := ⟨"are_stakes_for", "are_stakes_for", ["many", "thing"], ["many", "thing"], top 28⟩
/-- check_stakes_for -/
def e17 : DefE := ⟨"check_stakes_for", "check_stakes_for", ["many", "stakes"], ["many", "stakes"], top 30⟩
/-- is_number -/
def e18 : DefE := ⟨"is_number", "is_number", ["thing", "low", "high"], ["thing", "low", "high"], top 13⟩
/-- are_rows_tellers -/
def e19 : DefE := ⟨"are_rows_tellers", "are_rows", ["thing", "total", "most", "wide", "row", "one"], ["thing", "total", "most", "wide"], top 19⟩
/-- is_teller -/
def e20 : DefE := ⟨"is_teller", "is_teller", ["thing"], ["thing"], top 21⟩
/-- check_teller -/
def e21 : DefE := ⟨"check_teller", "check_teller", ["teller"], ["teller"], top 22⟩
/-- check_word -/
def e22 : DefE := ⟨"check_word", "check_word", ["teller", "word"], ["teller", "word"], top 23⟩
/-- columns_of -/
def e23 : DefE := ⟨"columns_of", "columns_of", ["teller", "rows", "row", "word"], ["teller"], top 18⟩
/-- sums_at -/
def e24 : DefE := ⟨"sums_at", "sums_at", ["stakes", "numbers", "gain", "one", "deed"], ["stakes", "numbers"], top 31⟩
/-- best_deeds -/
def e25 : DefE := ⟨"best_deeds", "best_deeds", ["teller", "stakes", "word", "sums", "deed", "one"], ["teller", "stakes", "word"], top 34⟩
/-- is_whole -/
def e26 : DefE := ⟨"is_whole", "is_whole", ["thing", "low"], ["thing", "low"], top 44⟩
/-- are_rows_garblers -/
def e27 : DefE := ⟨"are_rows_garblers", "are_rows", ["thing", "sure", "most", "row", "number"], ["thing", "sure", "most"], top 47⟩
/-- is_garbler -/
def e28 : DefE := ⟨"is_garbler", "is_garbler", ["thing"], ["thing"], top 49⟩
/-- check_garbler -/
def e29 : DefE := ⟨"check_garbler", "check_garbler", ["teller", "garbler"], ["teller", "garbler"], top 50⟩
/-- common_garblers -/
def e30 : DefE := ⟨"common_garblers", "common", ["numbers", "found", "number", "rest"], ["numbers"], top 45⟩
/-- lowered_rows -/
def e31 : DefE := ⟨"lowered_rows", "lowered_rows", ["whole", "rows", "by", "row", "number"], ["whole", "rows"], top 52⟩
/-- product -/
def e32 : DefE := ⟨"product", "product", ["rows", "more", "found", "row", "y", "z"], ["rows", "more"], top 51⟩
/-- garbled -/
def e33 : DefE := ⟨"garbled", "garbled", ["teller", "garbler", "whole", "rows"], ["teller", "garbler"], top 53⟩
/-- divisor -/
def e34 : DefE := ⟨"divisor", "divisor", ["one", "other"], ["one", "other"], top 14⟩
/-- common_tellers -/
def e35 : DefE := ⟨"common_tellers", "common", ["numbers", "found", "number"], ["numbers"], top 15⟩
/-- direction_of -/
def e36 : DefE := ⟨"direction_of", "direction_of", ["column", "by", "number"], ["column"], top 55⟩
/-- made -/
def e37 : DefE := ⟨"made", "made", ["d", "rows", "by", "row", "one"], ["d", "rows"], top 24⟩
/-- plain_of -/
def e38 : DefE := ⟨"plain_of", "plain_of", ["d", "columns", "found", "column", "way", "known", "one", "other", "some", "x"], ["d", "columns"], top 56⟩
/-- plain_told -/
def e39 : DefE := ⟨"plain_told", "plain_told", ["teller"], ["teller"], top 57⟩
/-- plain -/
def e40 : DefE := ⟨"plain", "plain", ["teller"], ["teller"], top 58⟩
/-- check_second -/
def e41 : DefE := ⟨"check_second", "check_second", ["stakes", "second"], ["stakes", "second"], top 36⟩
/-- check_stakes -/
def e42 : DefE := ⟨"check_stakes", "check_stakes", ["stakes"], ["stakes"], top 29⟩
/-- made_stakes -/
def e43 : DefE := ⟨"made_stakes", "made_stakes", ["deeds"], ["deeds"], top 37⟩
/-- stakes_either -/
def e44 : DefE := ⟨"stakes_either", "stakes_either", ["stakes", "second"], ["stakes", "second"], top 39⟩
/-- stakes_sum -/
def e45 : DefE := ⟨"stakes_sum", "stakes_sum", ["stakes", "second", "found", "deed", "gain", "more", "other"], ["stakes", "second"], top 38⟩
/-- unheard -/
def e46 : DefE := ⟨"unheard", "unheard", ["stakes", "deed"], ["stakes"], top 35⟩
/-- ratio -/
def e47 : DefE := ⟨"ratio", "ratio", ["top", "bottom", "by"], ["top", "bottom"], top 17⟩
/-- worth_told -/
def e48 : DefE := ⟨"worth_told", "worth_told", ["teller", "stakes", "numbers"], ["teller", "stakes"], top 32⟩
/-- worth -/
def e49 : DefE := ⟨"worth", "worth", ["teller", "stakes"], ["teller", "stakes"], top 33⟩
/-- law -/
def e50 : DefE := ⟨"law", "law", ["script", "draw", "turn", "many", "teller", "some", "more", "both", "chosen", "sums", "deed", "one", "other", "far", "stakes", "due", "k", "column", "told", "a", "later", "state", "by", "moved", "twice"], ["script"], top 75⟩
def es : List DefE := [e0, e1, e2, e3, e4, e5, e6, e7, e8, e9, e10, e11, e12, e13, e14, e15, e16, e17, e18, e19, e20, e21, e22, e23, e24, e25, e26, e27, e28, e29, e30, e31, e32, e33, e34, e35, e36, e37, e38, e39, e40, e41, e42, e43, e44, e45, e46, e47, e48, e49, e50]
def kinds : List (List Str) := [["large", "cells", "rest", "turn"]]
def cs : List (Str × Int) := [("DEEDS", 12), ("DIGITS_garblers", 30), ("DIGITS_tellers", 30), ("MOST_garblers", 1000000000000000000000000000000), ("MOST_tellers", 1000000000000000000000000000000), ("STATES", 6), ("WORDS_garblers", 12), ("WORDS_tellers", 12)]
def bl : List Str := ["abs", "all", "bool", "enumerate", "int", "isinstance", "len", "list", "max", "min", "range", "sorted", "str", "sum", "tuple", "zip"]
end NS
set_option Elab.async false
set_option linter.all false
set_option maxRecDepth 100000
set_option maxHeartbeats 0
namespace NS
open PySem PySem.Spec PyProof.Rows L2 Tn
def fa : List He.Fa := es.map (fun e => .glo e.g) ++ cs.map (fun p => .int p.1 p.2) ++ bl.map .free
def fn : List He.DefD := es.map DefE.d
def names0 : List PySem.Str := ["__name__", "TellError", "BadGarbler", "BadSecond", "BadStakes", "BadTeller", "BadWord", "TooMany", "STATES", "WORDS_tellers", "DIGITS_tellers", "MOST_tellers", "is_number", "divisor", "common", "common_tellers", "ratio", "columns_of", "are_rows", "are_rows_tellers", "is_teller", "check_teller", "check_word", "made", "DEEDS", "are_stakes", "are_stakes_for", "check_stakes", "check_stakes_for", "sums_at"]
def names1 : List PySem.Str := ["worth_told", "worth", "best_deeds", "unheard", "check_second", "made_stakes", "stakes_sum", "stakes_either", "WORDS_garblers", "DIGITS_garblers", "MOST_garblers", "is_whole", "common_garblers", "are_rows_garblers", "is_garbler", "check_garbler", "product", "lowered_rows", "garbled", "direction_of", "plain_of", "plain_told", "plain", "_law_begun", "_law_mixed", "_law_take", "_law_pick", "_law_gcd", "_law_ratio", "_law_less"]
def names2 : List PySem.Str := ["_law_row", "_law_teller", "_law_garbler", "_law_columns", "_law_sums", "_law_worth", "_law_stakes", "_law_sum"]
def names : List PySem.Str := names0 ++ names1 ++ names2
theorem b0 : BindOk e0 := fun _ _ _ _ _ _ us hl => match us, hl with | [_], _ => rfl
theorem b1 : BindOk e1 := fun _ _ _ _ _ _ us hl => match us, hl with | [_], _ => rfl
theorem b2 : BindOk e2 := fun _ _ _ _ _ _ us hl => match us, hl with | [_], _ => rfl
theorem b3 : BindOk e3 := fun _ _ _ _ _ _ us hl => match us, hl with | [_, _], _ => rfl
theorem b4 : BindOk e4 := fun _ _ _ _ _ _ us hl => match us, hl with | [_, _], _ => rfl
theorem b5 : BindOk e5 := fun _ _ _ _ _ _ us hl => match us, hl with | [_, _, _], _ => rfl
theorem b6 : BindOk e6 := fun _ _ _ _ _ _ us hl => match us, hl with | [_, _, _], _ => rfl
theorem b7 : BindOk e7 := fun _ _ _ _ _ _ us hl => match us, hl with | [_, _], _ => rfl
theorem b8 : BindOk e8 := fun _ _ _ _ _ _ us hl => match us, hl with | [_, _, _], _ => rfl
theorem b9 : BindOk e9 := fun _ _ _ _ _ _ us hl => match us, hl with | [_, _], _ => rfl
theorem b10 : BindOk e10 := fun _ _ _ _ _ _ us hl => match us, hl with | [_, _], _ => rfl
theorem b11 : BindOk e11 := fun _ _ _ _ _ _ us hl => match us, hl with | [_, _], _ => rfl
theorem b12 : BindOk e12 := fun _ _ _ _ _ _ us hl => match us, hl with | [_, _], _ => rfl
theorem b13 : BindOk e13 := fun _ _ _ _ _ _ us hl => match us, hl with | [_, _, _], _ => rfl
theorem b14 : BindOk e14 := fun _ _ _ _ _ _ us hl => match us, hl with | [_, _], _ => rfl
theorem b15 : BindOk e15 := fun _ _ _ _ _ _ us hl => match us, hl with | [_], _ => rfl
theorem b16 : BindOk e16 := fun _ _ _ _ _ _ us hl => match us, hl with | [_, _], _ => rfl
theorem b17 : BindOk e17 := fun _ _ _ _ _ _ us hl => match us, hl with | [_, _], _ => rfl
theorem b18 : BindOk e18 := fun _ _ _ _ _ _ us hl => match us, hl with | [_, _, _], _ => rfl
theorem b19 : BindOk e19 := fun _ _ _ _ _ _ us hl => match us, hl with | [_, _, _, _], _ => rfl
theorem b20 : BindOk e20 := fun _ _ _ _ _ _ us hl => match us, hl with | [_], _ => rfl
theorem b21 : BindOk e21 := fun _ _ _ _ _ _ us hl => match us, hl with | [_], _ => rfl
theorem b22 : BindOk e22 := fun _ _ _ _ _ _ us hl => match us, hl with | [_, _], _ => rfl
theorem b23 : BindOk e23 := fun _ _ _ _ _ _ us hl => match us, hl with | [_], _ => rfl
theorem b24 : BindOk e24 := fun _ _ _ _ _ _ us hl => match us, hl with | [_, _], _ => rfl
theorem b25 : BindOk e25 := fun _ _ _ _ _ _ us hl => match us, hl with | [_, _, _], _ => rfl
theorem b26 : BindOk e26 := fun _ _ _ _ _ _ us hl => match us, hl with | [_, _], _ => rfl
theorem b27 : BindOk e27 := fun _ _ _ _ _ _ us hl => match us, hl with | [_, _, _], _ => rfl
theorem b28 : BindOk e28 := fun _ _ _ _ _ _ us hl => match us, hl with | [_], _ => rfl
theorem b29 : BindOk e29 := fun _ _ _ _ _ _ us hl => match us, hl with | [_, _], _ => rfl
theorem b30 : BindOk e30 := fun _ _ _ _ _ _ us hl => match us, hl with | [_], _ => rfl
theorem b31 : BindOk e31 := fun _ _ _ _ _ _ us hl => match us, hl with | [_, _], _ => rfl
theorem b32 : BindOk e32 := fun _ _ _ _ _ _ us hl => match us, hl with | [_, _], _ => rfl
theorem b33 : BindOk e33 := fun _ _ _ _ _ _ us hl => match us, hl with | [_, _], _ => rfl
theorem b34 : BindOk e34 := fun _ _ _ _ _ _ us hl => match us, hl with | [_, _], _ => rfl
theorem b35 : BindOk e35 := fun _ _ _ _ _ _ us hl => match us, hl with | [_], _ => rfl
theorem b36 : BindOk e36 := fun _ _ _ _ _ _ us hl => match us, hl with | [_], _ => rfl
theorem b37 : BindOk e37 := fun _ _ _ _ _ _ us hl => match us, hl with | [_, _], _ => rfl
theorem b38 : BindOk e38 := fun _ _ _ _ _ _ us hl => match us, hl with | [_, _], _ => rfl
theorem b39 : BindOk e39 := fun _ _ _ _ _ _ us hl => match us, hl with | [_], _ => rfl
theorem b40 : BindOk e40 := fun _ _ _ _ _ _ us hl => match us, hl with | [_], _ => rfl
theorem b41 : BindOk e41 := fun _ _ _ _ _ _ us hl => match us, hl with | [_, _], _ => rfl
theorem b42 : BindOk e42 := fun _ _ _ _ _ _ us hl => match us, hl with | [_], _ => rfl
theorem b43 : BindOk e43 := fun _ _ _ _ _ _ us hl => match us, hl with | [_], _ => rfl
theorem b44 : BindOk e44 := fun _ _ _ _ _ _ us hl => match us, hl with | [_, _], _ => rfl
theorem b45 : BindOk e45 := fun _ _ _ _ _ _ us hl => match us, hl with | [_, _], _ => rfl
theorem b46 : BindOk e46 := fun _ _ _ _ _ _ us hl => match us, hl with | [_], _ => rfl
theorem b47 : BindOk e47 := fun _ _ _ _ _ _ us hl => match us, hl with | [_, _], _ => rfl
theorem b48 : BindOk e48 := fun _ _ _ _ _ _ us hl => match us, hl with | [_, _], _ => rfl
theorem b49 : BindOk e49 := fun _ _ _ _ _ _ us hl => match us, hl with | [_, _], _ => rfl
theorem b50 : BindOk e50 := fun _ _ _ _ _ _ us hl => match us, hl with | [_], _ => rfl
theorem bs : ∀ e ∈ es, BindOk e := by
  intro e he
  simp only [es, List.mem_cons, List.not_mem_nil, or_false] at he
  rcases he with rfl | rfl | rfl | rfl | rfl | rfl | rfl | rfl | rfl | rfl | rfl | rfl | rfl | rfl | rfl | rfl | rfl | rfl | rfl | rfl | rfl | rfl | rfl | rfl | rfl | rfl | rfl | rfl | rfl | rfl | rfl | rfl | rfl | rfl | rfl | rfl | rfl | rfl | rfl | rfl | rfl | rfl | rfl | rfl | rfl | rfl | rfl | rfl | rfl | rfl | rfl
  · exact b0
  · exact b1
  · exact b2
  · exact b3
  · exact b4
  · exact b5
  · exact b6
  · exact b7
  · exact b8
  · exact b9
  · exact b10
  · exact b11
  · exact b12
  · exact b13
  · exact b14
  · exact b15
  · exact b16
  · exact b17
  · exact b18
  · exact b19
  · exact b20
  · exact b21
  · exact b22
  · exact b23
  · exact b24
  · exact b25
  · exact b26
  · exact b27
  · exact b28
  · exact b29
  · exact b30
  · exact b31
  · exact b32
  · exact b33
  · exact b34
  · exact b35
  · exact b36
  · exact b37
  · exact b38
  · exact b39
  · exact b40
  · exact b41
  · exact b42
  · exact b43
  · exact b44
  · exact b45
  · exact b46
  · exact b47
  · exact b48
  · exact b49
  · exact b50
theorem ck : ckRow kinds (fnsOf es) cs bl 0 es fs = true := by kernel_rfl
abbrev R : PySem.W.OpenRow := PySem.W.OpenLaw.row PySem.Challenge.rw_toldnoless_k90_whole_across_stakes
abbrev hk : PySem.W.Hook := He.hookD 4 fa fn
def ob (s : PySem.W.SharedT) : He.AlD := He.obsDG 4 fa fn (HandSHeadRun.getT s)
theorem ob_eq (s : PySem.W.SharedT) : ob s = hk.obs s.abs := He.obsDG_eq (HandSHeadRun.getT_eq s)
theorem run (w : World) : HandSHeadRun.RunEq R (PySem.W.view R.prog [75]) hk ob 30000 names w := by
  intro os
  kernel_rfl
theorem facts {P : Program} {w : World} {K : PySem.W.Frag} {h : Heap} {mg : Str → Option Value} {f : Addr} (X : K.In h) (G : h.Ns mainGlobals mg) (hfa : mg ("law" : Str) = some (.ref f)) (c : He.SaysD fa fn K) :
    ∃ fd : FuncData, (∀ (s : Shared) (v : Value), BindsTo s fd ⟨[v], []⟩ [("script", v)]) ∧ ∀ base : Heap, K.In base → base.Ns mainGlobals mg → FnOk P w K mg base CX0 51 f fd ["script"] (spD K kinds (fun _ => .none) (tab fs 51 50)) := by
  have all := fun base => row_ok (Pr := P) (w := w) (base := base) (ex := fun _ => .none) X G c (es := es) (fs := fs) (kinds := kinds) (cints := cs) (bl := bl) (fun e he => List.mem_append_left _ (List.mem_append_left _ (List.mem_map_of_mem he)))
    (fun p hp => List.mem_append_left _ (List.mem_append_right _ (List.mem_map_of_mem hp))) (fun x hx => List.mem_append_right _ (List.mem_map_of_mem hx)) bs ck 50 e50 rfl
  obtain ⟨fd0, F0, _⟩ := all h
  have e := hfa.symm.trans (He.glo_ok X G (fact_mem c (f := .glo "law") (List.mem_append_left _ (List.mem_append_left _ (List.mem_map_of_mem (f := fun e : DefE => He.Fa.glo e.g) (List.mem_of_getElem? (show es[50]? = some e50 from rfl)))))))
  cases e
  have b := FunD.bindsA (ps := ["script"]) F0 b50
  refine ⟨fd0, fun s v => b s [v] rfl, fun base hK hG => ?_⟩
  obtain ⟨fd1, F1, F2, _⟩ := all base
  have : fd1 = fd0 := funD_inj F1 F0
  subst this
  exact F2
end NS
open PySem PySem.W PySem.Calls PyProof.Rows
theorem PySem.Challenge.cw_toldnoless_k90_whole_across_stakes_holds : PySem.Challenge.rw_toldnoless_k90_whole_across_stakes.Holds := by
  w_on; o_law
  refine HandSHeadRun.head_any (r := OpenLaw.row PySem.Challenge.rw_toldnoless_k90_whole_across_stakes) (q := view (OpenLaw.row PySem.Challenge.rw_toldnoless_k90_whole_across_stakes).prog [75]) (H := NS.hk) (ob := NS.ob) (M := 30000) (loose := NS.names) (d := HandSHeadRun.topDef (OpenLaw.row PySem.Challenge.rw_toldnoless_k90_whole_across_stakes).prog 75) (kwd := []) NS.ob_eq
    (by kernel_rfl) (fun s => by kernel_rfl) NS.run (by kernel_rfl) (by kernel_rfl) (by kernel_rfl) (by rfl) (by first | assumption | decide +kernel) (by decide +kernel) ⟨rfl, rfl, rfl, rfl, rfl, by decide +kernel⟩ ?hw ?hc
  case hw => w_witness2
  case hc =>
    refine L2.walk_ofE (l := PySem.Challenge.rw_toldnoless_k90_whole_across_stakes) (n := 63) (k := 51) (x := "script") (CX := L2.CX0) rfl (by decide) (by kernel_rfl) ⟨rfl, by decide, by decide⟩ ?F (fun _ _ _ _ z => z)
    intro w mg fa h Y G hmg0
    obtain ⟨K, KX, c⟩ := Y
    have hmg : mg ("law" : PySem.Str) = some (.ref fa) := by
      have e : (HandSHeadRun.topDef (OpenLaw.row PySem.Challenge.rw_toldnoless_k90_whole_across_stakes).prog 75).name = ("law" : PySem.Str) := by kernel_rfl
      rw [← e]
      exact hmg0
    obtain ⟨fd, hb, hF⟩ := NS.facts (P := (PySem.Challenge.rw_toldnoless_k90_whole_across_stakes).prog) (w := w) KX G hmg c
    exact ⟨K, fd, _, KX, hb, fun H a ns hl hO hS => Tn.law_sp hO hS (NS.math ns hl), hF⟩
