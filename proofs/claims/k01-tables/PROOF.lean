import PyProof.Rows.All
import Wide.All
import OpenK.AllK
import Wide.FinOn
import HandS.ForMost
import HandS.Lambda
import HandS.Exc
import HandS.ExcOwn
import HandS.Flow
import HandS.Wide
import HandS.TupAny
import HandS.TupMul
import HandS.Deep
import HandS.Zip
import HandS.IsInst
import HandS.Gcd
import HandS.CallLocal
import HandS.CallSlots
import PyProof.Rows.RuleB_pow
import PyProof.WalksMore
import HandS.ExcCtx
import HandS.TryOnly
import HandS.WordsExc
import HandS.Style
import HandS.Defaults
import HandS.List
import HandS.HeadHook4
import HandS.HeadWalk
import HandS.Hot
import HandS.HotCalls
import HandS.Comp
import HandS.ExcIs
import HandS.NestedK
import KE.KStateDown
import HandS.Words
import PySem.Challenge.RW_triplesled_k01_whole_tables
import HandS.Head0
import HandS.Head1
import HandS.Head2
import HandS.HeadEnd
set_option Elab.async false
set_option linter.all false
/-! CvA: values, a small inner language and its evaluator (plain Lean, no heap). -/
namespace Cv

/-- values -/
inductive PV where
  | non | bl (b : Bool) | int (i : Int) | str (s : List Nat)
  | tup (xs : List PV) | lst (xs : List PV)
  | fn (i : Nat) | cup

/-- what the one mutable list of a law holds -/
abbrev Cup := Int × Int
inductive Rs (α : Type) where
  | ok (a : α) (c : Cup) | exc (i : Nat) (p : Option Int) (c : Cup) | bad
abbrev M (α : Type) := Cup → Rs α
@[reducible] def ret {α : Type} (a : α) : M α := fun c => .ok a c
@[reducible] def badM {α : Type} : M α := fun _ => .bad
def Rs.then {α β : Type} (r : Rs α) (f : α → M β) : Rs β := match r with
  | .ok a c => f a c
  | .exc i p c => .exc i p c
  | .bad => .bad
@[reducible] def bnd {α β : Type} (m : M α) (f : α → M β) : M β := fun c => (m c).then f
def lift {α : Type} (o : Option α) : M α := fun c => match o with
  | some a => .ok a c
  | none => .bad

/-- a slot of a def's frame: a value, or a list that this name alone holds -/
inductive Slot where
  | val (v : PV) | own (xs : List PV)
abbrev Env := List (Option Slot)

/-! ### equality of data -/
mutual
def PV.eqv : PV → PV → Bool
  | .non, .non => true
  | .bl a, .bl b => a == b
  | .bl a, .int j => decide ((if a then 1 else 0) = j)
  | .int i, .bl b => decide (i = (if b then 1 else 0))
  | .int i, .int j => decide (i = j)
  | .str x, .str y => decide (x = y)
  | .tup xs, .tup ys => PV.eqvs xs ys
  | .lst xs, .lst ys => PV.eqvs xs ys
  | _, _ => false
def PV.eqvs : List PV → List PV → Bool
  | [], [] => true
  | x :: xs, y :: ys => PV.eqv x y && PV.eqvs xs ys
  | _, _ => false
end
mutual
/-- may be compared: no def, no cup inside, texts of true signs, not too deep -/
def PV.dat : Nat → PV → Bool
  | _, .non => true
  | _, .bl _ => true
  | _, .int _ => true
  | _, .str s => s.all fun c => decide (c < 1114112)
  | n + 1, .tup xs => PV.dats n xs
  | n + 1, .lst xs => PV.dats n xs
  | _, _ => false
def PV.dats : Nat → List PV → Bool
  | _, [] => true
  | n, x :: xs => PV.dat n x && PV.dats n xs
end

/-! ### operations by values -/
inductive Op where
  | add | sub | mul | fdiv | mod | pow | eq | ne | lt | le | gt | ge | isN | notN | isin | notin | ix
inductive Un where
  | neg | not | len | toTup | toLst | sum | min | max | abs | toInt | all | any | isT (t : Nat)

def mulOk (i j : Int) : Bool := decide (i.natAbs < 18446744073709551616) || decide (j.natAbs < 18446744073709551616) || decide (i.natAbs.log2 + j.natAbs.log2 < 1000000)
def divOk (j : Int) : Bool := decide (j ≠ 0) && decide (j.natAbs < 1073741824)
def divOkW (j : Int) : Bool := decide (0 < j) && decide (j.natAbs.log2 < 9000)
def powOk (i j : Int) : Bool := (decide (0 ≤ j) && decide (j ≤ 1000000) && decide (i.natAbs < 18446744073709551616)) || (decide (0 ≤ j) && decide (j ≤ 1000) && decide (i.natAbs.log2 < 100000))
def big : Nat := 16777216

/-- the item at an index of any sign -/
def atIx {α : Type} (xs : List α) (i : Int) : Option α :=
  if 0 ≤ i then (if i < xs.length then xs[i.toNat]? else none) else if -(xs.length : Int) ≤ i then xs[(i + xs.length).toNat]? else none

def rep {α : Type} (xs : List α) : Nat → List α
  | 0 => []
  | n + 1 => xs ++ rep xs n

def PV.isin (x : PV) : List PV → Bool
  | [] => false
  | y :: ys => PV.eqv y x || PV.isin x ys

def addV : PV → PV → Option PV
  | .int i, .int j => some (.int (i + j))
  | .str x, .str y => if x.length + y.length ≤ big then some (.str (x ++ y)) else none
  | .tup x, .tup y => if x.length + y.length ≤ big then some (.tup (x ++ y)) else none
  | .lst x, .lst y => if x.length + y.length ≤ big then some (.lst (x ++ y)) else none
  | _, _ => none
def subV : PV → PV → Option PV
  | .int i, .int j => some (.int (i - j))
  | _, _ => none
def mulV : PV → PV → Option PV
  | .int i, .int j => if mulOk i j then some (.int (i * j)) else none
  | .lst x, .int k => if decide (0 ≤ k) && decide (k ≤ 16777216) && decide (x.length * k.toNat ≤ big) then some (.lst (rep x k.toNat)) else none
  | .tup x, .int k => if decide (2 ≤ k) && decide (k ≤ 1000) && decide (x.length ≤ 1000) && !x.isEmpty then some (.tup (rep x k.toNat)) else none
  | _, _ => none
def fdivV : PV → PV → Option PV
  | .int i, .int j => if divOk j || divOkW j then some (.int (Int.fdiv i j)) else none
  | _, _ => none
def modV : PV → PV → Option PV
  | .int i, .int j => if j = 0 then none else some (.int (Int.fmod i j))
  | _, _ => none
def powV : PV → PV → Option PV
  | .int i, .int j => if powOk i j then some (.int (i ^ j.toNat)) else none
  | _, _ => none
def eqV (b : Bool) (x y : PV) : Option PV := if PV.dat 60 x && PV.dat 60 y then some (.bl (PV.eqv x y == b)) else none
def cmpV (f : Int → Int → Bool) : PV → PV → Option PV
  | .int i, .int j => some (.bl (f i j))
  | _, _ => none
def PV.isNon : PV → Bool
  | .non => true
  | _ => false
def isV (b : Bool) (x : PV) : PV → Option PV
  | .non => some (.bl (x.isNon == b))
  | _ => none
def inV (b : Bool) (x : PV) : PV → Option PV
  | .tup ys => if PV.dat 60 x && PV.dats 60 ys then some (.bl (PV.isin x ys == b)) else none
  | .lst ys => if PV.dat 60 x && PV.dats 60 ys then some (.bl (PV.isin x ys == b)) else none
  | _ => none
def ixV (c : Cup) : PV → PV → Option PV
  | .tup xs, .int i => atIx xs i
  | .lst xs, .int i => atIx xs i
  | .str s, .int i => if s.length ≤ big then (atIx s i).map fun n => .str [n] else none
  | .cup, .int i => atIx [PV.int c.1, PV.int c.2] i
  | _, _ => none
def opV (c : Cup) (o : Op) (x y : PV) : Option PV := match o with
  | .add => addV x y
  | .sub => subV x y
  | .mul => mulV x y
  | .fdiv => fdivV x y
  | .mod => modV x y
  | .pow => powV x y
  | .eq => eqV true x y
  | .ne => eqV false x y
  | .lt => cmpV (fun i j => decide (i < j)) x y
  | .le => cmpV (fun i j => decide (i ≤ j)) x y
  | .gt => cmpV (fun i j => decide (j < i)) x y
  | .ge => cmpV (fun i j => decide (j ≤ i)) x y
  | .isN => isV true x y
  | .notN => isV false x y
  | .isin => inV true x y
  | .notin => inV false x y
  | .ix => ixV c x y

def intL : List PV → Option (List Int)
  | [] => some []
  | .int i :: xs => (intL xs).map (i :: ·)
  | _ => none
def boolL : List PV → Option (List Bool)
  | [] => some []
  | .bl i :: xs => (boolL xs).map (i :: ·)
  | _ => none
def sumI : List Int → Int
  | [] => 0
  | x :: xs => x + sumI xs
def minI : Int → List Int → Int
  | m, [] => m
  | m, x :: xs => minI (if x < m then x else m) xs
def maxI : Int → List Int → Int
  | m, [] => m
  | m, x :: xs => maxI (if m < x then x else m) xs

/-- 0 int, 1 bool, 2 str, 3 tuple, 4 list -/
def PV.isT : Nat → PV → Option Bool
  | 0, .int _ => some true
  | 0, .bl _ => some true
  | 1, .bl _ => some true
  | 2, .str _ => some true
  | 3, .tup _ => some true
  | 4, .lst _ => some true
  | t, .fn _ => none
  | t, .cup => none
  | t, _ => if t < 5 then some false else none

def PV.tru : PV → Option Bool
  | .non => some false
  | .bl b => some b
  | .int i => some (decide (i ≠ 0))
  | .str s => if s.length ≤ big then some (!s.isEmpty) else none
  | .tup xs => some (!xs.isEmpty)
  | .lst xs => some (!xs.isEmpty)
  | _ => none

def negV : PV → Option PV
  | .int i => some (.int (-i))
  | _ => none
def lenV : PV → Option PV
  | .str s => if s.length ≤ big then some (.int s.length) else none
  | .tup xs => some (.int xs.length)
  | .lst xs => some (.int xs.length)
  | _ => none
def toTupV : PV → Option PV
  | .tup xs => some (.tup xs)
  | .lst xs => some (.tup xs)
  | _ => none
def toLstV : PV → Option PV
  | .tup xs => some (.lst xs)
  | .lst xs => some (.lst xs)
  | _ => none
/-- the ints of a list, a tuple -/
def seqI : PV → Option (List Int)
  | .lst xs => intL xs
  | .tup xs => intL xs
  | _ => none
def sumV (x : PV) : Option PV := (seqI x).map fun l => .int (sumI l)
def minV (x : PV) : Option PV := (seqI x).bind fun l => match l with
  | m :: r => some (.int (minI m r))
  | [] => none
def maxV (x : PV) : Option PV := (seqI x).bind fun l => match l with
  | m :: r => some (.int (maxI m r))
  | [] => none
def absV : PV → Option PV
  | .int i => some (.int (if i < 0 then -i else i))
  | _ => none
def toIntV : PV → Option PV
  | .int i => some (.int i)
  | .bl b => some (.int (if b then 1 else 0))
  | _ => none
def allV : PV → Option PV
  | .lst xs => (boolL xs).map fun l => .bl (l.all id)
  | _ => none
def anyV : PV → Option PV
  | .lst xs => (boolL xs).map fun l => .bl (l.any id)
  | _ => none
def unV (o : Un) (x : PV) : Option PV := match o with
  | .neg => negV x
  | .not => (PV.tru x).map fun b => .bl (!b)
  | .len => lenV x
  | .toTup => toTupV x
  | .toLst => toLstV x
  | .sum => sumV x
  | .min => minV x
  | .max => maxV x
  | .abs => absV x
  | .toInt => toIntV x
  | .all => allV x
  | .any => anyV x
  | .isT t => (PV.isT t x).map .bl

/-- what a for walks -/
def PV.items : PV → Option (List PV)
  | .tup xs => some xs
  | .lst xs => some xs
  | .str s => some (s.map fun n => .str [n])
  | _ => none

/-- an end of a slice, brought within 0 .. n -/
def cutIx (n d : Nat) : Option Int → Nat
  | none => d
  | some i => if i < 0 then (i + n).toNat else min i.toNat n
def cut {α : Type} (xs : List α) (lo hi : Option Int) : List α := (xs.drop (cutIx xs.length 0 lo)).take (cutIx xs.length xs.length hi - cutIx xs.length 0 lo)
def slcV (a : PV) (lo hi : Option Int) : Option PV := match a with
  | .tup xs => some (.tup (cut xs lo hi))
  | .lst xs => some (.lst (cut xs lo hi))
  | .str xs => if xs.length ≤ big then some (.str (cut xs lo hi)) else none
  | _ => none

def upto (lo : Int) : Nat → List PV
  | 0 => []
  | n + 1 => .int lo :: upto (lo + 1) n
def rngOk (i : Int) : Bool := decide (-4611686018427387904 ≤ i) && decide (i < 4611686018427387904)
def zipV : List PV → List PV → List PV
  | x :: xs, y :: ys => .tup [x, y] :: zipV xs ys
  | _, _ => []
def enumV (k : Int) : List PV → List PV
  | [] => []
  | x :: xs => .tup [.int k, x] :: enumV (k + 1) xs

/-! ### targets -/
inductive Tg where
  | v (k : Nat) | tup (ts : Tg) | nil | cons (a b : Tg)
structure TgF where
  one : PV → Env → Option Env
  all : List PV → Env → Option Env
def Tg.f : Tg → TgF
  | .v k => ⟨fun x env => some (env.set k (some (.val x))), fun _ _ => none⟩
  | .tup ts => ⟨fun x env => match x with
      | .tup xs => (Tg.f ts).all xs env
      | .lst xs => (Tg.f ts).all xs env
      | _ => none, fun _ _ => none⟩
  | .nil => ⟨fun _ _ => none, fun xs env => match xs with
      | [] => some env
      | _ => none⟩
  | .cons a b => ⟨fun _ _ => none, fun xs env => match xs with
      | x :: r => ((Tg.f a).one x env).bind fun e => (Tg.f b).all r e
      | [] => none⟩

def Tg.vars : Tg → List Nat
  | .v k => [k]
  | .tup ts => Tg.vars ts
  | .nil => []
  | .cons a b => Tg.vars a ++ Tg.vars b

/-! ### the language -/
inductive T where
  | int (i : Int) | bl (b : Bool) | non | str (s : List Nat) | cst (j : Nat) | fnv (i : Nat)
  | var (k : Nat) | rd (k : Nat)
  | nil | cons (a b : T)
  | tup (es : T) | lst (es : T)
  | op (o : Op) (a b : T) | un (o : Un) (a : T)
  | chain (o p : Op) (a b c : T)
  | and (a b : T) | or (a b : T) | ite (c a b : T)
  | slc (a lo hi : T) | slcL (a lo : T) | slcH (a hi : T)
  | call (i : Nat) (es : T) | callv (k : Nat) (es : T)
  | max2 (a b : T) | min2 (a b : T) | gcd (a b : T) | join (s : List Nat) (b : T)
  | rng1 (a : T) | rng2 (a b : T) | zip (a b : T) | enum (a : T)
  | lc (elt : T) (tg : Tg) (it : T) (cond : T) (own : List Nat)
  | err (e : T)
  -- statements
  | skip | seq (a b : T)
  | set (tg : Tg) (e : T) | own (k : Nat) (e : T) | frz (k : Nat)
  | app (k : Nat) (e : T) | sidx (k : Nat) (i e : T)
  | ret (e : T) | retN | ifs (c a b : T) | for (tg : Tg) (it body : T) | whl (c body : T)
  | raise (i : Nat) | ex (e : T) | brk | cnt

inductive Fl where
  | nx (env : Env) | bk (env : Env) | ct (env : Env) | rt (v : PV)

structure Calls where
  c : Nat → List PV → M PV
  d : Nat → List PV → M PV
  h : Nat → Option Int → Option PV
  k : List PV
  r : Bool
  n : Nat

structure SemT where
  e : Env → M PV := fun _ => badM
  es : Env → M (List PV) := fun _ => badM
  t : Env → M Bool := fun _ => badM
  i : Env → M (List PV) := fun _ => badM
  s : Env → M Fl := fun _ => badM

def truM (x : PV) : M Bool := lift x.tru
def ofE (e : Env → M PV) : SemT := { e := e, t := fun env => bnd (e env) truM, i := fun env => bnd (e env) fun x => lift x.items }
def ofET (e : Env → M PV) (t : Env → M Bool) : SemT := { e := e, t := t }
def ofETI (e : Env → M PV) (t : Env → M Bool) : SemT := { e := e, t := t, i := fun env => bnd (e env) fun x => lift x.items }
def ofI (i : Env → M (List PV)) : SemT := { i := i }
def ofS (s : Env → M Fl) : SemT := { s := s }
def opM (o : Op) (x y : PV) : M PV := fun c => lift (opV c o x y) c
def intM (x : PV) : M Int := lift (match x with | .int i => some i | _ => none)

def forL (f : TgF) (body : Env → M Fl) : List PV → Env → M Fl
  | [], env => ret (.nx env)
  | x :: xs, env => match f.one x env with
    | none => badM
    | some env1 => bnd (body env1) fun r => match r with
      | .nx env2 => forL f body xs env2
      | .ct env2 => forL f body xs env2
      | .bk env2 => ret (.nx env2)
      | .rt v => ret (.rt v)
def whlN (t : Env → M Bool) (body : Env → M Fl) : Nat → Env → M Fl
  | 0, _ => badM
  | n + 1, env => bnd (t env) fun b => match b with
    | false => ret (.nx env)
    | true => bnd (body env) fun r => match r with
      | .nx env2 => whlN t body n env2
      | .ct env2 => whlN t body n env2
      | .bk env2 => ret (.nx env2)
      | .rt v => ret (.rt v)
/-- acc: how many there are (the length is bounded) -/
def lcL (f : TgF) (cond : Env → M Bool) (elt : Env → M PV) (env0 : Env) : List PV → M (List PV)
  | [] => ret []
  | x :: xs => match f.one x env0 with
    | none => badM
    | some env1 => bnd (cond env1) fun b => match b with
      | false => lcL f cond elt env0 xs
      | true => bnd (elt env1) fun y => bnd (lcL f cond elt env0 xs) fun ys => ret (y :: ys)
def wipeE (env : Env) : List Nat → Env
  | [] => env
  | v :: vs => (wipeE env vs).set v none
def fuel : Nat := 1099511627776
def noExc {α : Type} (m : M α) : M α := fun c => match m c with
  | .exc _ _ _ => .bad
  | r => r
def joinL (sep : List Nat) : List PV → Option (List Nat)
  | [] => some []
  | [.str x] => some x
  | .str x :: xs => (joinL sep xs).map fun r => x ++ sep ++ r
  | _ => none
def joinV (s : List Nat) : PV → Option PV
  | .lst xs => (joinL s xs).bind fun r => if r.length + s.length ≤ big then some (.str r) else none
  | .tup xs => (joinL s xs).bind fun r => if r.length + s.length ≤ big then some (.str r) else none
  | _ => none

def sem : T → Calls → SemT
  | .int i, _ => ofE fun _ => ret (.int i)
  | .bl b, _ => ofE fun _ => ret (.bl b)
  | .non, _ => ofE fun _ => ret .non
  | .str s, _ => ofE fun _ => ret (.str s)
  | .cst j, C => ofE fun _ => lift C.k[j]?
  | .fnv i, _ => ofE fun _ => ret (.fn i)
  | .var k, _ => ofE fun env => match env[k]? with
    | some (some (.val v)) => ret v
    | _ => badM
  | .rd k, _ => ofE fun env => match env[k]? with
    | some (some (.val v)) => ret v
    | some (some (.own xs)) => ret (.lst xs)
    | _ => badM
  | .nil, _ => { es := fun _ => ret [] }
  | .cons a b, C => { es := fun env => bnd ((sem a C).e env) fun x => bnd ((sem b C).es env) fun xs => ret (x :: xs) }
  | .tup es, C => ofE fun env => bnd ((sem es C).es env) fun xs => lift (if xs.length ≤ big then some (.tup xs) else none)
  | .lst es, C => ofE fun env => bnd ((sem es C).es env) fun xs => lift (if xs.length ≤ big then some (.lst xs) else none)
  | .op o a b, C => ofE fun env => bnd ((sem a C).e env) fun x => bnd ((sem b C).e env) fun y => opM o x y
  | .un .not a, C => ofET (fun env => bnd ((sem a C).e env) fun x => bnd (truM x) fun b => ret (.bl (!b))) (fun env => bnd ((sem a C).t env) fun b => ret (!b))
  | .un o a, C => ofE fun env => bnd ((sem a C).e env) fun x => lift (unV o x)
  | .chain o p a b c, C => ofE fun env => bnd ((sem a C).e env) fun x => bnd ((sem b C).e env) fun y => bnd (opM o x y) fun z => match z with
    | .bl true => bnd ((sem c C).e env) fun w => opM p y w
    | .bl false => ret (.bl false)
    | _ => badM
  | .and a b, C => ofET (fun env => bnd ((sem a C).e env) fun x => bnd (truM x) fun k => match k with
      | true => (sem b C).e env
      | false => ret x)
    (fun env => bnd ((sem a C).t env) fun k => match k with
      | true => (sem b C).t env
      | false => ret false)
  | .or a b, C => ofET (fun env => bnd ((sem a C).e env) fun x => bnd (truM x) fun k => match k with
      | true => ret x
      | false => (sem b C).e env)
    (fun env => bnd ((sem a C).t env) fun k => match k with
      | true => ret true
      | false => (sem b C).t env)
  | .ite c a b, C => ofETI (fun env => bnd ((sem c C).t env) fun k => match k with
      | true => (sem a C).e env
      | false => (sem b C).e env)
    (fun env => bnd ((sem c C).t env) fun k => match k with
      | true => (sem a C).t env
      | false => (sem b C).t env)
  | .slc a lo hi, C => ofE fun env => bnd ((sem a C).e env) fun x => bnd ((sem lo C).e env) fun l => bnd (intM l) fun i => bnd ((sem hi C).e env) fun h => bnd (intM h) fun j => lift (slcV x (some i) (some j))
  | .slcL a lo, C => ofE fun env => bnd ((sem a C).e env) fun x => bnd ((sem lo C).e env) fun l => bnd (intM l) fun i => lift (slcV x (some i) none)
  | .slcH a hi, C => ofE fun env => bnd ((sem a C).e env) fun x => bnd ((sem hi C).e env) fun l => bnd (intM l) fun i => lift (slcV x none (some i))
  | .call i es, C => ofE fun env => bnd ((sem es C).es env) fun xs => C.c i xs
  | .callv k es, C => ofE fun env => match env[k]? with
    | some (some (.val (.fn i))) => if i < C.n then bnd ((sem es C).es env) fun xs => C.c i xs else badM
    | _ => badM
  | .max2 a b, C => ofE fun env => bnd ((sem a C).e env) fun x => bnd (intM x) fun i => bnd ((sem b C).e env) fun y => bnd (intM y) fun j => ret (.int (if j > i then j else i))
  | .min2 a b, C => ofE fun env => bnd ((sem a C).e env) fun x => bnd (intM x) fun i => bnd ((sem b C).e env) fun y => bnd (intM y) fun j => ret (.int (if j < i then j else i))
  | .gcd a b, C => ofE fun env => bnd ((sem a C).e env) fun x => bnd (intM x) fun i => bnd ((sem b C).e env) fun y => bnd (intM y) fun j => ret (.int (Int.gcd i j))
  | .join s b, C => ofE fun env => bnd ((sem b C).e env) fun y => lift (joinV s y)
  | .rng1 a, C => ofI fun env => bnd ((sem a C).e env) fun x => bnd (intM x) fun j => lift (if rngOk j then some (upto 0 j.toNat) else none)
  | .rng2 a b, C => ofI fun env => bnd ((sem a C).e env) fun x => bnd (intM x) fun i => bnd ((sem b C).e env) fun y => bnd (intM y) fun j => lift (if rngOk i && rngOk j then some (upto i (j - i).toNat) else none)
  | .zip a b, C => ofI fun env => bnd ((sem a C).e env) fun x => bnd ((sem b C).e env) fun y => lift (match x, y with
    | .lst xs, .lst ys => some (zipV xs ys)
    | .tup xs, .tup ys => some (zipV xs ys)
    | _, _ => none)
  | .enum a, C => ofI fun env => bnd ((sem a C).e env) fun x => lift (match x with
    | .lst xs => some (enumV 0 xs)
    | _ => none)
  | .lc elt tg it cond own, C => ofE fun env => bnd ((sem it C).i env) fun xs => if xs.length < big then bnd (noExc (lcL tg.f (sem cond C).t (sem elt C).e (wipeE env own) xs)) fun ys => ret (.lst ys) else badM
  | .err e, C => ofE fun env c => if C.r then (match (sem e ⟨C.d, fun _ _ => badM, C.h, C.k, false, C.n⟩).e env c with
    | .ok _ c' => .ok (.str [110, 111, 110, 101]) c'
    | .exc i p c' => (match C.h i p with
      | some s => .ok s c'
      | none => .bad)
    | .bad => .bad) else .bad
  | .skip, _ => ofS fun env => ret (.nx env)
  | .seq a b, C => ofS fun env => bnd ((sem a C).s env) fun r => match r with
    | .nx env2 => (sem b C).s env2
    | r => ret r
  | .set tg e, C => ofS fun env => bnd ((sem e C).e env) fun x => match tg.f.one x env with
    | some env2 => ret (.nx env2)
    | none => badM
  | .own k e, C => ofS fun env => bnd ((sem e C).e env) fun x => match x with
    | .lst xs => ret (.nx (env.set k (some (.own xs))))
    | _ => badM
  | .frz k, _ => ofS fun env => match env[k]? with
    | some (some (.own xs)) => ret (.nx (env.set k (some (.val (.lst xs)))))
    | _ => ret (.nx env)
  | .app k e, C => ofS fun env => match env[k]? with
    | some (some (.own xs)) => if xs.length < big then bnd ((sem e C).e env) fun x => ret (.nx (env.set k (some (.own (xs ++ [x]))))) else badM
    | _ => badM
  | .sidx k i e, C => ofS fun env => match env[k]? with
    | some (some (.val .cup)) => bnd ((sem e C).e env) fun x => bnd ((sem i C).e env) fun j => match j, x with
      | .int 0, .int n => fun c => .ok (.nx env) (n, c.2)
      | .int 1, .int n => fun c => .ok (.nx env) (c.1, n)
      | _, _ => badM
    | _ => badM
  | .ret e, C => ofS fun env => bnd ((sem e C).e env) fun x => ret (.rt x)
  | .retN, _ => ofS fun _ => ret (.rt .non)
  | .ifs c a b, C => ofS fun env => bnd ((sem c C).t env) fun k => match k with
    | true => (sem a C).s env
    | false => (sem b C).s env
  | .for tg it body, C => ofS fun env => bnd ((sem it C).i env) fun xs => forL tg.f (sem body C).s xs env
  | .whl c body, C => ofS fun env => whlN (sem c C).t (sem body C).s fuel env
  | .raise i, _ => ofS fun _ c => .exc i none c
  | .ex e, C => ofS fun env => bnd ((sem e C).e env) fun _ => ret (.nx env)
  | .brk, _ => ofS fun env => ret (.bk env)
  | .cnt, _ => ofS fun env => ret (.ct env)

/-! ### a program -/
structure Fn where
  np : Nat
  ns : Nat
  body : T
structure Pg where
  fns : List Fn
  h : Nat → Option Int → Option PV
  k : List PV
def runFn (C : Calls) (f : Fn) (xs : List PV) : M PV :=
  if xs.length = f.np then bnd ((sem f.body C).s (xs.map (fun x => some (.val x)) ++ List.replicate (f.ns - f.np) none)) fun r => match r with
    | .rt v => ret v
    | .nx _ => ret .non
    | _ => badM
  else badM
def noCall : Nat → List PV → M PV := fun _ _ => badM
/-- the calls at depth d, d - 1, d - 2 -/
def tower (P : Pg) : Nat → (Nat → List PV → M PV) × (Nat → List PV → M PV) × (Nat → List PV → M PV)
  | 0 => (noCall, noCall, noCall)
  | d + 1 => let p := tower P d
    (fun i xs => match P.fns[i]? with
      | some f => runFn ⟨p.1, p.2.2, P.h, P.k, decide (2 ≤ d), P.fns.length⟩ f xs
      | none => badM, p.1, p.2.1)
def callD (P : Pg) (d : Nat) : Nat → List PV → M PV := (tower P d).1
end Cv

set_option Elab.async false
set_option linter.all false
set_option maxRecDepth 100000
/-! CvB: which inner text tells which Python text. -/
namespace Cv
open PySem L2

inductive GK where
  | fn (i : Nat) | cst (j : Nat) | exc (i : Nat) | err | gcd
deriving DecidableEq
structure Ctx where
  N : List Str
  mu : List Nat
  gl : List (Str × GK)
  bl : List Str

def unw : PySem.Expr → PySem.Expr
  | .BoolOp _ [x] _ => x
  | e => e
def visB (sc : Scope) (x : Str) : Bool := (decide (sc.names.lookup x = some .local) || decide (sc.names.lookup x = some .cell) || decide (sc.names.lookup x = some .free)) && decide (x ≠ ("__debug__" : Str)) && decide (x ≠ ("__classdict__" : Str))
def locB (sc : Scope) (x : Str) : Bool := decide (sc.names.lookup x = some .local) || decide (sc.names.lookup x = some .cell)
def glB (sc : Scope) (x : Str) : Bool := decide (sc.names.lookup x = some .globalImplicit) && decide (x ≠ ("__debug__" : Str))
/-- a built-in by its own name -/
def bltB (C : Ctx) (sc : Scope) (x : Str) : Bool := glB sc x && C.bl.contains x && decide (x ≠ ("__name__" : Str))
def notStar : PySem.Expr → Bool
  | .Starred _ _ => false
  | _ => true
def notSlice : PySem.Expr → Bool
  | .Slice _ _ _ _ => false
  | _ => true
def plainT : PySem.Expr → Bool
  | .UnaryOp _ _ _ => false
  | .BoolOp _ _ _ => false
  | .IfExp _ _ _ _ => false
  | .Compare _ _ _ _ => false
  | _ => true
def isSetE : PySem.Expr → Bool
  | .Set _ _ _ => true
  | _ => false
def isComp : PySem.Expr → Bool
  | .ListComp _ _ _ _ => true
  | .SetComp _ _ _ _ => true
  | .DictComp _ _ _ _ _ => true
  | _ => false
def binOk : Op → Operator → Bool
  | .add, .Add => true
  | .sub, .Sub => true
  | .mul, .Mult => true
  | .fdiv, .FloorDiv => true
  | .mod, .Mod => true
  | .pow, .Pow => true
  | _, _ => false
def cmpOk : Op → CmpOp → Bool
  | .eq, .Eq => true
  | .ne, .NotEq => true
  | .lt, .Lt => true
  | .le, .LtE => true
  | .gt, .Gt => true
  | .ge, .GtE => true
  | .isN, .Is => true
  | .notN, .IsNot => true
  | .isin, .In => true
  | .notin, .NotIn => true
  | _, _ => false
/-- the name of a built-in of one argument -/
def unName : Un → Option Str
  | .len => some "len"
  | .toTup => some "tuple"
  | .toLst => some "list"
  | .sum => some "sum"
  | .min => some "min"
  | .max => some "max"
  | .abs => some "abs"
  | .toInt => some "int"
  | .all => some "all"
  | .any => some "any"
  | _ => none
def tyName : Nat → Option Str
  | 0 => some "int"
  | 1 => some "bool"
  | 2 => some "str"
  | 3 => some "tuple"
  | 4 => some "list"
  | _ => none

structure TgC where
  one : Scope → Scope → PySem.Expr → Bool
  all : Scope → Scope → List PySem.Expr → Bool
/-- st: the scope whose own names may be stored -/
def Tg.chk (C : Ctx) : Tg → TgC
  | .v k => ⟨fun st sc e => match e with
      | .Name x _ => decide (C.N[k]? = some x) && locB st x && locB sc x
      | _ => false, fun _ _ _ => false⟩
  | .tup ts => ⟨fun st sc e => match e with
      | .Tuple es _ _ => (Tg.chk C ts).all st sc es && es.all notStar
      | _ => false, fun _ _ _ => false⟩
  | .nil => ⟨fun _ _ _ => false, fun _ _ es => es.isEmpty⟩
  | .cons a b => ⟨fun _ _ _ => false, fun st sc es => match es with
      | x :: r => (Tg.chk C a).one st sc x && (Tg.chk C b).all st sc r
      | [] => false⟩

structure Chk where
  e : Bool → Scope → PySem.Expr → Bool := fun _ _ _ => false
  t : Scope → PySem.Expr → Bool := fun _ _ => false
  es : Scope → List PySem.Expr → Bool := fun _ _ => false
  i : Scope → PySem.Expr → PySem.Expr → Bool := fun _ _ _ => false
  s : Scope → Stmt → Bool := fun _ _ => false
  ss : Scope → List Stmt → Bool := fun _ _ => false
  fz : Bool := false
def ckE (f : Bool → Scope → PySem.Expr → Bool) : Chk := { e := fun r sc e => f r sc (unw e), t := fun sc e => f true sc (unw e) && plainT (unw e), i := fun sc _ e => f false sc (unw e) && !isSetE e && !isSetE (unw e) }
def ckET (f : Bool → Scope → PySem.Expr → Bool) (t : Scope → PySem.Expr → Bool) : Chk := { e := fun r sc e => f r sc (unw e), t := fun sc e => t sc (unw e) }
def ckETI (f : Bool → Scope → PySem.Expr → Bool) (t : Scope → PySem.Expr → Bool) : Chk := { e := fun r sc e => f r sc (unw e), t := fun sc e => t sc (unw e), i := fun sc _ e => f false sc (unw e) && !isSetE e && !isSetE (unw e) }
def ckI (f : Scope → PySem.Expr → PySem.Expr → Bool) : Chk := { i := f }
def ckS (f : Scope → Stmt → Bool) : Chk := { s := f, ss := fun sc l => match l with
  | [x] => f sc x
  | _ => false }
def ownOf (N : List Str) (own : List Nat) : List (Str × Nat) := own.map fun i => (N.getD i Str.empty, i)
def isNameOf (x : Str) : PySem.Expr → Bool
  | .Name y _ => decide (y = x)
  | _ => false
def isLocN (sc : Scope) : PySem.Expr → Bool
  | .Name x _ => decide (sc.names.lookup x = some .local)
  | _ => false
/-- no stores are exchanged -/
def noSwap (sc : Scope) : PySem.Expr → PySem.Expr → Bool
  | .Tuple ts _ _, .Tuple vs _ _ => !((ts.length == 2 || ts.length == 3) && vs.length == ts.length) || !ts.all (isLocN sc) || vs.all (foldedForSure 8)
  | .Tuple _ _ _, _ => true
  | .Name _ _, _ => true
  | _, _ => false
/-- two or three plain local names of one line, exchanged -/
def swap2 (sc : Scope) : PySem.Expr → PySem.Expr → Bool
  | .Tuple [.Name x px, .Name y py] _ _, .Tuple [a, b] _ _ => decide (sc.names.lookup x = some .local) && decide (sc.names.lookup y = some .local) && decide (x ≠ y) && (py.line == px.line) && notStar a && notStar b && !([a, b].all (foldedForSure 8)) && !([a, b].all (constantsAlone 8))
  | _, _ => false
def swap3 (sc : Scope) : PySem.Expr → PySem.Expr → Bool
  | .Tuple [.Name x px, .Name y py, .Name z pz] _ _, .Tuple [a, b, c] _ _ => decide (sc.names.lookup x = some .local) && decide (sc.names.lookup y = some .local) && decide (sc.names.lookup z = some .local) && decide (x ≠ y) && decide (x ≠ z) && decide (y ≠ z) &&
    (py.line == px.line) && (pz.line == px.line) && notStar a && notStar b && notStar c && !([a, b, c].all (foldedForSure 8)) && !([a, b, c].all (constantsAlone 8))
  | _, _ => false
def emptyArgs (a : Arguments) : Bool := a.posonlyargs.isEmpty && a.args.isEmpty && a.vararg.isNone && a.kwonlyargs.isEmpty && a.kw_defaults.isEmpty && a.kwarg.isNone && a.defaults.isEmpty

def isTrueT : T → Bool
  | .bl true => true
  | _ => false

def chkOp (A B : Chk) (o : Op) (sc : Scope) : PySem.Expr → Bool
  | .BinOp l p r _ => binOk o p && A.e true sc l && B.e true sc r
  | .Compare l [p] [r] _ => cmpOk o p && !isSetE r && A.e true sc l && B.e true sc r
  | .Subscript l r _ => (match o with | .ix => true | _ => false) && notSlice r && A.e true sc l && B.e true sc r
  | _ => false
def chk (C : Ctx) : T → Chk
  | .int i => ckE fun _ _ e => match e with
    | .Constant (.int j) _ _ => decide (i = j)
    | _ => false
  | .bl b => ckE fun _ _ e => match e with
    | .Constant (.bool j) _ _ => decide (b = j)
    | _ => false
  | .non => ckE fun _ _ e => match e with
    | .Constant .none _ _ => true
    | _ => false
  | .str s => ckE fun _ _ e => match e with
    | .Constant (.str x) _ _ => decide (x = ⟨s.toArray⟩)
    | _ => false
  | .cst j => ckE fun _ sc e => match e with
    | .Name x _ => glB sc x && decide (C.gl.lookup x = some (.cst j))
    | _ => false
  | .fnv i => ckE fun _ sc e => match e with
    | .Name x _ => glB sc x && decide (C.gl.lookup x = some (.fn i))
    | _ => false
  | .var k => ckE fun _ sc e => match e with
    | .Name x _ => decide (C.N[k]? = some x) && visB sc x
    | _ => false
  | .rd k => ckE fun r sc e => match e with
    | .Name x _ => r && decide (C.N[k]? = some x) && visB sc x
    | _ => false
  | .nil => { es := fun _ es => es.isEmpty }
  | .cons a b => { es := fun sc es => match es with
    | x :: r => (chk C a).e false sc x && notStar x && (chk C b).es sc r
    | [] => false }
  | .tup es => ckE fun _ sc e => match e with
    | .Tuple l _ _ => (chk C es).es sc l
    | _ => false
  | .lst es => ckE fun _ sc e => match e with
    | .List l _ => (chk C es).es sc l
    | _ => false
  | .op o a b => ckETI (fun _ sc e => chkOp (chk C a) (chk C b) o sc e) (fun sc e => chkOp (chk C a) (chk C b) o sc e)
  | .un .neg a => ckE fun _ sc e => match e with
    | .UnaryOp .USub x _ => (chk C a).e true sc x
    | _ => false
  | .un .not a => ckET (fun _ sc e => match e with
      | .UnaryOp .Not x _ => (chk C a).e true sc x
      | _ => false)
    (fun sc e => match e with
      | .UnaryOp .Not x _ => (chk C a).t sc x
      | _ => false)
  | .un (.isT t) a => ckE fun _ sc e => match e with
    | .Call (.Name f _) [x, .Name y _] [] _ => decide (f = ("isinstance" : Str)) && bltB C sc f && bltB C sc y && decide (tyName t = some y) && (chk C a).e true sc x && notStar x
    | _ => false
  | .un o a => ckE fun _ sc e => match e with
    | .Call (.Name f _) [x] [] _ => decide (unName o = some f) && bltB C sc f && (chk C a).e true sc x && notStar x
    | _ => false
  | .chain o p a b c => ckET (fun _ sc e => match e with
      | .Compare l [q1, q2] [m, r] _ => cmpOk o q1 && cmpOk p q2 && !isSetE r && !isSetE m && (chk C a).e true sc l && (chk C b).e true sc m && (chk C c).e true sc r
      | _ => false)
    (fun sc e => match e with
      | .Compare l [q1, q2] [m, r] _ => cmpOk o q1 && cmpOk p q2 && !isSetE r && !isSetE m && (chk C a).e true sc l && (chk C b).e true sc m && (chk C c).e true sc r
      | _ => false)
  | .and a b => ckET (fun _ sc e => match e with
      | .BoolOp .And (x :: y :: r) p => (chk C a).e false sc x && (chk C b).e false sc (.BoolOp .And (y :: r) p)
      | _ => false)
    (fun sc e => match e with
      | .BoolOp .And (x :: y :: r) p => (chk C a).t sc x && (chk C b).t sc (.BoolOp .And (y :: r) p)
      | _ => false)
  | .or a b => ckET (fun _ sc e => match e with
      | .BoolOp .Or (x :: y :: r) p => (chk C a).e false sc x && (chk C b).e false sc (.BoolOp .Or (y :: r) p)
      | _ => false)
    (fun sc e => match e with
      | .BoolOp .Or (x :: y :: r) p => (chk C a).t sc x && (chk C b).t sc (.BoolOp .Or (y :: r) p)
      | _ => false)
  | .ite c a b => ckETI (fun q sc e => match e with
      | .IfExp t x y _ => (chk C c).t sc t && (chk C a).e q sc x && (chk C b).e q sc y
      | _ => false)
    (fun sc e => match e with
      | .IfExp t x y _ => (chk C c).t sc t && (chk C a).t sc x && (chk C b).t sc y
      | _ => false)
  | .slc a lo hi => ckE fun _ sc e => match e with
    | .Subscript x (.Slice (some l) (some h) none _) _ => (chk C a).e true sc x && (chk C lo).e true sc l && (chk C hi).e true sc h
    | _ => false
  | .slcL a lo => ckE fun _ sc e => match e with
    | .Subscript x (.Slice (some l) none none _) _ => (chk C a).e true sc x && (chk C lo).e true sc l
    | _ => false
  | .slcH a hi => ckE fun _ sc e => match e with
    | .Subscript x (.Slice none (some h) none _) _ => (chk C a).e true sc x && (chk C hi).e true sc h
    | _ => false
  | .call i es => ckE fun _ sc e => match e with
    | .Call (.Name f _) l [] _ => glB sc f && decide (C.gl.lookup f = some (.fn i)) && (chk C es).es sc l && l.all notStar
    | _ => false
  | .callv k es => ckE fun _ sc e => match e with
    | .Call (.Name f _) (x :: l) [] _ => decide (C.N[k]? = some f) && visB sc f && (chk C es).es sc (x :: l) && (x :: l).all notStar
    | _ => false
  | .max2 a b => ckE fun _ sc e => match e with
    | .Call (.Name f _) [x, y] [] _ => decide (f = ("max" : Str)) && bltB C sc f && (chk C a).e true sc x && (chk C b).e true sc y && notStar x && notStar y
    | _ => false
  | .min2 a b => ckE fun _ sc e => match e with
    | .Call (.Name f _) [x, y] [] _ => decide (f = ("min" : Str)) && bltB C sc f && (chk C a).e true sc x && (chk C b).e true sc y && notStar x && notStar y
    | _ => false
  | .gcd a b => ckE fun _ sc e => match e with
    | .Call (.Name f _) [x, y] [] _ => glB sc f && decide (C.gl.lookup f = some .gcd) && (chk C a).e true sc x && (chk C b).e true sc y && notStar x && notStar y
    | _ => false
  | .join s b => ckE fun _ sc e => match e with
    | .Call (.Attribute (.Constant (.str z) _ _) m ap) [y] [] pos => (ap.endLine == pos.line) && decide (m = ("join" : Str)) && decide (z = ⟨s.toArray⟩) && (chk C b).e true sc y && notStar y
    | _ => false
  | .rng1 a => ckI fun sc _ e => match e with
    | .Call (.Name f _) [x] [] _ => decide (f = ("range" : Str)) && bltB C sc f && (chk C a).e true sc x && notStar x
    | _ => false
  | .rng2 a b => ckI fun sc _ e => match e with
    | .Call (.Name f _) [x, y] [] _ => decide (f = ("range" : Str)) && bltB C sc f && (chk C a).e true sc x && (chk C b).e true sc y && notStar x && notStar y
    | _ => false
  | .zip a b => ckI fun sc tg e => match e with
    | .Call (.Name f _) [x, y] [] _ => decide (f = ("zip" : Str)) && bltB C sc f && (chk C a).e false sc x && (chk C b).e false sc y && notStar x && notStar y && (match tg with | .Tuple _ _ _ => true | _ => false)
    | _ => false
  | .enum a => ckI fun sc tg e => match e with
    | .Call (.Name f _) [x] [] _ => decide (f = ("enumerate" : Str)) && bltB C sc f && (chk C a).e false sc x && notStar x && (match tg with | .Tuple _ _ _ => true | _ => false)
    | _ => false
  | .lc elt tg it cond own => ckE fun _ sc e => match e with
    | .ListComp el [⟨t, ie, ifs, 0⟩] scope _ => blkC C.N sc scope (ownOf C.N own) && tg.vars.all (fun k => own.contains k) && (chk C it).i sc t ie && (Tg.chk C tg).one scope (relS scope sc) t && !isSetE ie && (chk C elt).e false (relS scope sc) el &&
      (match ifs with
        | [] => isTrueT cond
        | [c] => (chk C cond).t (relS scope sc) c
        | _ => false)
    | _ => false
  | .err b => ckE fun _ sc e => match e with
    | .Call (.Name f _) [.Lambda ps body scope _] [] _ => glB sc f && decide (C.gl.lookup f = some .err) && emptyArgs ps && LamX.lamSB sc scope && (chk C b).e true scope body
    | _ => false
  | .skip => { s := (fun sc st => match st with
      | .Pass _ => true
      | .Expr (.Constant (.str _) _ _) _ => true
      | _ => false), ss := fun sc l => match l with
      | [] => true
      | [.Pass _] => true
      | [.Expr (.Constant (.str _) _ _) _] => true
      | _ => false }
  | .frz k => { fz := C.mu.contains k }
  | .seq a b => { ss := fun sc l => if (chk C a).fz then (chk C b).ss sc l else match l with
      | x :: r => (chk C a).s sc x && (chk C b).ss sc r
      | [] => false }
  | .set tg v => ckS fun sc st => match st with
    | .Assign [t] e _ => (Tg.chk C tg).one sc sc t && (chk C v).e false sc e && (match t, v with
        | .Name x _, _ => true
        | _, _ => !isComp e && (noSwap sc t e || swap2 sc t e || swap3 sc t e))
    | _ => false
  | .own k v => ckS fun sc st => match st with
    | .Assign [.Name x _] e _ => decide (C.N[k]? = some x) && locB sc x && C.mu.contains k && (chk C v).e false sc e && (match v with
        | .lst _ => true
        | _ => false)
    | _ => false
  | .app k v => ckS fun sc st => match st with
    | .Expr (.Call (.Attribute (.Name x _) m ap) [e] [] pos) _ => (ap.endLine == pos.line) && decide (m = ("append" : Str)) && decide (C.N[k]? = some x) && visB sc x && C.mu.contains k && (chk C v).e false sc e && notStar e
    | _ => false
  | .sidx k i v => ckS fun sc st => match st with
    | .Assign [.Subscript (.Name x _) j _] e _ => decide (C.N[k]? = some x) && visB sc x && (chk C i).e true sc j && notSlice j && (chk C v).e false sc e && !isComp e
    | _ => false
  | .ret v => ckS fun sc st => match st with
    | .Return (some e) _ => (chk C v).e false sc e
    | _ => false
  | .retN => ckS fun sc st => match st with
    | .Return none _ => true
    | _ => false
  | .ifs c a b => ckS fun sc st => match st with
    | .If t x y _ => (chk C c).t sc t && (chk C a).ss sc x && (chk C b).ss sc y
    | _ => false
  | .for tg it body => ckS fun sc st => match st with
    | .For t ie bd [] _ => (Tg.chk C tg).one sc sc t && (chk C it).i sc t ie && !isSetE ie && (chk C body).ss sc bd
    | _ => false
  | .whl c body => ckS fun sc st => match st with
    | .While t bd [] _ => (chk C c).t sc t && (chk C body).ss sc bd
    | _ => false
  | .raise i => ckS fun sc st => match st with
    | .Raise (some (.Call (.Name x _) [.Constant (.str _) _ _] [] _)) none _ => glB sc x && decide (C.gl.lookup x = some (.exc i))
    | _ => false
  | .ex v => ckS fun sc st => match st with
    | .Expr e _ => (chk C v).e true sc e && !isComp e
    | _ => false
  | .brk => ckS fun _ st => match st with
    | .Break _ => true
    | _ => false
  | .cnt => ckS fun _ st => match st with
    | .Continue _ => true
    | _ => false
end Cv

set_option Elab.async false
set_option linter.all false
set_option maxRecDepth 100000
/-! CvC: how values stand in the abstract heap; what an inner text promises. -/
namespace Cv
open PySem PySem.Spec PyProof.Rows L2

/-- what is fixed through a law's run: the cup's place, the defs' places, the error classes, the tables of lambdas -/
structure GI where
  c : Addr
  fa : Nat → Addr
  ca : Nat → Value
  fld : Nat → Str
  T : List (Addr × Str)

mutual
inductive Rep (K : PySem.W.Frag) (g : GI) (G : Hp) : PV → V → Prop
  | non : Rep K g G .non .non
  | bl (b : Bool) : Rep K g G (.bl b) (.bl b)
  | int (i : Int) : Rep K g G (.int i) (.int i)
  | str (s : List Nat) : Rep K g G (.str s) (.str ⟨s.toArray⟩)
  | tup {a : Addr} {xs : List PV} {vs : List V} (h : SqT K G a vs) (r : Reps K g G xs vs) : Rep K g G (.tup xs) (.ref a)
  | lst {a : Addr} {xs : List PV} {vs : List V} (h : G a = some (.lst vs)) (r : Reps K g G xs vs) : Rep K g G (.lst xs) (.ref a)
  | fn (i : Nat) : Rep K g G (.fn i) (.ref (g.fa i))
  | cup : Rep K g G .cup (.ref g.c)
inductive Reps (K : PySem.W.Frag) (g : GI) (G : Hp) : List PV → List V → Prop
  | nil : Reps K g G [] []
  | cons {x : PV} {v : V} {xs : List PV} {vs : List V} (h : Rep K g G x v) (r : Reps K g G xs vs) : Reps K g G (x :: xs) (v :: vs)
end

def keepO : Option HO → Option HO
  | some (.lst xs) => some (.lst xs)
  | some (.tup xs) => some (.tup xs)
  | some (.frz o (.tup xs)) => some (.frz o (.tup xs))
  | _ => none
theorem keepO_some {o : Option HO} {u : HO} (h : keepO o = some u) : o = some u := by
  cases o with
  | none => cases h
  | some x =>
    cases x with
    | lst _ => exact h
    | tup _ => exact h
    | frz o' y => cases y <;> first | exact h | cases h
    | _ => cases h
/-- the heap without the cup and the lists that change -/
def fz (g : GI) (ow : List Addr) (H : Hp) : Hp := fun b => if b = g.c ∨ b ∈ ow then none else keepO (H b)
theorem fz_at {g : GI} {ow : List Addr} {H : Hp} {b : Addr} {o : HO} (h : fz g ow H b = some o) : H b = some o ∧ b ≠ g.c ∧ b ∉ ow := by
  unfold fz at h
  split at h
  · cases h
  · rename_i n
    exact ⟨keepO_some h, fun e => n (.inl e), fun e => n (.inr e)⟩
theorem fz_lst {g : GI} {ow : List Addr} {H : Hp} {b : Addr} {vs : List V} (h : H b = some (.lst vs)) (h1 : b ≠ g.c) (h2 : b ∉ ow) : fz g ow H b = some (.lst vs) := by
  unfold fz
  rw [if_neg (fun z => z.elim h1 h2), h]
  rfl
theorem fz_tup {g : GI} {ow : List Addr} {H : Hp} {b : Addr} {vs : List V} (h : H b = some (.tup vs)) (h1 : b ≠ g.c) (h2 : b ∉ ow) : fz g ow H b = some (.tup vs) := by
  unfold fz
  rw [if_neg (fun z => z.elim h1 h2), h]
  rfl
def Sub (G G' : Hp) : Prop := ∀ b o, G b = some o → G' b = some o
theorem fz_sub {g : GI} {ow : List Addr} {H : Hp} : Sub (fz g ow H) H := fun _ _ h => (fz_at h).1
theorem fz_less {g : GI} {ow ow' : List Addr} {H : Hp} (h : ∀ a ∈ ow, a ∈ ow') : Sub (fz g ow' H) (fz g ow H) := fun b o e => by
  obtain ⟨h1, h2, h3⟩ := fz_at e
  unfold fz at e ⊢
  rw [if_neg (fun z => z.elim h2 h3)] at e
  rw [if_neg (fun z => z.elim h2 fun q => h3 (h b q))]
  exact e
/-- all but the cup and the tables of lambdas stays -/
def Kp (g : GI) (H H' : Hp) : Prop := ∀ b o, H b = some o → b ≠ g.c → (∀ ps, o ≠ .tbl ps) → H' b = some o
theorem Kp.refl {g : GI} {H : Hp} : Kp g H H := fun _ _ h _ _ => h
theorem Kp.trans {g : GI} {H H1 H2 : Hp} (a : Kp g H H1) (b : Kp g H1 H2) : Kp g H H2 := fun x o h n t => b x o (a x o h n t) n t
theorem keepO_tbl {o : HO} {u : HO} (h : keepO (some o) = some u) : ∀ ps, o ≠ .tbl ps := fun ps e => by
  subst e
  cases h
theorem Kp.fz {g : GI} {ow : List Addr} {H H' : Hp} (k : Kp g H H') : Sub (fz g ow H) (fz g ow H') := fun b o e => by
  obtain ⟨h1, h2, h3⟩ := fz_at e
  unfold Cv.fz at e ⊢
  rw [if_neg (fun z => z.elim h2 h3)] at e ⊢
  rw [h1] at e
  rw [k b o h1 h2 (keepO_tbl e)]
  exact e
theorem Kp.upd {g : GI} {H : Hp} {p : Addr} {o : HO} (h : H p = none) : Kp g H (upd H p o) := fun b u e _ _ => by
  rw [upd_ne (ne_of_none e h)]
  exact e
theorem SqT.sub {K : PySem.W.Frag} {G G' : Hp} {a : Addr} {vs : List V} (s : Sub G G') (h : SqT K G a vs) : SqT K G' a vs := by
  rcases h with (h | ⟨o, h⟩) | h
  · exact .inl (.inl (s _ _ h))
  · exact .inl (.inr ⟨o, s _ _ h⟩)
  · exact .inr h
section
variable {K : PySem.W.Frag} {g : GI} {G G' : Hp}
mutual
theorem Rep.sub (s : Sub G G') : ∀ {x : PV} {v : V}, Rep K g G x v → Rep K g G' x v
  | _, _, .non => .non
  | _, _, .bl b => .bl b
  | _, _, .int i => .int i
  | _, _, .str i => .str i
  | _, _, .tup h r => .tup (SqT.sub s h) (Reps.sub s r)
  | _, _, .lst h r => .lst (s _ _ h) (Reps.sub s r)
  | _, _, .fn i => .fn i
  | _, _, .cup => .cup
theorem Reps.sub (s : Sub G G') : ∀ {x : List PV} {v : List V}, Reps K g G x v → Reps K g G' x v
  | _, _, .nil => .nil
  | _, _, .cons h r => .cons (Rep.sub s h) (Reps.sub s r)
end
theorem Reps.length : ∀ {x : List PV} {v : List V}, Reps K g G x v → x.length = v.length
  | _, _, .nil => rfl
  | _, _, .cons _ r => congrArg Nat.succ (Reps.length r)
theorem Reps.app : ∀ {x y : List PV} {v w : List V}, Reps K g G x v → Reps K g G y w → Reps K g G (x ++ y) (v ++ w)
  | _, _, _, _, .nil, s => s
  | _, _, _, _, .cons h r, s => .cons h (Reps.app r s)
theorem Reps.get : ∀ {x : List PV} {v : List V} {i : Nat} {y : PV}, Reps K g G x v → x[i]? = some y → ∃ u, v[i]? = some u ∧ Rep K g G y u
  | _, _, _, _, .nil, e => by simp at e
  | _, _, 0, _, .cons h r, e => by simp at e; subst e; exact ⟨_, rfl, h⟩
  | _, _, i + 1, y, .cons h r, e => by
    obtain ⟨u, h1, h2⟩ := Reps.get (i := i) (y := y) r (by simpa using e)
    exact ⟨u, by simpa using h1, h2⟩
theorem Reps.get' : ∀ {x : List PV} {v : List V} {i : Nat} {u : V}, Reps K g G x v → v[i]? = some u → ∃ y, x[i]? = some y ∧ Rep K g G y u
  | _, _, _, _, .nil, e => by simp at e
  | _, _, 0, _, .cons h r, e => by simp at e; subst e; exact ⟨_, rfl, h⟩
  | _, _, i + 1, y, .cons h r, e => by
    obtain ⟨u, h1, h2⟩ := Reps.get' (i := i) (u := y) r (by simpa using e)
    exact ⟨u, by simpa using h1, h2⟩
theorem Reps.drop : ∀ {x : List PV} {v : List V} (n : Nat), Reps K g G x v → Reps K g G (x.drop n) (v.drop n)
  | _, _, 0, r => r
  | _, _, n + 1, .nil => .nil
  | _, _, n + 1, .cons h r => Reps.drop n r
theorem Reps.take : ∀ {x : List PV} {v : List V} (n : Nat), Reps K g G x v → Reps K g G (x.take n) (v.take n)
  | _, _, 0, _ => .nil
  | _, _, n + 1, .nil => .nil
  | _, _, n + 1, .cons h r => .cons h (Reps.take n r)
theorem Reps.rep {x : List PV} {v : List V} (r : Reps K g G x v) : ∀ n : Nat, Reps K g G (Cv.rep x n) (Cv.rep v n)
  | 0 => .nil
  | n + 1 => Reps.app r (Reps.rep r n)
end

/-! ### data -/
mutual
def PV.toD : PV → PyData
  | .non => .none
  | .bl b => .bool b
  | .int i => .int i
  | .str s => .str ⟨s.toArray⟩
  | .tup xs => .tuple (PV.toDs xs)
  | .lst xs => .list (PV.toDs xs)
  | .fn _ => .none
  | .cup => .none
def PV.toDs : List PV → List PyData
  | [] => []
  | x :: xs => PV.toD x :: PV.toDs xs
end
theorem str_beq (x y : List Nat) : ((⟨x.toArray⟩ : Str) == ⟨y.toArray⟩) = decide (x = y) := by
  rw [Bool.beq_eq_decide_eq]
  by_cases h : x = y
  · subst h; simp
  · rw [decide_eq_false h, decide_eq_false]
    intro e
    injection e with e
    have : x = y := by simpa using congrArg Array.toList e
    exact h this
mutual
theorem eqv_toD : ∀ (n m : Nat) (x y : PV), PV.dat n x = true → PV.dat m y = true → PyData.eqv (PV.toD x) (PV.toD y) = PV.eqv x y
  | n, m, .non, y, hx, hy => by cases y <;> first | rfl | (cases m <;> cases hy) | (simp only [PV.toD, PV.eqv, PyData.eqv])
  | n, m, .bl a, y, hx, hy => by cases y <;> first | rfl | (cases m <;> cases hy) | (simp only [PV.toD, PV.eqv, PyData.eqv, Bool.beq_eq_decide_eq])
  | n, m, .int a, y, hx, hy => by cases y <;> first | rfl | (cases m <;> cases hy) | (simp only [PV.toD, PV.eqv, PyData.eqv, Bool.beq_eq_decide_eq])
  | n, m, .str a, y, hx, hy => by cases y <;> first | rfl | (cases m <;> cases hy) | (simp only [PV.toD, PV.eqv, PyData.eqv, str_beq])
  | 0, m, .tup a, y, hx, hy => by cases hx
  | n + 1, m, .tup a, y, hx, hy => by
    cases y with
    | tup b =>
      cases m with
      | zero => cases hy
      | succ m =>
        simp only [PV.toD, PV.eqv, PyData.eqv]
        exact eqvs_toD n m a b (by simpa only [PV.dat] using hx) (by simpa only [PV.dat] using hy)
    | fn i => cases m <;> cases hy
    | cup => cases m <;> cases hy
    | _ => simp only [PV.toD, PV.eqv, PyData.eqv]
  | 0, m, .lst a, y, hx, hy => by cases hx
  | n + 1, m, .lst a, y, hx, hy => by
    cases y with
    | lst b =>
      cases m with
      | zero => cases hy
      | succ m =>
        simp only [PV.toD, PV.eqv, PyData.eqv]
        exact eqvs_toD n m a b (by simpa only [PV.dat] using hx) (by simpa only [PV.dat] using hy)
    | fn i => cases m <;> cases hy
    | cup => cases m <;> cases hy
    | _ => simp only [PV.toD, PV.eqv, PyData.eqv]
  | n, m, .fn i, y, hx, hy => by cases n <;> cases hx
  | n, m, .cup, y, hx, hy => by cases n <;> cases hx
theorem eqvs_toD : ∀ (n m : Nat) (x y : List PV), PV.dats n x = true → PV.dats m y = true → PyData.eqvAll (PV.toDs x) (PV.toDs y) = PV.eqvs x y
  | n, m, [], [], _, _ => by simp only [PV.toDs, PV.eqvs, PyData.eqvAll]
  | n, m, [], _ :: _, _, _ => by simp only [PV.toDs, PV.eqvs, PyData.eqvAll]
  | n, m, _ :: _, [], _, _ => by simp only [PV.toDs, PV.eqvs, PyData.eqvAll]
  | n, m, x :: xs, y :: ys, hx, hy => by
    simp only [PV.dats, Bool.and_eq_true] at hx hy
    simp only [PV.toDs, PV.eqvs, PyData.eqvAll]
    rw [eqv_toD n m x y hx.1 hy.1, eqvs_toD n m xs ys hx.2 hy.2]
end
mutual
theorem lay_toD : ∀ (n : Nat) (x : PV), PV.dat n x = true → (PV.toD x).canLay0 = true ∧ (PV.toD x).depth ≤ n
  | n, .non, hx => by simp [PV.toD, PyData.canLay0, PyData.depth]
  | n, .bl a, hx => by simp [PV.toD, PyData.canLay0, PyData.depth]
  | n, .int a, hx => by simp [PV.toD, PyData.canLay0, PyData.depth]
  | n, .str a, hx => by
    have h : a.all (fun c => decide (c < 1114112)) = true := by cases n <;> simpa only [PV.dat] using hx
    refine ⟨?_, by simp [PV.toD, PyData.depth]⟩
    simp only [PV.toD, PyData.canLay0]
    unfold PyData.strOk
    simpa using h
  | 0, .tup a, hx => by cases hx
  | n + 1, .tup a, hx => by
    obtain ⟨h1, h2⟩ := lays_toD n a (by simpa only [PV.dat] using hx)
    simp only [PV.toD, PyData.canLay0, PyData.depth]
    exact ⟨h1, by omega⟩
  | 0, .lst a, hx => by cases hx
  | n + 1, .lst a, hx => by
    obtain ⟨h1, h2⟩ := lays_toD n a (by simpa only [PV.dat] using hx)
    simp only [PV.toD, PyData.canLay0, PyData.depth]
    exact ⟨h1, by omega⟩
  | n, .fn i, hx => by cases n <;> cases hx
  | n, .cup, hx => by cases n <;> cases hx
theorem lays_toD : ∀ (n : Nat) (x : List PV), PV.dats n x = true → PyData.canLayAll0 (PV.toDs x) = true ∧ PyData.depthAll (PV.toDs x) ≤ n
  | n, [], _ => by simp [PV.toDs, PyData.canLayAll0, PyData.depthAll]
  | n, x :: xs, hx => by
    simp only [PV.dats, Bool.and_eq_true] at hx
    obtain ⟨h1, h2⟩ := lay_toD n x hx.1
    obtain ⟨h3, h4⟩ := lays_toD n xs hx.2
    simp only [PV.toDs, PyData.canLayAll0, PyData.depthAll, h1, h3, Bool.and_self, true_and]
    omega
end
theorem shaped_toD {x : PV} (h : PV.dat 60 x = true) : SeqAt.shaped (PV.toD x) = true := by
  obtain ⟨h1, h2⟩ := lay_toD 60 x h
  unfold SeqAt.shaped
  rw [h1, decide_eq_true (by omega : (PV.toD x).depth ≤ 64)]
  rfl
section
variable {K : PySem.W.Frag} {g : GI} {G H : Hp}
mutual
theorem Rep.dp (s : Sub G H) : ∀ {n : Nat} {x : PV} {v : V}, Rep K g G x v → PV.dat n x = true → Dp K H v (PV.toD x)
  | _, _, _, .non, _ => by simp only [PV.toD]; exact .non
  | _, _, _, .bl b, _ => by simp only [PV.toD]; exact .bl b
  | _, _, _, .int i, _ => by simp only [PV.toD]; exact .int i
  | _, _, _, .str i, _ => by simp only [PV.toD]; exact .str _
  | 0, _, _, .tup h r, hx => by cases hx
  | n + 1, _, _, .tup h r, hx => by
    simp only [PV.toD]
    exact .tup (SqT.sub s h) (Reps.dp s r (by simpa only [PV.dat] using hx))
  | 0, _, _, .lst h r, hx => by cases hx
  | n + 1, _, _, .lst h r, hx => by
    simp only [PV.toD]
    exact .lst (SqL.of (s _ _ h)) (Reps.dp s r (by simpa only [PV.dat] using hx))
  | n, _, _, .fn i, hx => by cases n <;> cases hx
  | n, _, _, .cup, hx => by cases n <;> cases hx
theorem Reps.dp (s : Sub G H) : ∀ {n : Nat} {x : List PV} {v : List V}, Reps K g G x v → PV.dats n x = true → DpAll K H v (PV.toDs x)
  | _, _, _, .nil, _ => by simp only [PV.toDs]; exact .nil
  | n, _, _, .cons h r, hx => by
    simp only [PV.dats, Bool.and_eq_true] at hx
    simp only [PV.toDs]
    exact .cons (Rep.dp s h hx.1) (Reps.dp s r hx.2)
end
end
end Cv

set_option Elab.async false
set_option linter.all false
set_option maxRecDepth 100000
/-! CvD: readings by the evaluator; expressions. -/
namespace Cv
open PySem PySem.Spec PyProof.Rows L2

def Hs (g : GI) (c : Cup) (H : Hp) : Prop := H g.c = some (.lst [.int c.1, .int c.2]) ∧ LamX.Tabs g.T H
theorem Hs.upd {g : GI} {c : Cup} {H : Hp} {p : Addr} {o : HO} (h : Hs g c H) (n : H p = none) : Hs g c (upd H p o) :=
  ⟨by rw [upd_ne (ne_of_none h.1 n)]; exact h.1, h.2.ext fun b u e => by rw [upd_ne (ne_of_none e n)]; exact e⟩

structure EnvR (K : PySem.W.Frag) (g : GI) (ow : List Addr) (env : Cv.Env) (σ : L2.St) (H : Hp) : Prop where
  len : env.length = σ.length
  val : ∀ (k : Nat) (v : PV), env[k]? = some (some (Slot.val v)) → ∃ u : V, σ[k]? = some (some u) ∧ Rep K g (fz g ow H) v u
  own : ∀ (k : Nat) (xs : List PV), env[k]? = some (some (Slot.own xs)) → ∃ (a : Addr) (vs : List V), σ[k]? = some (some (V.ref a)) ∧ a ∈ ow ∧ H a = some (.lst vs) ∧ Reps K g (fz g ow H) xs vs
  inj : ∀ (k j : Nat) (a : Addr) (xs ys : List PV), k ≠ j → env[k]? = some (some (Slot.own xs)) → env[j]? = some (some (Slot.own ys)) → σ[k]? = some (some (V.ref a)) → σ[j]? ≠ some (some (V.ref a))

structure StR (K : PySem.W.Frag) (g : GI) (ow : List Addr) (env : Cv.Env) (c : Cup) (σ : L2.St) (H : Hp) : Prop where
  nc : g.c ∉ ow
  live : ∀ a ∈ ow, ∃ vs, H a = some (.lst vs)
  hs : Hs g c H
  env : EnvR K g ow env σ H

theorem StR.kp {K : PySem.W.Frag} {g : GI} {ow : List Addr} {env : Cv.Env} {c c' : Cup} {σ : L2.St} {H H' : Hp} (s : StR K g ow env c σ H) (k : Kp g H H') (hs : Hs g c' H') : StR K g ow env c' σ H' := by
  have keep : ∀ a ∈ ow, ∀ vs, H a = some (.lst vs) → H' a = some (.lst vs) := fun a ha vs e => k a _ e (fun z => s.nc (z ▸ ha)) (fun ps z => by cases z)
  refine ⟨s.nc, fun a ha => ?_, hs, s.env.len, fun i v e => ?_, fun i xs e => ?_, s.env.inj⟩
  · obtain ⟨vs, e⟩ := s.live a ha
    exact ⟨vs, keep a ha vs e⟩
  · obtain ⟨u, h1, h2⟩ := s.env.val i v e
    exact ⟨u, h1, h2.sub k.fz⟩
  · obtain ⟨a, vs, h1, h2, h3, h4⟩ := s.env.own i xs e
    exact ⟨a, vs, h1, h2, keep a h2 vs h3, h4.sub k.fz⟩

def ExW (g : GI) (E : XK) (i : Nat) (p : Option Int) (H : Hp) : Prop := match p with
  | none => E (g.ca i) none H
  | some n => ∀ d, H d = some (.xd [(g.fld i, .int n)]) → E (g.ca i) (some d) H
/-- how an evaluation's end lies at the abstract heap -/
def Out {α : Type} (g : GI) (E : XK) (H : Hp) (r : Rs α) (k : α → Cup → Hp → Prop) : Prop := match r with
  | .ok a c => ∀ H', Kp g H H' → Hs g c H' → k a c H'
  | .exc i p c => ∀ H', Kp g H H' → Hs g c H' → ExW g E i p H'
  | .bad => False
section
variable {α β : Type} {g : GI} {E : XK} {H H1 : Hp}
theorem Out.kp {r : Rs α} {k : α → Cup → Hp → Prop} (h : Out g E H r k) (kp : Kp g H H1) : Out g E H1 r k := by
  cases r with
  | ok a c => exact fun H' k1 hs => h H' (kp.trans k1) hs
  | exc i p c => exact fun H' k1 hs => h H' (kp.trans k1) hs
  | bad => exact h
theorem Out.imp {r : Rs α} {k k' : α → Cup → Hp → Prop} (h : Out g E H r k) (w : ∀ a c H', Kp g H H' → Hs g c H' → k a c H' → k' a c H') : Out g E H r k' := by
  cases r with
  | ok a c => exact fun H' k1 hs => w a c H' k1 hs (h H' k1 hs)
  | exc i p c => exact h
  | bad => exact h
theorem Out.bnd {m : M α} {f : α → M β} {c : Cup} {k : β → Cup → Hp → Prop} (h : Out g E H (bnd m f c) k) : Out g E H (m c) fun a c1 H1 => Out g E H1 (f a c1) k := by
  have h' : Out g E H ((m c).then f) k := h
  cases e : m c with
  | ok a c1 =>
    rw [e] at h'
    exact fun H1 k1 _ => Out.kp (show Out g E H (f a c1) k from h') k1
  | exc i p c1 =>
    rw [e] at h'
    exact h'
  | bad =>
    rw [e] at h'
    exact h'
theorem Out.ret {a : α} {c : Cup} {k : α → Cup → Hp → Prop} (hs : Hs g c H) (h : Out g E H (ret a c) k) : k a c H := h H Kp.refl hs
theorem Out.lift {o : Option α} {c : Cup} {k : α → Cup → Hp → Prop} (h : Out g E H (lift o c) k) : ∃ a, o = some a ∧ ∀ H', Kp g H H' → Hs g c H' → k a c H' := by
  cases o with
  | none => exact False.elim h
  | some a => exact ⟨a, rfl, h⟩
theorem Out.bndL {o : Option α} {f : α → M β} {c : Cup} {k : β → Cup → Hp → Prop} (h : Out g E H (Cv.bnd (Cv.lift o) f c) k) : ∃ a, o = some a ∧ Out g E H (f a c) k := by
  cases o with
  | none => exact False.elim h
  | some a => exact ⟨a, rfl, h⟩
end

/-- a result: a value of the fixed part; or, where it is only read, a list that a name alone holds -/
def RepM (K : PySem.W.Frag) (g : GI) (raw : Bool) (ow : List Addr) (H : Hp) (x : PV) (v : V) : Prop :=
  Rep K g (fz g ow H) x v ∨ (raw = true ∧ ∃ a vs xs, x = .lst xs ∧ v = .ref a ∧ a ∈ ow ∧ H a = some (.lst vs) ∧ Reps K g (fz g ow H) xs vs)
def tE (K : PySem.W.Frag) (g : GI) (E : XK) (raw : Bool) (m : Cv.Env → M PV) : TE := fun σ H Q => ∃ ow env c, StR K g ow env c σ H ∧ Out g E H (m env c) fun r _ H' => ∀ v, RepM K g raw ow H' r v → Q v H'
def tT (K : PySem.W.Frag) (g : GI) (E : XK) (m : Cv.Env → M Bool) : TT := fun σ H Q => ∃ ow env c, StR K g ow env c σ H ∧ Out g E H (m env c) fun r _ H' => Q r H'
def tL (K : PySem.W.Frag) (g : GI) (E : XK) (m : Cv.Env → M (List PV)) : TA := fun σ H Q => ∃ ow env c, StR K g ow env c σ H ∧ Out g E H (m env c) fun r _ H' => ∀ vs, Reps K g (fz g ow H') r vs → Q vs H'

theorem PE.imp {X : Cx} {e : PySem.Expr} {t t' : TE} (h : PE X e t) (w : ∀ σ H Q, t' σ H Q → t σ H Q) : PE X e t' := ⟨fun pins s σ H Q I q => h.run pins s σ H Q I (w σ H Q q)⟩
theorem PT.imp {X : Cx} {e : PySem.Expr} {t t' : TT} (h : PT X e t) (w : ∀ σ H Q, t' σ H Q → t σ H Q) : PT X e t' := ⟨fun pins s σ H Q I q => h.run pins s σ H Q I (w σ H Q q)⟩
theorem PA.imp {X : Cx} {e : List PySem.Expr} {t t' : TA} (h : PA X e t) (w : ∀ σ H Q, t' σ H Q → t σ H Q) : PA X e t' := ⟨fun pos pins s σ H Q I q => h.run pos pins s σ H Q I (w σ H Q q)⟩
theorem PI.imp {X : Cx} {tg e : PySem.Expr} {t t' : TI} (h : PI X tg e t) (w : ∀ σ H Q, t' σ H Q → t σ H Q) : PI X tg e t' := ⟨fun pins s σ H Q I q => h.run pins s σ H Q I (w σ H Q q)⟩

section
variable {K : PySem.W.Frag} {g : GI} {E : XK} {ow : List Addr} {H : Hp}
/-- the reading of a part, within the reading of the whole -/
theorem tE_bnd {σ : L2.St} {env : Cv.Env} {c : Cup} {m : Cv.Env → M PV} {β : Type} {f : PV → M β} {k : β → Cup → Hp → Prop} {Q : VK} {raw : Bool} (st : StR K g ow env c σ H) (h : Out g E H (bnd (m env) f c) k)
    (w : ∀ x v c1 H1, StR K g ow env c1 σ H1 → Kp g H H1 → RepM K g raw ow H1 x v → Out g E H1 (f x c1) k → Q v H1) : tE K g E raw m σ H Q :=
  ⟨ow, env, c, st, (Out.bnd h).imp fun x c1 H1 k1 hs h1 v r => w x v c1 H1 (st.kp k1 hs) k1 r h1⟩
theorem tT_bnd {σ : L2.St} {env : Cv.Env} {c : Cup} {m : Cv.Env → M Bool} {β : Type} {f : Bool → M β} {k : β → Cup → Hp → Prop} {Q : Bool → Hp → Prop} (st : StR K g ow env c σ H) (h : Out g E H (bnd (m env) f c) k)
    (w : ∀ b c1 H1, StR K g ow env c1 σ H1 → Kp g H H1 → Out g E H1 (f b c1) k → Q b H1) : tT K g E m σ H Q :=
  ⟨ow, env, c, st, (Out.bnd h).imp fun x c1 H1 k1 hs h1 => w x c1 H1 (st.kp k1 hs) k1 h1⟩
theorem tL_bnd {σ : L2.St} {env : Cv.Env} {c : Cup} {m : Cv.Env → M (List PV)} {β : Type} {f : List PV → M β} {k : β → Cup → Hp → Prop} {Q : List V → Hp → Prop} (st : StR K g ow env c σ H) (h : Out g E H (bnd (m env) f c) k)
    (w : ∀ x v c1 H1, StR K g ow env c1 σ H1 → Kp g H H1 → Reps K g (fz g ow H1) x v → Out g E H1 (f x c1) k → Q v H1) : tL K g E m σ H Q :=
  ⟨ow, env, c, st, (Out.bnd h).imp fun x c1 H1 k1 hs h1 v r => w x v c1 H1 (st.kp k1 hs) k1 r h1⟩
/-- the value that was read stays -/
theorem RepM.kp {raw : Bool} {H' : Hp} {x : PV} {v : V} (r : RepM K g raw ow H x v) (k : Kp g H H') (nc : g.c ∉ ow) : RepM K g raw ow H' x v := by
  rcases r with r | ⟨e, a, vs, xs, e1, e2, h1, h2, h3⟩
  · exact .inl (r.sub k.fz)
  · exact .inr ⟨e, a, vs, xs, e1, e2, h1, k a _ h2 (fun z => nc (z ▸ h1)) (fun ps z => by cases z), h3.sub k.fz⟩
/-- a scalar's value -/
theorem RepM.int {raw : Bool} {i : Int} {v : V} (r : RepM K g raw ow H (.int i) v) : v = .int i := by
  rcases r with r | ⟨_, a, vs, xs, e1, _⟩
  · cases r; rfl
  · cases e1
theorem RepM.bl {raw : Bool} {i : Bool} {v : V} (r : RepM K g raw ow H (.bl i) v) : v = .bl i := by
  rcases r with r | ⟨_, a, vs, xs, e1, _⟩
  · cases r; rfl
  · cases e1
theorem RepM.non {raw : Bool} {v : V} (r : RepM K g raw ow H .non v) : v = .non := by
  rcases r with r | ⟨_, a, vs, xs, e1, _⟩
  · cases r; rfl
  · cases e1
theorem RepM.str {raw : Bool} {i : List Nat} {v : V} (r : RepM K g raw ow H (.str i) v) : v = .str ⟨i.toArray⟩ := by
  rcases r with r | ⟨_, a, vs, xs, e1, _⟩
  · cases r; rfl
  · cases e1
theorem RepM.cup {raw : Bool} {v : V} (r : RepM K g raw ow H .cup v) : v = .ref g.c := by
  rcases r with r | ⟨_, a, vs, xs, e1, _⟩
  · cases r; rfl
  · cases e1
theorem RepM.fn {raw : Bool} {i : Nat} {v : V} (r : RepM K g raw ow H (.fn i) v) : v = .ref (g.fa i) := by
  rcases r with r | ⟨_, a, vs, xs, e1, _⟩
  · cases r; rfl
  · cases e1
theorem RepM.tup {raw : Bool} {xs : List PV} {v : V} (r : RepM K g raw ow H (.tup xs) v) : ∃ a vs, v = .ref a ∧ SqT K H a vs ∧ SqT K (fz g ow H) a vs ∧ Reps K g (fz g ow H) xs vs := by
  rcases r with r | ⟨_, a, vs, xs, e1, _⟩
  · cases r with
    | tup h r => exact ⟨_, _, rfl, SqT.sub fz_sub h, h, r⟩
  · cases e1
theorem RepM.lst {raw : Bool} {xs : List PV} {v : V} (r : RepM K g raw ow H (.lst xs) v) : ∃ a vs, v = .ref a ∧ H a = some (.lst vs) ∧ Reps K g (fz g ow H) xs vs := by
  rcases r with r | ⟨_, a, vs, xs, e1, e2, e3, h, r⟩
  · cases r with
    | lst h r => exact ⟨_, _, rfl, fz_sub _ _ h, r⟩
  · cases e1; exact ⟨a, vs, e2, h, r⟩
theorem RepM.isLst {raw : Bool} {xs : List PV} {v : V} (r : RepM K g raw ow H (.lst xs) v) : ∃ a vs, v = .ref a ∧ H a = some (.lst vs) ∧ Reps K g (fz g ow H) xs vs := r.lst
theorem RepM.strict {x : PV} {v : V} (r : RepM K g false ow H x v) : Rep K g (fz g ow H) x v := by
  rcases r with r | ⟨e, _⟩
  · exact r
  · cases e
theorem RepM.weak {raw : Bool} {x : PV} {v : V} (r : Rep K g (fz g ow H) x v) : RepM K g raw ow H x v := .inl r
/-- a new object -/
theorem fresh_lst {p : Addr} {xs : List PV} {vs : List V} (st : ∀ a ∈ ow, ∃ vs, H a = some (.lst vs)) (hc : ∃ o, H g.c = some o) (hn : H p = none) (r : Reps K g (fz g ow H) xs vs) : Rep K g (fz g ow (upd H p (.lst vs))) (.lst xs) (.ref p) := by
  refine .lst (vs := vs) (fz_lst upd_same (fun z => ?_) fun z => ?_) (r.sub (Kp.upd hn).fz)
  · obtain ⟨o, h⟩ := hc
    rw [← z, hn] at h
    cases h
  · obtain ⟨vs, h⟩ := st p z
    rw [hn] at h
    cases h
theorem fresh_tup {p : Addr} {xs : List PV} {vs : List V} (st : ∀ a ∈ ow, ∃ vs, H a = some (.lst vs)) (hc : ∃ o, H g.c = some o) (hn : H p = none) (r : Reps K g (fz g ow H) xs vs) : Rep K g (fz g ow (upd H p (.tup vs))) (.tup xs) (.ref p) := by
  refine .tup (vs := vs) (SqT.of (fz_tup upd_same (fun z => ?_) fun z => ?_)) (r.sub (Kp.upd hn).fz)
  · obtain ⟨o, h⟩ := hc
    rw [← z, hn] at h
    cases h
  · obtain ⟨vs, h⟩ := st p z
    rw [hn] at h
    cases h
theorem StR.cup {env : Cv.Env} {c : Cup} {σ : L2.St} (st : StR K g ow env c σ H) : ∃ o, H g.c = some o := ⟨_, st.hs.1⟩
/-- the end at a new list, a new tuple -/
theorem end_lst {env : Cv.Env} {c : Cup} {σ : L2.St} {xs : List PV} {vs : List V} {Q : VK} {raw : Bool} (st : StR K g ow env c σ H) (r : Reps K g (fz g ow H) xs vs)
    (h : ∀ H', Kp g H H' → Hs g c H' → ∀ v, RepM K g raw ow H' (.lst xs) v → Q v H') (p : Addr) (hn : H p = none) : Q (.ref p) (upd H p (.lst vs)) :=
  h _ (Kp.upd hn) (st.hs.upd hn) _ (.inl (fresh_lst st.live st.cup hn r))
theorem end_tup {env : Cv.Env} {c : Cup} {σ : L2.St} {xs : List PV} {vs : List V} {Q : VK} {raw : Bool} (st : StR K g ow env c σ H) (r : Reps K g (fz g ow H) xs vs)
    (h : ∀ H', Kp g H H' → Hs g c H' → ∀ v, RepM K g raw ow H' (.tup xs) v → Q v H') (p : Addr) (hn : H p = none) : Q (.ref p) (upd H p (.tup vs)) :=
  h _ (Kp.upd hn) (st.hs.upd hn) _ (.inl (fresh_tup st.live st.cup hn r))
end
end Cv

set_option Elab.async false
set_option linter.all false
set_option maxRecDepth 100000
/-! CvE: operations by values. -/
namespace Cv
open PySem PySem.Spec PyProof.Rows L2

theorem beqT (b : Bool) : (b == true) = b := by cases b <;> rfl
theorem beqF (b : Bool) : (b == false) = !b := by cases b <;> rfl
theorem big_eq : big = sizeLine := by rw [sizeLine_eq]; rfl
theorem rep_eq {α : Type} (xs : List α) : ∀ n : Nat, rep xs n = (List.replicate n xs).flatten
  | 0 => rfl
  | n + 1 => by
    show xs ++ rep xs n = _
    rw [rep_eq xs n, List.replicate_succ, List.flatten_cons]
theorem str_app (x y : List Nat) : (⟨x.toArray⟩ : Str) ++ (⟨y.toArray⟩ : Str) = ⟨(x ++ y).toArray⟩ := by
  show Str.append _ _ = _
  unfold Str.append
  simp
theorem str_len (x : List Nat) : (⟨x.toArray⟩ : Str).length = x.length := by simp [Str.length]

section
variable {X : Cx} {g : GI} {E : XK}
/-- an operation by values: its rule, and that the evaluator tells what the rule asks -/
def OpS (X : Cx) (g : GI) (E : XK) (o : Op) (f : Value → Value → Sem Value) : Prop := ∃ r : R2, OpR X f r ∧
  ∀ {ow : List Addr} {env : Cv.Env} {c : Cup} {σ : L2.St} {H : Hp} {x y : PV} {v w : V} {raw : Bool} {Q : VK}, StR X.K g ow env c σ H → RepM X.K g true ow H x v → RepM X.K g true ow H y w →
    Out g E H (opM o x y c) (fun r _ H' => ∀ v, RepM X.K g raw ow H' r v → Q v H') → r v w H Q
/-- the same for a value function -/
def VOp (X : Cx) (g : GI) (fv : Cup → PV → PV → Option PV) (r : R2) : Prop :=
  ∀ {ow : List Addr} {env : Cv.Env} {c : Cup} {σ : L2.St} {H : Hp} {x y z : PV} {v w : V} {raw : Bool} {Q : VK}, StR X.K g ow env c σ H → RepM X.K g true ow H x v → RepM X.K g true ow H y w →
    fv c x y = some z → (∀ H', Kp g H H' → Hs g c H' → ∀ v, RepM X.K g raw ow H' z v → Q v H') → r v w H Q
theorem OpS.of {o : Op} {f : Value → Value → Sem Value} {r : R2} (hr : OpR X f r) (h : VOp X g (fun c x y => opV c o x y) r) : OpS X g E o f := by
  refine ⟨r, hr, fun st rx ry q => ?_⟩
  obtain ⟨z, e, k⟩ := Out.lift (show Out g E _ (lift (opV _ o _ _) _) _ from q)
  exact h st rx ry e k

/-- the end at a value that asks nothing of the heap -/
theorem end_here {ow : List Addr} {env : Cv.Env} {c : Cup} {σ : L2.St} {H : Hp} {z : PV} {raw : Bool} {Q : VK} {v : V} (st : StR X.K g ow env c σ H) (k : ∀ H', Kp g H H' → Hs g c H' → ∀ v, RepM X.K g raw ow H' z v → Q v H') (r : Rep X.K g (fz g ow H) z v) : Q v H :=
  k H Kp.refl st.hs v (.inl r)

theorem vop_add : VOp X g (fun _ => addV) (fun x y H Q => (rI0 (fun i j => .int (i + j)) x y H Q ∨ ∃ i j, x = .str i ∧ y = .str j ∧ i.length + j.length ≤ sizeLine ∧ Q (.str (i ++ j)) H) ∨ rCatA X.K x y H Q ∨ rCat x y H Q) := by
  intro ow env c σ H x y z v w raw Q st rx ry e k
  change addV x y = some z at e
  cases x <;> cases y <;> simp only [addV] at e <;> try cases e
  · rename_i i j
    rw [rx.int, ry.int]
    exact .inl (.inl ⟨i, j, rfl, rfl, end_here st k (.int _)⟩)
  · rename_i i j
    split at e
    · rename_i hz
      cases e
      rw [rx.str, ry.str]
      refine .inl (.inr ⟨_, _, rfl, rfl, ?_, ?_⟩)
      · rw [str_len, str_len, ← big_eq]; exact hz
      · rw [str_app]; exact end_here st k (.str _)
    · cases e
  · rename_i i j
    split at e
    · rename_i hz
      cases e
      obtain ⟨a, vs, rfl, ha, ha', r1⟩ := rx.tup
      obtain ⟨b, ws, rfl, hb, hb', r2⟩ := ry.tup
      refine .inr (.inl ⟨a, b, vs, ws, rfl, rfl, ha, hb, ?_, ?_, ?_, ?_⟩)
      · rw [← r1.length, ← r2.length, ← big_eq]; exact hz
      · intro q
        subst q
        have : i = [] := List.length_eq_zero_iff.mp r1.length
        subst this
        exact end_here st k (.tup hb' r2)
      · intro q1 q
        subst q
        have : j = [] := List.length_eq_zero_iff.mp r2.length
        subst this
        rw [List.append_nil] at k
        exact end_here st k (.tup ha' r1)
      · intro q1 q2 p hn
        exact end_tup st (r1.app r2) k p hn
    · cases e
  · rename_i i j
    split at e
    · rename_i hz
      cases e
      obtain ⟨a, vs, rfl, ha, r1⟩ := rx.lst
      obtain ⟨b, ws, rfl, hb, r2⟩ := ry.lst
      refine .inr (.inr ⟨a, b, vs, ws, rfl, rfl, ha, hb, ?_, fun p hn => end_lst st (r1.app r2) k p hn⟩)
      rw [← r1.length, ← r2.length, ← big_eq]; exact hz
    · cases e
theorem vop_sub : VOp X g (fun _ => subV) (rI0 fun i j => .int (i - j)) := by
  intro ow env c σ H x y z v w raw Q st rx ry e k
  change subV x y = some z at e
  cases x <;> cases y <;> simp only [subV] at e <;> try cases e
  rw [rx.int, ry.int]
  exact ⟨_, _, rfl, rfl, end_here st k (.int _)⟩
theorem mulOk_ok {i j : Int} (h : mulOk i j = true) : CMul i j ∨ CMulW i j := by
  unfold mulOk at h
  simp only [Bool.or_eq_true, decide_eq_true_eq] at h
  rcases h with (h | h) | h
  · exact .inl (.inl ⟨by omega, by omega⟩)
  · exact .inl (.inr ⟨by omega, by omega⟩)
  · exact .inr h
theorem vop_mul : VOp X g (fun _ => mulV) (fun x y H Q => (rI CMul (fun i j => .int (i * j)) x y H Q ∨ rI CMulW (fun i j => .int (i * j)) x y H Q) ∨ rRep x y H Q ∨ rRepT X.K x y H Q) := by
  intro ow env c σ H x y z v w raw Q st rx ry e k
  change mulV x y = some z at e
  cases x <;> cases y <;> simp only [mulV] at e <;> try cases e
  · rename_i i j
    split at e
    · rename_i hm
      cases e
      rw [rx.int, ry.int]
      rcases mulOk_ok hm with q | q
      · exact .inl (.inl ⟨i, j, rfl, rfl, q, end_here st k (.int _)⟩)
      · exact .inl (.inr ⟨i, j, rfl, rfl, q, end_here st k (.int _)⟩)
    · cases e
  · rename_i xs j
    split at e
    · rename_i hm
      cases e
      simp only [Bool.and_eq_true, decide_eq_true_eq, Bool.not_eq_true'] at hm
      obtain ⟨a, vs, rfl, ha, ha', r1⟩ := rx.tup
      rw [ry.int]
      have hl := r1.length
      refine .inr (.inr ⟨a, j, vs, rfl, rfl, ha, fun q => ?_, hm.1.1.1, hm.1.1.2, by omega, fun p hn => ?_⟩)
      · rw [q] at hl
        rw [List.length_eq_zero_iff.mp hl] at hm
        exact absurd hm.2 (by decide)
      · rw [← rep_eq]
        exact end_tup st (r1.rep _) k p hn
    · cases e
  · rename_i xs j
    split at e
    · rename_i hm
      cases e
      simp only [Bool.and_eq_true, decide_eq_true_eq] at hm
      obtain ⟨a, vs, rfl, ha, r1⟩ := rx.lst
      rw [ry.int]
      have hl := r1.length
      refine .inr (.inl ⟨a, j, vs, rfl, rfl, ha, by omega, by omega, by rw [← hl, ← big_eq]; exact hm.2, fun p hn => ?_⟩)
      rw [← rep_eq]
      exact end_lst st (r1.rep _) k p hn
    · cases e
theorem vop_fdiv : VOp X g (fun _ => fdivV) (fun x y H Q => rI CDivN (fun i j => .int (i.fdiv j)) x y H Q ∨ rI CDivW (fun i j => .int (i / j)) x y H Q) := by
  intro ow env c σ H x y z v w raw Q st rx ry e k
  change fdivV x y = some z at e
  cases x <;> cases y <;> simp only [fdivV] at e <;> try cases e
  rename_i i j
  split at e
  · rename_i hm
    cases e
    rw [rx.int, ry.int]
    rw [Bool.or_eq_true] at hm
    rcases hm with hm | hm
    · unfold divOk at hm
      simp only [Bool.and_eq_true, decide_eq_true_eq] at hm
      exact .inl ⟨i, j, rfl, rfl, hm, end_here st k (.int _)⟩
    · unfold divOkW at hm
      simp only [Bool.and_eq_true, decide_eq_true_eq] at hm
      refine .inr ⟨i, j, rfl, rfl, hm, ?_⟩
      have q := end_here st k (.int _)
      rw [Int.fdiv_eq_ediv_of_nonneg i (by omega)] at q
      exact q
  · cases e
theorem vop_mod : VOp X g (fun _ => modV) (rI (fun _ j => j ≠ 0) fun i j => .int (i.fmod j)) := by
  intro ow env c σ H x y z v w raw Q st rx ry e k
  change modV x y = some z at e
  cases x <;> cases y <;> simp only [modV] at e <;> try cases e
  rename_i i j
  split at e
  · cases e
  · rename_i hm
    cases e
    rw [rx.int, ry.int]
    exact ⟨i, j, rfl, rfl, hm, end_here st k (.int _)⟩
def CPowW (i j : Int) : Prop := 0 ≤ j ∧ j ≤ 1000 ∧ i.natAbs.log2 < 100000
theorem op_powW {X : Cx} : OpR X (binaryOp .Pow) (rI CPowW fun i j => .int (i ^ j.toNat)) := opI fun i j t u s Q E hc q => by
  refine pow_int hc.1 ?_ q
  obtain ⟨h0, h1, h2⟩ := hc
  have hb : (Builtin.Int.intBits i : Int) ≤ 100000 := by
    unfold Builtin.Int.intBits
    split
    · decide
    · omega
  have : (Builtin.Int.intBits i : Int) * j ≤ 100000 * 1000 := Int.mul_le_mul hb h1 h0 (by decide)
  omega
theorem vop_pow : VOp X g (fun _ => powV) (fun x y H Q => rI CPow (fun i j => .int (i ^ j.toNat)) x y H Q ∨ rI CPowW (fun i j => .int (i ^ j.toNat)) x y H Q) := by
  intro ow env c σ H x y z v w raw Q st rx ry e k
  change powV x y = some z at e
  cases x <;> cases y <;> simp only [powV] at e <;> try cases e
  rename_i i j
  split at e
  · rename_i hm
    cases e
    unfold powOk at hm
    simp only [Bool.or_eq_true, Bool.and_eq_true, decide_eq_true_eq] at hm
    rw [rx.int, ry.int]
    rcases hm with hm | hm
    · exact .inl ⟨i, j, rfl, rfl, ⟨hm.1.1, hm.1.2, hm.2⟩, end_here st k (.int _)⟩
    · exact .inr ⟨i, j, rfl, rfl, ⟨hm.1.1, hm.1.2, hm.2⟩, end_here st k (.int _)⟩
  · cases e
theorem RepM.dp {ow : List Addr} {H : Hp} {raw : Bool} {x : PV} {v : V} (r : RepM X.K g raw ow H x v) (h : PV.dat 60 x = true) : Dp X.K H v (PV.toD x) := by
  rcases r with r | ⟨_, a, vs, xs, rfl, rfl, _, h2, h3⟩
  · exact r.dp fz_sub h
  · simp only [PV.toD]
    exact .lst (SqL.of h2) (h3.dp fz_sub (n := 59) (by simpa only [PV.dat] using h))
theorem vop_eq : VOp X g (fun _ => eqV true) (rEqD X.K) := by
  intro ow env c σ H x y z v w raw Q st rx ry e k
  change eqV true x y = some z at e
  unfold eqV at e
  split at e
  · rename_i h
    cases e
    rw [Bool.and_eq_true] at h
    refine ⟨_, _, rx.dp h.1, ry.dp h.2, shaped_toD h.1, shaped_toD h.2, ?_⟩
    rw [eqv_toD 60 60 x y h.1 h.2]
    have q := end_here st k (.bl _)
    rw [beqT] at q
    exact q
  · cases e
theorem vop_ne : VOp X g (fun _ => eqV false) (rNeD X.K) := by
  intro ow env c σ H x y z v w raw Q st rx ry e k
  change eqV false x y = some z at e
  unfold eqV at e
  split at e
  · rename_i h
    cases e
    rw [Bool.and_eq_true] at h
    refine ⟨_, _, rx.dp h.1, ry.dp h.2, shaped_toD h.1, shaped_toD h.2, ?_⟩
    rw [eqv_toD 60 60 x y h.1 h.2]
    have q := end_here st k (.bl _)
    rw [beqF] at q
    exact q
  · cases e
theorem vop_cmp (f : Int → Int → Bool) : VOp X g (fun _ => cmpV f) (rI0 fun i j => .bl (f i j)) := by
  intro ow env c σ H x y z v w raw Q st rx ry e k
  change cmpV f x y = some z at e
  cases x <;> cases y <;> simp only [cmpV] at e <;> try cases e
  rw [rx.int, ry.int]
  exact ⟨_, _, rfl, rfl, end_here st k (.bl _)⟩
theorem RepM.isNon {ow : List Addr} {H : Hp} {raw : Bool} {x : PV} {v : V} (r : RepM X.K g raw ow H x v) : decide (v = .non) = x.isNon := by
  rcases r with r | ⟨_, a, vs, xs, rfl, rfl, _⟩
  · cases r <;> rfl
  · rfl
theorem vop_isN : VOp X g (fun _ => isV true) (fun x y H Q => y = .non ∧ Q (.bl (decide (x = .non))) H) := by
  intro ow env c σ H x y z v w raw Q st rx ry e k
  change isV true x y = some z at e
  cases y <;> simp only [isV] at e <;> try cases e
  refine ⟨ry.non, ?_⟩
  rw [rx.isNon]
  have q := end_here st k (.bl _)
  rw [beqT] at q
  exact q
theorem vop_notN : VOp X g (fun _ => isV false) (fun x y H Q => y = .non ∧ Q (.bl (!decide (x = .non))) H) := by
  intro ow env c σ H x y z v w raw Q st rx ry e k
  change isV false x y = some z at e
  cases y <;> simp only [isV] at e <;> try cases e
  refine ⟨ry.non, ?_⟩
  rw [rx.isNon]
  have q := end_here st k (.bl _)
  rw [beqF] at q
  exact q
end
end Cv

set_option Elab.async false
set_option linter.all false
set_option maxRecDepth 100000
/-! CvG: in, subscripts, built-ins of one argument, by values. -/
namespace PySem
section
variable {prog : Program} {w : World} {A : Around} {E : Value → Shared → Prop} {s : Shared} {l : Addr} {xs : Array (Int × Tok)}
theorem cv_old {h h' : Heap} {ob : Obj} (hk : ∀ b o, b ∉ [h.objs.size] → (h.push ob).get? b = some o → h'.get? b = some o) : ∀ b o, h.get? b = some o → h'.get? b = some o := fun b o e =>
  hk b o (fun hm => by
    rcases List.mem_cons.mp hm with e1 | hm
    · exact absurd (e1 ▸ Heap.lt_size e) (Nat.lt_irrefl _)
    · cases hm) (Heap.get?_push_of_some _ e)
theorem cv_iter_intTuple {Q : Value → Shared → Prop} (hl : s.heap.IsTuple l (intItems xs))
    (h : ∀ s₂ : Shared, s₂ = { s with heap := s.heap.push { cls := .type "tuple_iterator", data := .fields #[.ref l, .int 0 0] } } →
      (s₂.heap.IsTupleIter s.heap.objs.size l 0 ∧ s₂.heap.IsTuple l (intItems xs)) → (∀ b ∈ [s.heap.objs.size, l], b < s₂.heap.objs.size) → l ≠ s.heap.objs.size → Q (.ref s.heap.objs.size) s₂) :
    wpAny (model prog w) A (pyIter (.ref l)) Q E s := by
  have hlt : l < s.heap.objs.size := by obtain ⟨_, e, _⟩ := hl; exact Heap.lt_size e
  refine wpAny_pyIter_tuple hl (h _ rfl ⟨⟨_, Heap.get?_push_size _ rfl, rfl, rfl⟩, hl.push _⟩ (fun b hb => ?_) (Nat.ne_of_lt hlt))
  show b < (s.heap.push _).objs.size
  rw [Heap.size_push]
  rcases List.mem_cons.mp hb with rfl | hb
  · exact Nat.lt_succ_self _
  · rcases List.mem_cons.mp hb with rfl | hb
    · exact Nat.lt_succ_of_lt hlt
    · cases hb
theorem cv_sum_intTuple {Q : Value → Shared → Prop} (hh : A.handled = none) (hl : s.heap.IsTuple l (intItems xs))
    (h : ∀ h' tk t', (∀ b o, s.heap.get? b = some o → h'.get? b = some o) → Q (.int (preSum (numAt xs) xs.size) t') { s with heap := h', toks := tk }) :
    wpAny (model prog w) A (call (.builtin "sum") [.ref l]) Q E s := by
  refine call_sum_walkG (cv_iter_intTuple hl fun s₂ e st hfp hlI => ?_)
  subst e
  refine ⟨_, _, _, _, _, _, numAt xs, rfl, Walks.tuple (A := A.in1) hh _ l hlI (intItems xs), st, hfp, (fun _ _ => intItems_at), fun h' tk t' hk => ?_⟩
  have := h h' tk t' (cv_old hk)
  simpa [intItems] using this
theorem cv_max_intTuple {Q : Value → Shared → Prop} (hh : A.handled = none) (hl : s.heap.IsTuple l (intItems xs)) (hne : 0 < xs.size)
    (h : ∀ v h' tk, (intItems xs)[argBest (fun i j => decide (numAt xs i > numAt xs j)) (xs.size - 1)]? = some v → (∀ b o, s.heap.get? b = some o → h'.get? b = some o) → Q v { s with heap := h', toks := tk }) :
    wpAny (model prog w) A (call (.builtin "max") [.ref l]) Q E s := by
  refine call_max_walk (cv_iter_intTuple hl fun s₂ e st hfp hlI => ?_)
  subst e
  refine ⟨_, _, _, _, _, _, _, rfl, Walks.tuple (A := A.in1) hh _ l hlI (intItems xs), st, hfp, by simpa [intItems] using hne, CmpOf.ints_gt (numAt xs) (fun _ _ => intItems_at), fun v h' tk hP hk => ?_⟩
  exact h v h' tk (by simpa [intItems] using hP) (cv_old hk)
theorem cv_min_intTuple {Q : Value → Shared → Prop} (hh : A.handled = none) (hl : s.heap.IsTuple l (intItems xs)) (hne : 0 < xs.size)
    (h : ∀ v h' tk, (intItems xs)[argBest (fun i j => decide (numAt xs i < numAt xs j)) (xs.size - 1)]? = some v → (∀ b o, s.heap.get? b = some o → h'.get? b = some o) → Q v { s with heap := h', toks := tk }) :
    wpAny (model prog w) A (call (.builtin "min") [.ref l]) Q E s := by
  refine call_min_walk (cv_iter_intTuple hl fun s₂ e st hfp hlI => ?_)
  subst e
  refine ⟨_, _, _, _, _, _, _, rfl, Walks.tuple (A := A.in1) hh _ l hlI (intItems xs), st, hfp, by simpa [intItems] using hne, CmpOf.ints_lt (numAt xs) (fun _ _ => intItems_at), fun v h' tk hP hk => ?_⟩
  exact h v h' tk (by simpa [intItems] using hP) (cv_old hk)
end
end PySem
namespace L2
open PySem PySem.Spec PyProof.Rows
section
variable {prog : Program} {w : World} {A : Around} {E : Value → Shared → Prop} {s : Shared} {l : Addr} {its : List Value} {ns : List Int} {Q : Value → Shared → Prop}
theorem cv_sumT_raw (hh : A.handled = none) (hl : s.heap.IsTuple l its.toArray) (hi : IntsAre its ns)
    (h : ∀ h' tk t', (∀ b o, s.heap.get? b = some o → h'.get? b = some o) → Q (.int ns.sum t') { s with heap := h', toks := tk }) : wpAny (model prog w) A (call (.builtin "sum") [.ref l]) Q E s := by
  obtain ⟨xs, e⟩ := hi.allInts.items
  have hn : numsOf (intItems xs).toList = ns := by rw [← e]; exact hi.numsOf
  rw [nums_intItems] at hn
  rw [e] at hl
  refine PySem.cv_sum_intTuple hh hl fun h' tk t' hk => ?_
  have := h h' tk t' hk
  rw [preSum_eq, List.take_of_length_le (by simp), hn]; exact this
theorem cv_maxT_raw (hh : A.handled = none) (hl : s.heap.IsTuple l its.toArray) (hi : IntsAre its ns) (hne : 0 < ns.length)
    (h : ∀ h' tk M t', (∀ b o, s.heap.get? b = some o → h'.get? b = some o) → M ∈ ns → (∀ a, a ∈ ns → a ≤ M) → Q (.int M t') { s with heap := h', toks := tk }) : wpAny (model prog w) A (call (.builtin "max") [.ref l]) Q E s := by
  obtain ⟨xs, e⟩ := hi.allInts.items
  have hn : numsOf (intItems xs).toList = ns := by rw [← e]; exact hi.numsOf
  rw [nums_intItems] at hn
  subst hn
  rw [e] at hl
  have hsz : 0 < xs.size := by simpa using hne
  refine PySem.cv_max_intTuple hh hl hsz fun v h' tk hv hk => ?_
  obtain ⟨t, rfl⟩ := intItems_at hv
  obtain ⟨h1, h2⟩ := argBest_gt (numAt xs) (xs.size - 1)
  refine h h' tk _ t hk ?_ fun a ha => ?_
  · rw [numAt_eq]; exact PySem.getD_mem (by rw [List.length_map, Array.length_toList]; omega)
  · obtain ⟨j, hj, rfl⟩ := mem_getD ha
    rw [List.length_map, Array.length_toList] at hj
    rw [← numAt_eq]; exact h2 j (by omega)
theorem cv_minT_raw (hh : A.handled = none) (hl : s.heap.IsTuple l its.toArray) (hi : IntsAre its ns) (hne : 0 < ns.length)
    (h : ∀ h' tk M t', (∀ b o, s.heap.get? b = some o → h'.get? b = some o) → M ∈ ns → (∀ a, a ∈ ns → M ≤ a) → Q (.int M t') { s with heap := h', toks := tk }) : wpAny (model prog w) A (call (.builtin "min") [.ref l]) Q E s := by
  obtain ⟨xs, e⟩ := hi.allInts.items
  have hn : numsOf (intItems xs).toList = ns := by rw [← e]; exact hi.numsOf
  rw [nums_intItems] at hn
  subst hn
  rw [e] at hl
  have hsz : 0 < xs.size := by simpa using hne
  refine PySem.cv_min_intTuple hh hl hsz fun v h' tk hv hk => ?_
  obtain ⟨t, rfl⟩ := intItems_at hv
  obtain ⟨h1, h2⟩ := argBest_lt (numAt xs) (xs.size - 1)
  refine h h' tk _ t hk ?_ fun a ha => ?_
  · rw [numAt_eq]; exact PySem.getD_mem (by rw [List.length_map, Array.length_toList]; omega)
  · obtain ⟨j, hj, rfl⟩ := mem_getD ha
    rw [List.length_map, Array.length_toList] at hj
    rw [← numAt_eq]; exact h2 j (by omega)
end
section
variable {X : Cx}
def rSumT (K : PySem.W.Frag) : List V → Hp → VK → Prop := fun vs H Q => ∃ (a : Addr) (ns : List Int), vs = [V.ref a] ∧ SqT K H a (ns.map V.int) ∧ Q (.int ns.sum) H
def rMaxT (K : PySem.W.Frag) : List V → Hp → VK → Prop := fun vs H Q => ∃ (a : Addr) (ns : List Int), vs = [V.ref a] ∧ SqT K H a (ns.map V.int) ∧ 0 < ns.length ∧ ∀ m, m ∈ ns → (∀ y, y ∈ ns → y ≤ m) → Q (.int m) H
def rMinT (K : PySem.W.Frag) : List V → Hp → VK → Prop := fun vs H Q => ∃ (a : Addr) (ns : List Int), vs = [V.ref a] ∧ SqT K H a (ns.map V.int) ∧ 0 < ns.length ∧ ∀ m, m ∈ ns → (∀ y, y ∈ ns → m ≤ y) → Q (.int m) H
theorem cr_sumT (hc : X.calm = true) : CallR X (.builtin "sum") (rSumT X.K) := by
  intro pins s σ H vs us Q I r h
  obtain ⟨a, ns, rfl, hs, q⟩ := h
  obtain ⟨its, rv, hl, _⟩ := I.tuple hs
  rw [Vals.ref1 r]
  exact cv_sumT_raw (I.ok.hd hc) hl rv.ints fun h' tk t' hk => ⟨.int _, H, I.kept hk, ⟨_, rfl⟩, q⟩
theorem cr_maxT (hc : X.calm = true) : CallR X (.builtin "max") (rMaxT X.K) := by
  intro pins s σ H vs us Q I r h
  obtain ⟨a, ns, rfl, hs, hne, q⟩ := h
  obtain ⟨its, rv, hl, _⟩ := I.tuple hs
  rw [Vals.ref1 r]
  exact cv_maxT_raw (I.ok.hd hc) hl rv.ints hne fun h' tk m t' hk h1 h2 => ⟨.int _, H, I.kept hk, ⟨_, rfl⟩, q m h1 h2⟩
theorem cr_minT (hc : X.calm = true) : CallR X (.builtin "min") (rMinT X.K) := by
  intro pins s σ H vs us Q I r h
  obtain ⟨a, ns, rfl, hs, hne, q⟩ := h
  obtain ⟨its, rv, hl, _⟩ := I.tuple hs
  rw [Vals.ref1 r]
  exact cv_minT_raw (I.ok.hd hc) hl rv.ints hne fun h' tk m t' hk h1 h2 => ⟨.int _, H, I.kept hk, ⟨_, rfl⟩, q m h1 h2⟩
/-- x in t, t a tuple of data -/
def rInDT (K : PySem.W.Frag) : R2 := fun x y H Q => ∃ d ds, Dp K H x d ∧ Dp K H y (.tuple ds) ∧ SeqAt.shaped d = true ∧ SeqAt.shaped (.tuple ds) = true ∧ Q (.bl (ds.any fun z => PyData.eqv z d)) H
def rNotInDT (K : PySem.W.Frag) : R2 := fun x y H Q => ∃ d ds, Dp K H x d ∧ Dp K H y (.tuple ds) ∧ SeqAt.shaped d = true ∧ SeqAt.shaped (.tuple ds) = true ∧ Q (.bl (!ds.any fun z => PyData.eqv z d)) H
theorem op_inDT (hu : X.A.units + 65 < cLine) : OpR X (compareOp .In) (rInDT X.K) := by
  intro pins s σ H x y v u Q I rx ry h
  obtain ⟨d, ds, hd, he, sd, se, q⟩ := h
  obtain ⟨as, r1⟩ := Dp.reads I d x v hd rx
  obtain ⟨bs, r2⟩ := Dp.reads I (.tuple ds) y u he ry
  exact SeqAt.in_tuple_reads r2 r1 (SeqAt.canLay_of_shaped se) (SeqAt.canLay_of_shaped sd) (room_in_shaped sd hu) ⟨.bl _, H, I, rfl, q⟩
theorem op_notInDT (hu : X.A.units + 65 < cLine) : OpR X (compareOp .NotIn) (rNotInDT X.K) := by
  intro pins s σ H x y v u Q I rx ry h
  obtain ⟨d, ds, hd, he, sd, se, q⟩ := h
  obtain ⟨as, r1⟩ := Dp.reads I d x v hd rx
  obtain ⟨bs, r2⟩ := Dp.reads I (.tuple ds) y u he ry
  exact SeqAt.notIn_tuple_reads r2 r1 (SeqAt.canLay_of_shaped se) (SeqAt.canLay_of_shaped sd) (room_in_shaped sd hu) ⟨.bl _, H, I, rfl, q⟩
end
end L2
namespace Cv
open PySem PySem.Spec PyProof.Rows L2
section
variable {X : Cx} {g : GI} {E : XK}
theorem isin_any (x : PV) : ∀ ys : List PV, PV.isin x ys = ys.any fun y => PV.eqv y x
  | [] => rfl
  | y :: ys => by
    show (PV.eqv y x || PV.isin x ys) = _
    rw [isin_any x ys, List.any_cons]
theorem any_toD {x : PV} (hx : PV.dat 60 x = true) : ∀ ys : List PV, PV.dats 60 ys = true → ((PV.toDs ys).any fun z => PyData.eqv z (PV.toD x)) = PV.isin x ys
  | [], _ => rfl
  | y :: ys, h => by
    simp only [PV.dats, Bool.and_eq_true] at h
    simp only [PV.toDs, List.any_cons]
    rw [any_toD hx ys h.2, eqv_toD 60 60 y x h.1 hx]
    rfl
theorem toDs_eq : ∀ ys : List PV, PV.toDs ys = ys.map PV.toD
  | [] => rfl
  | y :: ys => by simp only [PV.toDs, List.map_cons, toDs_eq ys]
theorem shaped_tup {ys : List PV} (h : PV.dats 60 ys = true) : SeqAt.shaped (.tuple (PV.toDs ys)) = true := by
  obtain ⟨h1, h2⟩ := lays_toD 60 ys h
  have e1 : (PyData.tuple (PV.toDs ys)).canLay0 = true := by simp only [PyData.canLay0]; exact h1
  have e2 : (PyData.tuple (PV.toDs ys)).depth ≤ 64 := by simp only [PyData.depth]; omega
  unfold SeqAt.shaped
  rw [e1, decide_eq_true e2]
  rfl
theorem shaped_lst {ys : List PV} (h : PV.dats 60 ys = true) : SeqAt.shaped (.list (PV.toDs ys)) = true := by
  obtain ⟨h1, h2⟩ := lays_toD 60 ys h
  have e1 : (PyData.list (PV.toDs ys)).canLay0 = true := by simp only [PyData.canLay0]; exact h1
  have e2 : (PyData.list (PV.toDs ys)).depth ≤ 64 := by simp only [PyData.depth]; omega
  unfold SeqAt.shaped
  rw [e1, decide_eq_true e2]
  rfl
theorem vop_in : VOp X g (fun _ => inV true) (fun x y H Q => rInD X.K x y H Q ∨ rInDT X.K x y H Q) := by
  intro ow env c σ H x y z v w raw Q st rx ry e k
  change inV true x y = some z at e
  cases y <;> simp only [inV] at e <;> try cases e
  · rename_i ys
    split at e
    · rename_i h
      cases e
      rw [Bool.and_eq_true] at h
      obtain ⟨a, vs, rfl, ha, _, r1⟩ := ry.tup
      refine .inr ⟨_, _, rx.dp h.1, .tup ha (r1.dp fz_sub h.2), shaped_toD h.1, shaped_tup h.2, ?_⟩
      rw [any_toD h.1 ys h.2]
      have q := end_here st k (.bl _)
      rw [beqT] at q
      exact q
    · cases e
  · rename_i ys
    split at e
    · rename_i h
      cases e
      rw [Bool.and_eq_true] at h
      obtain ⟨a, vs, rfl, ha, r1⟩ := ry.lst
      refine .inl ⟨_, _, rx.dp h.1, .lst (SqL.of ha) (r1.dp fz_sub h.2), shaped_toD h.1, shaped_lst h.2, ?_⟩
      rw [any_toD h.1 ys h.2]
      have q := end_here st k (.bl _)
      rw [beqT] at q
      exact q
    · cases e
theorem vop_notin : VOp X g (fun _ => inV false) (fun x y H Q => rNotInD X.K x y H Q ∨ rNotInDT X.K x y H Q) := by
  intro ow env c σ H x y z v w raw Q st rx ry e k
  change inV false x y = some z at e
  cases y <;> simp only [inV] at e <;> try cases e
  · rename_i ys
    split at e
    · rename_i h
      cases e
      rw [Bool.and_eq_true] at h
      obtain ⟨a, vs, rfl, ha, _, r1⟩ := ry.tup
      refine .inr ⟨_, _, rx.dp h.1, .tup ha (r1.dp fz_sub h.2), shaped_toD h.1, shaped_tup h.2, ?_⟩
      rw [any_toD h.1 ys h.2]
      have q := end_here st k (.bl _)
      rw [beqF] at q
      exact q
    · cases e
  · rename_i ys
    split at e
    · rename_i h
      cases e
      rw [Bool.and_eq_true] at h
      obtain ⟨a, vs, rfl, ha, r1⟩ := ry.lst
      refine .inl ⟨_, _, rx.dp h.1, .lst (SqL.of ha) (r1.dp fz_sub h.2), shaped_toD h.1, shaped_lst h.2, ?_⟩
      rw [any_toD h.1 ys h.2]
      have q := end_here st k (.bl _)
      rw [beqF] at q
      exact q
    · cases e
theorem atIx_atI {α : Type} (xs : List α) (i : Int) : atIx xs i = atI xs i := by
  unfold atIx atI ixN
  split
  · split <;> rfl
  · split <;> rfl
theorem Reps.at {K : PySem.W.Frag} {G : Hp} {xs : List PV} {vs : List V} {i : Int} {z : PV} (r : Reps K g G xs vs) (e : atIx xs i = some z) : ∃ v, atI vs i = some v ∧ Rep K g G z v := by
  rw [atIx_atI] at e
  unfold atI at e ⊢
  rw [← r.length]
  cases q : ixN xs.length i with
  | none => rw [q] at e; cases e
  | some j =>
    rw [q] at e
    exact r.get e
theorem ix_vop : VOp X g ixV (rIx X.K) := by
  intro ow env c σ H x y z v w raw Q st rx ry e k
  cases x <;> cases y <;> simp only [ixV] at e <;> try cases e
  · rename_i s i
    split at e
    · rename_i hz
      rw [rx.str, ry.int]
      rw [atIx_atI] at e
      cases q : atI s i with
      | none => rw [q] at e; cases e
      | some n =>
        rw [q] at e
        cases e
        refine .inr (.inr ⟨_, i, n, rfl, rfl, by rw [str_len, ← big_eq]; exact hz, ?_, end_here st k (.str [n])⟩)
        simpa using q
    · cases e
  · obtain ⟨a, vs, rfl, ha, _, r1⟩ := rx.tup
    rw [ry.int]
    obtain ⟨u, h1, h2⟩ := r1.at e
    exact .inr (.inl ⟨a, vs, _, u, rfl, rfl, ha, h1, end_here st k h2⟩)
  · obtain ⟨a, vs, rfl, ha, r1⟩ := rx.lst
    rw [ry.int]
    obtain ⟨u, h1, h2⟩ := r1.at e
    exact .inl ⟨a, vs, _, u, rfl, rfl, SqL.of ha, h1, end_here st k h2⟩
  · rw [rx.cup, ry.int]
    obtain ⟨u, h1, h2⟩ := Reps.at (K := X.K) (g := g) (G := fz g ow H) (vs := [.int c.1, .int c.2]) (.cons (.int _) (.cons (.int _) .nil)) e
    exact .inl ⟨g.c, _, _, u, rfl, rfl, SqL.of st.hs.1, h1, end_here st k h2⟩
end
end Cv

set_option Elab.async false
set_option linter.all false
set_option maxRecDepth 100000
/-! CvH: built-ins of one argument, truth, slices, by values. -/
namespace Cv
open PySem PySem.Spec PyProof.Rows L2
section
variable {X : Cx} {g : GI} {E : XK}
/-- a call of a built-in of one argument by values -/
def VUn (X : Cx) (g : GI) (fv : PV → Option PV) (r : List V → Hp → VK → Prop) : Prop :=
  ∀ {ow : List Addr} {env : Cv.Env} {c : Cup} {σ : L2.St} {H : Hp} {x z : PV} {v : V} {raw : Bool} {Q : VK}, StR X.K g ow env c σ H → RepM X.K g true ow H x v →
    fv x = some z → (∀ H', Kp g H H' → Hs g c H' → ∀ v, RepM X.K g raw ow H' z v → Q v H') → r [v] H Q
theorem un_len : VUn X g lenV (fun xs H Q => ∃ x n, xs = [x] ∧ LenV X.K x H n ∧ Q (.int n) H) := by
  intro ow env c σ H x z v raw Q st rx e k
  cases x <;> simp only [lenV] at e <;> try cases e
  · rename_i s
    split at e
    · rename_i hz
      cases e
      rw [rx.str]
      exact ⟨_, s.length, rfl, ⟨by rw [str_len, ← big_eq]; exact hz, (str_len s).symm⟩, end_here st k (.int _)⟩
    · cases e
  · obtain ⟨a, vs, rfl, ha, _, r1⟩ := rx.tup
    exact ⟨_, _, rfl, .inr ⟨vs, ha, r1.length⟩, end_here st k (.int _)⟩
  · obtain ⟨a, vs, rfl, ha, r1⟩ := rx.lst
    exact ⟨_, _, rfl, .inl ⟨vs, SqL.of ha, r1.length⟩, end_here st k (.int _)⟩
theorem un_toTup : VUn X g toTupV (fun xs H Q => ∃ p ys, xs = [.ref p] ∧ ((SqL X.K H p ys ∧ ∀ l, H l = none → Q (.ref l) (upd H l (.tup ys))) ∨ (SqT X.K H p ys ∧ Q (.ref p) H))) := by
  intro ow env c σ H x z v raw Q st rx e k
  cases x <;> simp only [toTupV] at e <;> try cases e
  · obtain ⟨a, vs, rfl, ha, ha', r1⟩ := rx.tup
    exact ⟨_, _, rfl, .inr ⟨ha, end_here st k (.tup ha' r1)⟩⟩
  · obtain ⟨a, vs, rfl, ha, r1⟩ := rx.lst
    exact ⟨_, _, rfl, .inl ⟨SqL.of ha, end_tup st r1 k⟩⟩
theorem un_toLst : VUn X g toLstV (fun xs H Q => ∃ p ys, xs = [.ref p] ∧ (SqL X.K H p ys ∨ SqT X.K H p ys) ∧ ∀ l, H l = none → Q (.ref l) (upd H l (.lst ys))) := by
  intro ow env c σ H x z v raw Q st rx e k
  cases x <;> simp only [toLstV] at e <;> try cases e
  · obtain ⟨a, vs, rfl, ha, ha', r1⟩ := rx.tup
    exact ⟨_, _, rfl, .inr ha, end_lst st r1 k⟩
  · obtain ⟨a, vs, rfl, ha, r1⟩ := rx.lst
    exact ⟨_, _, rfl, .inl (SqL.of ha), end_lst st r1 k⟩
theorem reps_ints {K : PySem.W.Frag} {G : Hp} : ∀ {xs : List PV} {vs : List V} {ns : List Int}, Reps K g G xs vs → intL xs = some ns → vs = ns.map V.int
  | _, _, ns, .nil, e => by
    have e : some [] = some ns := e
    cases e
    rfl
  | x :: xs, _, ns, .cons h r, e => by
    cases x <;> simp only [intL] at e <;> try cases e
    rename_i i
    cases q : intL xs with
    | none => rw [q] at e; cases e
    | some l =>
      rw [q] at e
      cases e
      cases h
      rw [reps_ints r q]
      rfl
theorem reps_bools {K : PySem.W.Frag} {G : Hp} : ∀ {xs : List PV} {vs : List V} {ns : List Bool}, Reps K g G xs vs → boolL xs = some ns → vs = ns.map V.bl
  | _, _, ns, .nil, e => by
    have e : some [] = some ns := e
    cases e
    rfl
  | x :: xs, _, ns, .cons h r, e => by
    cases x <;> simp only [boolL] at e <;> try cases e
    rename_i i
    cases q : boolL xs with
    | none => rw [q] at e; cases e
    | some l =>
      rw [q] at e
      cases e
      cases h
      rw [reps_bools r q]
      rfl
theorem sumI_eq : ∀ l : List Int, sumI l = l.sum
  | [] => rfl
  | x :: xs => by
    show x + sumI xs = _
    rw [sumI_eq xs, List.sum_cons]
theorem minI_spec : ∀ (l : List Int) (m : Int), (minI m l = m ∨ minI m l ∈ l) ∧ minI m l ≤ m ∧ ∀ y ∈ l, minI m l ≤ y
  | [], m => ⟨.inl rfl, Int.le_refl _, fun y h => by cases h⟩
  | x :: xs, m => by
    obtain ⟨h1, h2, h3⟩ := minI_spec xs (if x < m then x else m)
    show (minI (if x < m then x else m) xs = m ∨ minI (if x < m then x else m) xs ∈ x :: xs) ∧ minI (if x < m then x else m) xs ≤ m ∧ ∀ y ∈ x :: xs, minI (if x < m then x else m) xs ≤ y
    refine ⟨?_, ?_, fun y hy => ?_⟩
    · rcases h1 with h1 | h1
      · rw [h1]
        split
        · exact .inr (List.mem_cons_self ..)
        · exact .inl rfl
      · exact .inr (List.mem_cons_of_mem _ h1)
    · split at h2 <;> (split <;> omega)
    · rcases List.mem_cons.mp hy with rfl | hy
      · split at h2 <;> (split <;> omega)
      · exact h3 y hy
theorem maxI_spec : ∀ (l : List Int) (m : Int), (maxI m l = m ∨ maxI m l ∈ l) ∧ m ≤ maxI m l ∧ ∀ y ∈ l, y ≤ maxI m l
  | [], m => ⟨.inl rfl, Int.le_refl _, fun y h => by cases h⟩
  | x :: xs, m => by
    obtain ⟨h1, h2, h3⟩ := maxI_spec xs (if m < x then x else m)
    show (maxI (if m < x then x else m) xs = m ∨ maxI (if m < x then x else m) xs ∈ x :: xs) ∧ m ≤ maxI (if m < x then x else m) xs ∧ ∀ y ∈ x :: xs, y ≤ maxI (if m < x then x else m) xs
    refine ⟨?_, ?_, fun y hy => ?_⟩
    · rcases h1 with h1 | h1
      · rw [h1]
        split
        · exact .inr (List.mem_cons_self ..)
        · exact .inl rfl
      · exact .inr (List.mem_cons_of_mem _ h1)
    · split at h2 <;> (split <;> omega)
    · rcases List.mem_cons.mp hy with rfl | hy
      · split at h2 <;> (split <;> omega)
      · exact h3 y hy
theorem seqI_of {ow : List Addr} {H : Hp} {x : PV} {v : V} {ns : List Int} (rx : RepM X.K g true ow H x v) (e : seqI x = some ns) : ∃ a, v = .ref a ∧ (SqL X.K H a (ns.map V.int) ∨ SqT X.K H a (ns.map V.int)) := by
  cases x <;> simp only [seqI] at e <;> try cases e
  · obtain ⟨a, vs, rfl, ha, _, r1⟩ := rx.tup
    exact ⟨a, rfl, .inr (reps_ints r1 e ▸ ha)⟩
  · obtain ⟨a, vs, rfl, ha, r1⟩ := rx.lst
    exact ⟨a, rfl, .inl (reps_ints r1 e ▸ SqL.of ha)⟩
theorem un_sum : VUn X g sumV (fun xs H Q => rSum X.K xs H Q ∨ rSumT X.K xs H Q) := by
  intro ow env c σ H x z v raw Q st rx e k
  unfold sumV at e
  cases q : seqI x with
  | none => rw [q] at e; cases e
  | some ns =>
    rw [q] at e
    cases e
    have k : ∀ H', Kp g H H' → Hs g c H' → ∀ v, RepM X.K g raw ow H' (.int ns.sum) v → Q v H' := by
      rw [← sumI_eq]
      exact k
    obtain ⟨a, rfl, h | h⟩ := seqI_of rx q
    · exact .inl ⟨a, ns, rfl, h, end_here st k (.int _)⟩
    · exact .inr ⟨a, ns, rfl, h, end_here st k (.int _)⟩
theorem un_min : VUn X g minV (fun xs H Q => rMin X.K xs H Q ∨ rMinT X.K xs H Q) := by
  intro ow env c σ H x z v raw Q st rx e k
  unfold minV at e
  cases q : seqI x with
  | none => rw [q] at e; cases e
  | some ns =>
    rw [q] at e
    cases ns with
    | nil => cases e
    | cons n ns =>
      cases e
      obtain ⟨h1, h2, h3⟩ := minI_spec ns n
      have fin : ∀ m, m ∈ n :: ns → (∀ y, y ∈ n :: ns → m ≤ y) → Q (.int m) H := fun m hm hle => by
        have e1 : m ≤ minI n ns := by
          rcases h1 with h1 | h1
          · rw [h1]; exact hle n (List.mem_cons_self ..)
          · exact hle _ (List.mem_cons_of_mem _ h1)
        have e2 : minI n ns ≤ m := by
          rcases List.mem_cons.mp hm with rfl | hm
          · exact h2
          · exact h3 m hm
        have e3 : m = minI n ns := Int.le_antisymm e1 e2
        rw [e3]
        exact end_here st k (.int _)
      obtain ⟨a, rfl, h | h⟩ := seqI_of rx q
      · exact .inl ⟨a, _, rfl, h, by simp, fin⟩
      · exact .inr ⟨a, _, rfl, h, by simp, fin⟩
theorem un_max : VUn X g maxV (fun xs H Q => rMax X.K xs H Q ∨ rMaxT X.K xs H Q) := by
  intro ow env c σ H x z v raw Q st rx e k
  unfold maxV at e
  cases q : seqI x with
  | none => rw [q] at e; cases e
  | some ns =>
    rw [q] at e
    cases ns with
    | nil => cases e
    | cons n ns =>
      cases e
      obtain ⟨h1, h2, h3⟩ := maxI_spec ns n
      have fin : ∀ m, m ∈ n :: ns → (∀ y, y ∈ n :: ns → y ≤ m) → Q (.int m) H := fun m hm hle => by
        have e1 : maxI n ns ≤ m := by
          rcases h1 with h1 | h1
          · rw [h1]; exact hle n (List.mem_cons_self ..)
          · exact hle _ (List.mem_cons_of_mem _ h1)
        have e2 : m ≤ maxI n ns := by
          rcases List.mem_cons.mp hm with rfl | hm
          · exact h2
          · exact h3 m hm
        have e3 : m = maxI n ns := Int.le_antisymm e2 e1
        rw [e3]
        exact end_here st k (.int _)
      obtain ⟨a, rfl, h | h⟩ := seqI_of rx q
      · exact .inl ⟨a, _, rfl, h, by simp, fin⟩
      · exact .inr ⟨a, _, rfl, h, by simp, fin⟩
theorem un_abs : VUn X g absV (fun xs H Q => ∃ i, xs = [.int i] ∧ Q (.int (if i < 0 then -i else i)) H) := by
  intro ow env c σ H x z v raw Q st rx e k
  cases x <;> simp only [absV] at e <;> try cases e
  rw [rx.int]
  exact ⟨_, rfl, end_here st k (.int _)⟩
theorem un_toInt : VUn X g toIntV (fun xs H Q => (∃ i, xs = [.int i] ∧ Q (.int i) H) ∨ ∃ k, xs = [.bl k] ∧ Q (.int (if k then 1 else 0)) H) := by
  intro ow env c σ H x z v raw Q st rx e k
  cases x <;> simp only [toIntV] at e <;> try cases e
  · rw [rx.bl]
    exact .inr ⟨_, rfl, end_here st k (.int _)⟩
  · rw [rx.int]
    exact .inl ⟨_, rfl, end_here st k (.int _)⟩
theorem un_all : VUn X g allV (rAll X.K) := by
  intro ow env c σ H x z v raw Q st rx e k
  cases x <;> simp only [allV] at e <;> try cases e
  rename_i xs
  cases q : boolL xs with
  | none => rw [q] at e; cases e
  | some bs =>
    rw [q] at e
    cases e
    obtain ⟨a, vs, rfl, ha, r1⟩ := rx.lst
    exact ⟨a, bs, rfl, reps_bools r1 q ▸ SqL.of ha, end_here st k (.bl _)⟩
theorem un_any : VUn X g anyV (rAny X.K) := by
  intro ow env c σ H x z v raw Q st rx e k
  cases x <;> simp only [anyV] at e <;> try cases e
  rename_i xs
  cases q : boolL xs with
  | none => rw [q] at e; cases e
  | some bs =>
    rw [q] at e
    cases e
    obtain ⟨a, vs, rfl, ha, r1⟩ := rx.lst
    exact ⟨a, bs, rfl, reps_bools r1 q ▸ SqL.of ha, end_here st k (.bl _)⟩
/-- truth -/
theorem tru_of {ow : List Addr} {H : Hp} {x : PV} {v : V} {k : Bool} {raw : Bool} (rx : RepM X.K g raw ow H x v) (e : x.tru = some k) : TruV X.K v H k := by
  cases x <;> simp only [PV.tru] at e <;> try cases e
  · rw [rx.non]; rfl
  · rw [rx.bl]; rfl
  · rw [rx.int]
    show _ = _
    rw [bne, Bool.beq_eq_decide_eq]
    simp
  · rename_i s
    split at e
    · rename_i hz
      cases e
      rw [rx.str]
      refine ⟨by rw [str_len, ← big_eq]; exact hz, ?_⟩
      rw [str_len]
      cases s with
      | nil => rfl
      | cons a b =>
        show true = (((b.length + 1 : Nat) : Int) != 0)
        rw [bne, Bool.beq_eq_decide_eq, decide_eq_false (by omega)]
        rfl
    · cases e
  · obtain ⟨a, vs, rfl, ha, _, r1⟩ := rx.tup
    refine .inr (.inl ⟨vs, ha, ?_⟩)
    cases r1 <;> rfl
  · obtain ⟨a, vs, rfl, ha, r1⟩ := rx.lst
    refine .inl ⟨vs, SqL.of ha, ?_⟩
    cases r1 <;> rfl
/-- isinstance -/
def tyS : Nat → String
  | 0 => "int"
  | 1 => "bool"
  | 2 => "str"
  | 3 => "tuple"
  | _ => "list"
theorem isT_of {ow : List Addr} {H : Hp} {x : PV} {v : V} {b : Bool} {t : Nat} {raw : Bool} (ht : t < 5) (rx : RepM X.K g raw ow H x v) (e : x.isT t = some b) : ∃ T, TyX X.K H v (.type T) ∧ PySem.W.kitOne X.K (.type T) (.type (tyS t)) = some b := by
  have key : ∀ T : String, ∀ s : Nat, s < 5 → (T = "NoneType" ∨ T = "bool" ∨ T = "int" ∨ T = "str" ∨ T = "tuple" ∨ T = "list") →
      kitB T (tyS s) = some (decide (T = tyS s) || (decide (T = "bool") && decide (s = 0))) := by
    intro T s hs hT
    match s, hs with
    | 0, _ => rcases hT with rfl | rfl | rfl | rfl | rfl | rfl <;> decide +kernel
    | 1, _ => rcases hT with rfl | rfl | rfl | rfl | rfl | rfl <;> decide +kernel
    | 2, _ => rcases hT with rfl | rfl | rfl | rfl | rfl | rfl <;> decide +kernel
    | 3, _ => rcases hT with rfl | rfl | rfl | rfl | rfl | rfl <;> decide +kernel
    | 4, _ => rcases hT with rfl | rfl | rfl | rfl | rfl | rfl <;> decide +kernel
  have go : ∀ T : String, (T = "NoneType" ∨ T = "bool" ∨ T = "int" ∨ T = "str" ∨ T = "tuple" ∨ T = "list") → b = (decide (T = tyS t) || (decide (T = "bool") && decide (t = 0))) → PySem.W.kitOne X.K (.type T) (.type (tyS t)) = some b := fun T hT hb => by
    rw [hb]
    exact kit_ty (key T t ht hT)
  cases x with
  | non =>
    rw [rx.non]
    refine ⟨_, .base .non, go _ (.inl rfl) ?_⟩
    match t, ht, e with
    | 0, _, e => cases e; decide
    | 1, _, e => cases e; decide
    | 2, _, e => cases e; decide
    | 3, _, e => cases e; decide
    | 4, _, e => cases e; decide
  | bl y =>
    rw [rx.bl]
    refine ⟨_, .base (.bl _), go _ (.inr (.inl rfl)) ?_⟩
    match t, ht, e with
    | 0, _, e => cases e; decide
    | 1, _, e => cases e; decide
    | 2, _, e => cases e; decide
    | 3, _, e => cases e; decide
    | 4, _, e => cases e; decide
  | int y =>
    rw [rx.int]
    refine ⟨_, .base (.int _), go _ (.inr (.inr (.inl rfl))) ?_⟩
    match t, ht, e with
    | 0, _, e => cases e; decide
    | 1, _, e => cases e; decide
    | 2, _, e => cases e; decide
    | 3, _, e => cases e; decide
    | 4, _, e => cases e; decide
  | str y =>
    rw [rx.str]
    refine ⟨_, .base (.str _), go _ (.inr (.inr (.inr (.inl rfl)))) ?_⟩
    match t, ht, e with
    | 0, _, e => cases e; decide
    | 1, _, e => cases e; decide
    | 2, _, e => cases e; decide
    | 3, _, e => cases e; decide
    | 4, _, e => cases e; decide
  | tup y =>
    obtain ⟨a, vs, rfl, ha, _, r1⟩ := rx.tup
    have ty : TyX X.K H (.ref a) (.type "tuple") := by
      rcases ha with (h | ⟨o, h⟩) | ⟨o, its, n, h1, h2, _⟩
      · exact .base (.tup h)
      · exact .fTuple h
      · exact .kTuple h1 h2
    refine ⟨_, ty, go _ (.inr (.inr (.inr (.inr (.inl rfl))))) ?_⟩
    match t, ht, e with
    | 0, _, e => cases e; decide
    | 1, _, e => cases e; decide
    | 2, _, e => cases e; decide
    | 3, _, e => cases e; decide
    | 4, _, e => cases e; decide
  | lst y =>
    obtain ⟨a, vs, rfl, ha, r1⟩ := rx.lst
    refine ⟨_, .base (.lst ha), go _ (.inr (.inr (.inr (.inr (.inr rfl))))) ?_⟩
    match t, ht, e with
    | 0, _, e => cases e; decide
    | 1, _, e => cases e; decide
    | 2, _, e => cases e; decide
    | 3, _, e => cases e; decide
    | 4, _, e => cases e; decide
  | fn i =>
    match t, ht, e with
    | 0, _, e => cases e
    | 1, _, e => cases e
    | 2, _, e => cases e
    | 3, _, e => cases e
    | 4, _, e => cases e
  | cup =>
    match t, ht, e with
    | 0, _, e => cases e
    | 1, _, e => cases e
    | 2, _, e => cases e
    | 3, _, e => cases e
    | 4, _, e => cases e
/-- slices -/
theorem sIx_cutIx (n d : Nat) (o : Option Int) : HT.sIx n d o = cutIx n d o := by
  cases o with
  | none => rfl
  | some i =>
    unfold HT.sIx cutIx
    first
      | rfl
      | (simp only []
         split <;> (split <;> omega))
      | (split <;> omega)
theorem cut_eq {α : Type} (xs : List α) (lo hi : Option Int) : cut xs lo hi = (xs.drop (HT.sIx xs.length 0 lo)).take (HT.sIx xs.length xs.length hi - HT.sIx xs.length 0 lo) := by
  rw [sIx_cutIx, sIx_cutIx]
  rfl
theorem Reps.cut {K : PySem.W.Frag} {G : Hp} {xs : List PV} {vs : List V} (r : Reps K g G xs vs) (lo hi : Option Int) : Reps K g G (Cv.cut xs lo hi) (cutV vs lo hi) := by
  rw [cut_eq]
  unfold cutV
  rw [← r.length]
  exact (r.drop _).take _
def VSl (X : Cx) (g : GI) (r : V → Option Int → Option Int → Hp → VK → Prop) : Prop :=
  ∀ {ow : List Addr} {env : Cv.Env} {c : Cup} {σ : L2.St} {H : Hp} {x z : PV} {v : V} {raw : Bool} {lo hi : Option Int} {Q : VK}, StR X.K g ow env c σ H → RepM X.K g true ow H x v →
    slcV x lo hi = some z → (∀ H', Kp g H H' → Hs g c H' → ∀ v, RepM X.K g raw ow H' z v → Q v H') → r v lo hi H Q
theorem slc_ok : VSl X g (fun x lo hi H Q => rSlA X.K x lo hi H Q ∨ rSlL X.K x lo hi H Q ∨ rSlS x lo hi H Q) := by
  intro ow env c σ H x z v raw lo hi Q st rx e k
  cases x <;> simp only [slcV] at e <;> try cases e
  · rename_i s
    split at e
    · rename_i hz
      cases e
      rw [rx.str]
      refine .inr (.inr ⟨_, rfl, by rw [str_len, ← big_eq]; exact hz, ?_⟩)
      have q := end_here st k (.str _)
      rw [cut_eq] at q
      unfold cutS
      simpa [str_len] using q
    · cases e
  · rename_i xs
    obtain ⟨a, vs, rfl, ha, ha', r1⟩ := rx.tup
    refine .inl ⟨a, vs, rfl, ha, fun q => ?_, fun _ => end_tup st (r1.cut lo hi) k⟩
    have e1 : Cv.cut xs lo hi = xs := by
      rw [cut_eq, r1.length, q.1, q.2]
      simp [← r1.length]
    rw [e1] at k
    exact end_here st k (.tup ha' r1)
  · obtain ⟨a, vs, rfl, ha, r1⟩ := rx.lst
    exact .inr (.inl ⟨a, vs, rfl, SqL.of ha, end_lst st (r1.cut lo hi) k⟩)
end
end Cv

set_option Elab.async false
set_option linter.all false
set_option maxRecDepth 100000
/-! CvI: contexts; expressions by their parts. -/
namespace Cv
open PySem PySem.Spec PyProof.Rows L2

/-- what a def promises: the evaluator's end -/
def spF (K : PySem.W.Frag) (g : GI) (cf : List PV → M PV) (n : Nat) : Sp := fun vs H Q E => vs.length = n ∧ ∃ ow xs c, g.c ∉ ow ∧ (∀ a ∈ ow, ∃ vs, H a = some (.lst vs)) ∧ Hs g c H ∧ Reps K g (fz g ow H) xs vs ∧
  Out g E H (cf xs c) fun r _ H' => ∀ v, Rep K g (fz g ow H') r v → Q v H'
def CallOk (X : Cx) (g : GI) (cf : List PV → M PV) (i : Nat) : Prop :=
  ∃ (k : Nat) (fd : FuncData) (ps : List Str), FnOk X.prog X.w X.K X.mg X.base (L2N.CX X.prog X.w) k (g.fa i) fd ps (spF X.K g cf ps.length) ∧ Room k X.A ∧ Binds X.K fd ps [] ∧ PySem.W.keepIn X.K (.ref (g.fa i)) = true ∧ ∀ xs c, xs.length ≠ ps.length → cf xs c = .bad
abbrev WE0 (E : XK) : WX := fun cls d _ H => E cls d H

/-- the context in which an inner text is read -/
structure Good0 (X : Cx) (C : Ctx) (g : GI) (E : XK) (cl : Calls) : Prop where
  N : X.N = C.N
  nd : X.N.Nodup
  calm : X.calm = true
  tk : L2N.Takes X (WE0 E)
  hu : X.A.units + 66 < cLine
  bl : ∀ x, C.bl.contains x = true → X.mg x = none
  fns : ∀ x i, C.gl.lookup x = some (.fn i) → X.mg x = some (.ref (g.fa i)) ∧ i < cl.n
  csts : ∀ x j, C.gl.lookup x = some (.cst j) → ∀ pv, cl.k[j]? = some pv → ∃ v u, X.mg x = some u ∧ RelV v u ∧ ∀ G, Rep X.K g G pv v
  excs : ∀ x i, C.gl.lookup x = some (.exc i) → ∃ (a : Addr), g.ca i = .ref a ∧ X.mg x = some (.ref a) ∧ PySem.W.excIn X.K a [.type "ValueError", .type "Exception", .type "BaseException", .type "object"] "ValueError.__new__" = true ∧
    PySem.W.keepIn X.K (.ref a) = true ∧ Raises X (.ref a)
  gcd : ∀ x, C.gl.lookup x = some .gcd → X.mg x = some (.builtin "math.gcd")
  calls : ∀ i, i < cl.n → CallOk X g (cl.c i) i

section
variable {X : Cx} {C : Ctx} {g : GI} {E : XK} {cl : Calls} {sc : Scope} {raw : Bool} {p pos : Pos}

theorem good_vis {x : Str} (h : visB X.env.scope x = true) : Vis X.env.scope x ∧ (x == ("__debug__" : Str)) = false ∧ (x == ("__classdict__" : Str)) = false := by
  unfold visB at h
  simp only [Bool.and_eq_true, Bool.or_eq_true, decide_eq_true_eq] at h
  refine ⟨?_, by simpa using h.1.2, by simpa using h.2⟩
  rcases h.1.1 with (q | q) | q
  · exact .inl q
  · exact .inr (.inl q)
  · exact .inr (.inr q)
theorem good_gl {x : Str} (h : glB X.env.scope x = true) : Gl X x ∧ (x == ("__debug__" : Str)) = false := by
  unfold glB at h
  simp only [Bool.and_eq_true, decide_eq_true_eq] at h
  exact ⟨h.1, by simpa using h.2⟩
theorem good_blt (G : Good0 X C g E cl) {x : Str} (h : bltB C X.env.scope x = true) : Gl X x ∧ (x == ("__debug__" : Str)) = false ∧ X.mg x = none ∧ x ≠ "__name__" := by
  unfold bltB at h
  simp only [Bool.and_eq_true, decide_eq_true_eq] at h
  obtain ⟨h1, h2⟩ := good_gl h.1.1
  exact ⟨h1, h2, G.bl x h.1.2, h.2⟩

/-- a value that asks nothing -/
theorem pe_const {e : PySem.Expr} {x : PV} {v : V} (h : PE X e (tC v)) (r : ∀ G, Rep X.K g G x v) : PE X e (tE X.K g E raw fun _ => ret x) :=
  PE.imp h fun σ H Q ⟨ow, env, c, st, q⟩ => Out.ret st.hs q v (.inl (r _))
theorem pe_slot {k : Nat} {x : Str} (hN : X.N[k]? = some x) (hv : visB X.env.scope x = true) : PE X (.Name x p) (tE X.K g E raw (sem (.var k) cl).e) := by
  obtain ⟨h1, h2, h3⟩ := good_vis hv
  refine PE.imp (pe_var hN h1 h2 h3) fun σ H Q ⟨ow, env, c, st, q⟩ => ?_
  have q : Out g E H ((match env[k]? with | some (some (.val v)) => ret v | _ => badM : M PV) c) _ := q
  cases e : env[k]? with
  | none => rw [e] at q; exact False.elim q
  | some o =>
    cases o with
    | none => rw [e] at q; exact False.elim q
    | some s =>
      cases s with
      | own xs => rw [e] at q; exact False.elim q
      | val v =>
        rw [e] at q
        obtain ⟨u, h4, h5⟩ := st.env.val k v e
        exact ⟨u, h4, Out.ret st.hs q u (.inl h5)⟩
theorem pe_slotR {k : Nat} {x : Str} (hN : X.N[k]? = some x) (hv : visB X.env.scope x = true) : PE X (.Name x p) (tE X.K g E true (sem (.rd k) cl).e) := by
  obtain ⟨h1, h2, h3⟩ := good_vis hv
  refine PE.imp (pe_var hN h1 h2 h3) fun σ H Q ⟨ow, env, c, st, q⟩ => ?_
  have q : Out g E H ((match env[k]? with | some (some (.val v)) => ret v | some (some (.own xs)) => ret (.lst xs) | _ => badM : M PV) c) _ := q
  cases e : env[k]? with
  | none => rw [e] at q; exact False.elim q
  | some o =>
    cases o with
    | none => rw [e] at q; exact False.elim q
    | some s =>
      cases s with
      | own xs =>
        rw [e] at q
        obtain ⟨a, vs, h4, h5, h6, h7⟩ := st.env.own k xs e
        exact ⟨.ref a, h4, Out.ret st.hs q _ (.inr ⟨rfl, a, vs, xs, rfl, rfl, h5, h6, h7⟩)⟩
      | val v =>
        rw [e] at q
        obtain ⟨u, h4, h5⟩ := st.env.val k v e
        exact ⟨u, h4, Out.ret st.hs q u (.inl h5)⟩
theorem tE_weak {m : Cv.Env → M PV} {e : PySem.Expr} (h : PE X e (tE X.K g E false m)) : PE X e (tE X.K g E raw m) :=
  PE.imp h fun σ H Q ⟨ow, env, c, st, q⟩ => ⟨ow, env, c, st, q.imp fun r c' H' _ _ k v rv => k v (.inl rv.strict)⟩

/-! ### lists of expressions -/
theorem starEach_cons {e : PySem.Expr} {es : List PySem.Expr} {env : PySem.Env} (h : notStar e = true) : starEach (e :: es) env = (false, eval e env) :: starEach es env := by
  cases e <;> first | rfl | cases h
theorem backTo_any {es : List PySem.Expr} {env : PySem.Env} {pos : Pos} (h : es.all notStar = true) : (backTo pos (starEach es env)).any (·.1) = false := by
  have key : ∀ es : List PySem.Expr, es.all notStar = true → (starEach es env).any (·.1) = false := by
    intro es
    induction es with
    | nil => intro _; rfl
    | cons a r ih =>
      intro h
      rw [List.all_cons, Bool.and_eq_true] at h
      rw [starEach_cons h.1, List.any_cons, ih h.2]
      rfl
  have h2 := key es h
  have bt : ∀ l : List (Bool × PySem.Sem Value), l.any (·.1) = false → (backTo pos l).any (·.1) = false := by
    intro l hl
    unfold backTo
    first
      | (split <;> simp_all)
      | simp_all
      | (cases l <;> simp_all)
  exact bt _ h2
theorem pa_nilT : PA X [] (tL X.K g E fun _ => ret []) := PA.imp pa_nil fun σ H Q ⟨ow, env, c, st, q⟩ => Out.ret st.hs q [] .nil
theorem pa_consT {a : PySem.Expr} {r : List PySem.Expr} {ma : Cv.Env → M PV} {mr : Cv.Env → M (List PV)} (ha : PE X a (tE X.K g E false ma)) (hr : PA X r (tL X.K g E mr)) (ns : notStar a = true) :
    PA X (a :: r) (tL X.K g E fun env => bnd (ma env) fun x => bnd (mr env) fun xs => ret (x :: xs)) := by
  refine PA.imp (pa_cons ha hr (starEach_cons ns)) fun σ H Q ⟨ow, env, c, st, q⟩ => ?_
  refine tE_bnd st q fun x v c1 H1 st1 k1 r1 q1 => ?_
  refine tL_bnd st1 q1 fun xs vs c2 H2 st2 k2 r2 q2 => ?_
  exact Out.ret st2.hs q2 _ (.cons (r1.strict.sub k2.fz) r2)
/-- a tuple, a list of written items -/
theorem pe_tupT {es : List PySem.Expr} {k : Nat} {m : Cv.Env → M (List PV)} (h : PA X es (tL X.K g E m)) :
    PE X (.Tuple es k p) (tE X.K g E raw fun env => bnd (m env) fun xs => lift (if xs.length ≤ big then some (.tup xs) else none)) := by
  refine PE.imp (pe_tup h) fun σ H Q ⟨ow, env, c, st, q⟩ => ?_
  refine tL_bnd st q fun xs vs c2 H2 st2 k2 r2 q2 => ?_
  obtain ⟨z, e, q3⟩ := Out.lift q2
  split at e
  · rename_i hz
    cases e
    exact ⟨by rw [← r2.length, ← big_eq]; exact hz, end_tup st2 r2 q3⟩
  · cases e
theorem pe_lstT {es : List PySem.Expr} {m : Cv.Env → M (List PV)} (h : PA X es (tL X.K g E m)) :
    PE X (.List es p) (tE X.K g E raw fun env => bnd (m env) fun xs => lift (if xs.length ≤ big then some (.lst xs) else none)) := by
  refine PE.imp (pe_lst h) fun σ H Q ⟨ow, env, c, st, q⟩ => ?_
  refine tL_bnd st q fun xs vs c2 H2 st2 k2 r2 q2 => ?_
  obtain ⟨z, e, q3⟩ := Out.lift q2
  split at e
  · rename_i hz
    cases e
    exact ⟨by rw [← r2.length, ← big_eq]; exact hz, end_lst st2 r2 q3⟩
  · cases e

/-! ### operators -/
theorem ops_bin (o : Op) (f : Operator) (h : binOk o f = true) : OpS X g E o (binaryOp f) := by
  cases o <;> cases f <;> first
    | exact absurd h (by decide)
    | skip
  · exact OpS.of ((op_add.or op_add_str).or (op_catA.or op_cat)) vop_add
  · exact OpS.of op_sub vop_sub
  · exact OpS.of ((op_mul.or op_mulW).or (op_rep.or op_repT)) vop_mul
  · exact OpS.of (op_fdivN.or op_fdivW) vop_fdiv
  · exact OpS.of op_modN vop_mod
  · exact OpS.of (op_pow.or op_powW) vop_pow
theorem ops_cmp (hu : X.A.units + 66 < cLine) (o : Op) (f : CmpOp) (h : cmpOk o f = true) : OpS X g E o (compareOp f) := by
  cases o <;> cases f <;> first
    | exact absurd h (by decide)
    | skip
  · exact OpS.of (op_eqD (by omega)) vop_eq
  · exact OpS.of (op_neD (by omega)) vop_ne
  · exact OpS.of op_lt (vop_cmp fun i j => decide (i < j))
  · exact OpS.of op_le (vop_cmp fun i j => decide (i ≤ j))
  · exact OpS.of op_gt (vop_cmp fun i j => decide (j < i))
  · exact OpS.of op_ge (vop_cmp fun i j => decide (j ≤ i))
  · exact OpS.of op_isN vop_isN
  · exact OpS.of op_notN vop_notN
  · exact OpS.of ((op_inD (by omega)).or (op_inDT (by omega))) vop_in
  · exact OpS.of ((op_notInD (by omega)).or (op_notInDT (by omega))) vop_notin
theorem set_free {op : CmpOp} {e : PySem.Expr} (h : isSetE e = false) : behindInMarks op e = false := by
  cases e <;> first | rfl | cases h
variable {a b : PySem.Expr} {ma mb : Cv.Env → M PV}
theorem bin_imp {o : Op} {r : R2} (hr : ∀ {ow : List Addr} {env : Cv.Env} {c : Cup} {σ : L2.St} {H : Hp} {x y : PV} {v w : V} {raw : Bool} {Q : VK}, StR X.K g ow env c σ H → RepM X.K g true ow H x v → RepM X.K g true ow H y w →
    Out g E H (opM o x y c) (fun r _ H' => ∀ v, RepM X.K g raw ow H' r v → Q v H') → r v w H Q) (σ : L2.St) (H : Hp) (Q : VK) (q : tE X.K g E raw (fun env => bnd (ma env) fun x => bnd (mb env) fun y => opM o x y) σ H Q) :
    tOp r (tE X.K g E true ma) (tE X.K g E true mb) σ H Q := by
  obtain ⟨ow, env, c, st, q⟩ := q
  refine tE_bnd st q fun x v c1 H1 st1 k1 r1 q1 => ?_
  refine tE_bnd st1 q1 fun y w c2 H2 st2 k2 r2 q2 => ?_
  exact hr st2 (r1.kp k2 st.nc) r2 q2
theorem pe_binT {o : Op} {f : Operator} (h : binOk o f = true) (ha : PE X a (tE X.K g E true ma)) (hb : PE X b (tE X.K g E true mb)) :
    PE X (.BinOp a f b p) (tE X.K g E raw fun env => bnd (ma env) fun x => bnd (mb env) fun y => opM o x y) := by
  obtain ⟨r, h1, h2⟩ := ops_bin (X := X) (g := g) (E := E) o f h
  exact PE.imp (pe_op h1 ha hb) (bin_imp h2)
theorem pe_cmpT (hu : X.A.units + 66 < cLine) {o : Op} {f : CmpOp} (h : cmpOk o f = true) (hs : isSetE b = false) (ha : PE X a (tE X.K g E true ma)) (hb : PE X b (tE X.K g E true mb)) :
    PE X (.Compare a [f] [b] p) (tE X.K g E raw fun env => bnd (ma env) fun x => bnd (mb env) fun y => opM o x y) := by
  obtain ⟨r, h1, h2⟩ := ops_cmp (X := X) (g := g) (E := E) hu o f h
  exact PE.imp (pe_cmpR h1 ha hb (set_free hs)) (bin_imp h2)
theorem pe_ixT (h : notSlice b = true) (ha : PE X a (tE X.K g E true ma)) (hb : PE X b (tE X.K g E true mb)) :
    PE X (.Subscript a b p) (tE X.K g E raw fun env => bnd (ma env) fun x => bnd (mb env) fun y => opM .ix x y) := by
  refine PE.imp (pe_ix ix_seq ha hb (fun o i => by cases b <;> first | rfl | cases h)) (bin_imp fun st rx ry q => ?_)
  obtain ⟨z, e, k⟩ := Out.lift (show Out g E _ (lift (opV _ .ix _ _) _) _ from q)
  exact ix_vop st rx ry e k
theorem bnd_assoc {α β γ : Type} (m : M α) (f : α → M β) (t : β → M γ) (c : Cup) : bnd (bnd m f) t c = bnd m (fun x => bnd (f x) t) c := by
  show ((m c).then f).then t = (m c).then fun x => bnd (f x) t
  cases m c <;> rfl
/-- a comparison as a test: its answer is a bool -/
theorem tru_bl {o : Op} {f : CmpOp} (h : cmpOk o f = true) {c : Cup} {x y z : PV} (e : opV c o x y = some z) : ∃ b, z = .bl b := by
  cases o <;> cases f <;> first
    | exact absurd h (by decide)
    | (simp only [opV, eqV] at e; split at e <;> cases e; exact ⟨_, rfl⟩)
    | (simp only [opV] at e; unfold cmpV at e; split at e <;> cases e; exact ⟨_, rfl⟩)
    | (simp only [opV] at e; unfold isV at e; split at e <;> cases e; exact ⟨_, rfl⟩)
    | (simp only [opV] at e; unfold inV at e; split at e <;> first | (split at e <;> cases e; exact ⟨_, rfl⟩) | cases e)
theorem bin_impT {o : Op} {r : R2} (hb : ∀ {c : Cup} {x y z : PV}, opV c o x y = some z → ∃ b, z = .bl b) (hr : ∀ {ow : List Addr} {env : Cv.Env} {c : Cup} {σ : L2.St} {H : Hp} {x y : PV} {v w : V} {raw : Bool} {Q : VK}, StR X.K g ow env c σ H → RepM X.K g true ow H x v → RepM X.K g true ow H y w →
    Out g E H (opM o x y c) (fun r _ H' => ∀ v, RepM X.K g raw ow H' r v → Q v H') → r v w H Q) (σ : L2.St) (H : Hp) (Q : Bool → Hp → Prop) (q : tT X.K g E (fun env => bnd (bnd (ma env) fun x => bnd (mb env) fun y => opM o x y) truM) σ H Q) :
    tTest (tOp r (tE X.K g E true ma) (tE X.K g E true mb)) σ H Q := by
  obtain ⟨ow, env, c, st, q⟩ := q
  dsimp only at q
  rw [bnd_assoc] at q
  refine tE_bnd st q fun x v c1 H1 st1 k1 r1 q1 => ?_
  try dsimp only at q1
  rw [bnd_assoc] at q1
  refine tE_bnd st1 q1 fun y w c2 H2 st2 k2 r2 q2 => ?_
  obtain ⟨z, e, q3⟩ := Out.bndL (show Out g E H2 (bnd (lift (opV c2 o x y)) truM c2) _ from q2)
  obtain ⟨b, rfl⟩ := hb e
  refine hr (raw := false) st2 (r1.kp k2 st.nc) r2 (show Out g E H2 (lift (opV c2 o x y) c2) _ from ?_)
  rw [e]
  intro H' kp hs v rv
  exact ⟨b, rv.bl, q3 H' kp hs⟩
theorem pt_cmpT (hu : X.A.units + 66 < cLine) {o : Op} {f : CmpOp} (h : cmpOk o f = true) (hs : isSetE b = false) (ha : PE X a (tE X.K g E true ma)) (hb : PE X b (tE X.K g E true mb)) :
    PT X (.Compare a [f] [b] p) (tT X.K g E fun env => bnd (bnd (ma env) fun x => bnd (mb env) fun y => opM o x y) truM) := by
  obtain ⟨r, h1, h2⟩ := ops_cmp (X := X) (g := g) (E := E) hu o f h
  exact PT.imp (pt_cmpR h1 ha hb (set_free hs)) (bin_impT (tru_bl h) h2)
/-- a plain expression as a test -/
theorem plainT_eq {e : PySem.Expr} (h : plainT e = true) (env : PySem.Env) (whole : PySem.Sem Value) : isTrue e env whole = (do let v ← whole; standAt e.pos; holding [v] (truthy v)) := by
  cases e <;> first | rfl | cases h
theorem pt_plain {e : PySem.Expr} {m : Cv.Env → M PV} (h : plainT e = true) (he : PE X e (tE X.K g E true m)) : PT X e (tT X.K g E fun env => bnd (m env) truM) := by
  refine PT.imp (pt_truth he (plainT_eq h X.env)) fun σ H Q ⟨ow, env, c, st, q⟩ => ?_
  refine tE_bnd st q fun x v c1 H1 st1 k1 r1 q1 => ?_
  obtain ⟨k, e, q2⟩ := Out.lift q1
  exact ⟨k, tru_of r1 e, q2 H1 Kp.refl st1.hs⟩
/-- a op b op' c -/
theorem chain_imp {o o' : Op} {f f' : CmpOp} {r r' : R2} {d : PySem.Expr} {md : Cv.Env → M PV} (hb : ∀ {c : Cup} {x y z : PV}, opV c o x y = some z → ∃ b, z = .bl b)
    (hr : ∀ {ow : List Addr} {env : Cv.Env} {c : Cup} {σ : L2.St} {H : Hp} {x y : PV} {v w : V} {raw : Bool} {Q : VK}, StR X.K g ow env c σ H → RepM X.K g true ow H x v → RepM X.K g true ow H y w →
      Out g E H (opM o x y c) (fun r _ H' => ∀ v, RepM X.K g raw ow H' r v → Q v H') → r v w H Q)
    (hr' : ∀ {ow : List Addr} {env : Cv.Env} {c : Cup} {σ : L2.St} {H : Hp} {x y : PV} {v w : V} {raw : Bool} {Q : VK}, StR X.K g ow env c σ H → RepM X.K g true ow H x v → RepM X.K g true ow H y w →
      Out g E H (opM o' x y c) (fun r _ H' => ∀ v, RepM X.K g raw ow H' r v → Q v H') → r' v w H Q)
    (σ : L2.St) (H : Hp) (Q : VK) (q : tE X.K g E raw (fun env => bnd (ma env) fun x => bnd (mb env) fun y => bnd (opM o x y) fun z => match z with
      | .bl true => bnd (md env) fun w => opM o' y w
      | .bl false => ret (.bl false)
      | _ => badM) σ H Q) : tChain r r' (tE X.K g E true ma) (tE X.K g E true mb) (tE X.K g E true md) σ H Q := by
  obtain ⟨ow, env, c, st, q⟩ := q
  refine tE_bnd st q fun x v c1 H1 st1 k1 r1 q1 => ?_
  refine tE_bnd st1 q1 fun y w c2 H2 st2 k2 r2 q2 => ?_
  obtain ⟨z, e, q3⟩ := Out.bndL (show Out g E H2 (bnd (lift (opV c2 o x y)) _ c2) _ from q2)
  obtain ⟨b, rfl⟩ := hb e
  refine hr (raw := false) st2 (r1.kp k2 st.nc) r2 (show Out g E H2 (lift (opV c2 o x y) c2) _ from ?_)
  rw [e]
  intro H' kp hs v rv
  refine ⟨b, rv.bl, ?_⟩
  cases b with
  | false => exact Out.ret hs (Out.kp q3 kp) _ (.inl (.bl false))
  | true =>
    refine tE_bnd (st2.kp kp hs) (Out.kp q3 kp) fun u w' c3 H3 st3 k3 r3 q4 => ?_
    exact hr' st3 ((r2.kp kp st.nc).kp k3 st.nc) r3 q4
end
end Cv

set_option Elab.async false
set_option linter.all false
set_option maxRecDepth 100000
/-! CvJ: the further expressions by their parts. -/
namespace Cv
open PySem PySem.Spec PyProof.Rows L2
section
variable {X : Cx} {C : Ctx} {g : GI} {E : XK} {cl : Calls} {raw : Bool} {p pos : Pos} {a b d : PySem.Expr} {ma mb md : Cv.Env → M PV}

theorem set_last {op op' : CmpOp} {e1 e : PySem.Expr} (h : isSetE e = false) : lastMarks [op, op'] [e1, e] = false := by
  show behindInMarks op' e = false
  exact set_free h
theorem pe_chainT (hu : X.A.units + 66 < cLine) {o o' : Op} {f f' : CmpOp} (h : cmpOk o f = true) (h' : cmpOk o' f' = true) (hs : isSetE d = false) (ha : PE X a (tE X.K g E true ma)) (hb : PE X b (tE X.K g E true mb)) (hd : PE X d (tE X.K g E true md)) :
    PE X (.Compare a [f, f'] [b, d] p) (tE X.K g E raw fun env => bnd (ma env) fun x => bnd (mb env) fun y => bnd (opM o x y) fun z => match z with
      | .bl true => bnd (md env) fun w => opM o' y w
      | .bl false => ret (.bl false)
      | _ => badM) := by
  obtain ⟨r, h1, h2⟩ := ops_cmp (X := X) (g := g) (E := E) hu o f h
  obtain ⟨r', h1', h2'⟩ := ops_cmp (X := X) (g := g) (E := E) hu o' f' h'
  exact PE.imp (pe_chain h1 h1' ha hb hd (set_last hs)) (chain_imp (f := f) (f' := f') (d := d) (tru_bl h) h2 h2')
theorem pt_chainT (hu : X.A.units + 66 < cLine) {o o' : Op} {f f' : CmpOp} (h : cmpOk o f = true) (h' : cmpOk o' f' = true) (hs : isSetE d = false) (ha : PE X a (tE X.K g E true ma)) (hb : PE X b (tE X.K g E true mb)) (hd : PE X d (tE X.K g E true md)) :
    PT X (.Compare a [f, f'] [b, d] p) (tT X.K g E fun env => bnd (bnd (ma env) fun x => bnd (mb env) fun y => bnd (opM o x y) fun z => match z with
      | .bl true => bnd (md env) fun w => opM o' y w
      | .bl false => ret (.bl false)
      | _ => badM) truM) := by
  obtain ⟨r, h1, h2⟩ := ops_cmp (X := X) (g := g) (E := E) hu o f h
  obtain ⟨r', h1', h2'⟩ := ops_cmp (X := X) (g := g) (E := E) hu o' f' h'
  refine PT.imp (pt_chain h1 h1' ha hb hd (set_last hs)) fun σ H Q ⟨ow, env, c, st, q⟩ => ?_
  try dsimp only at q
  rw [bnd_assoc] at q
  refine tE_bnd st q fun x v c1 H1 st1 k1 r1 q1 => ?_
  try dsimp only at q1
  rw [bnd_assoc] at q1
  refine tE_bnd st1 q1 fun y w c2 H2 st2 k2 r2 q2 => ?_
  try dsimp only at q2
  rw [bnd_assoc] at q2
  obtain ⟨z, e, q3⟩ := Out.bndL (show Out g E H2 (bnd (lift (opV c2 o x y)) _ c2) _ from q2)
  obtain ⟨b, rfl⟩ := tru_bl h e
  refine h2 (raw := false) st2 (r1.kp k2 st.nc) r2 (show Out g E H2 (lift (opV c2 o x y) c2) _ from ?_)
  rw [e]
  intro H' kp hs v rv
  refine ⟨b, rv.bl, ?_⟩
  cases b with
  | false =>
    have q4 := Out.kp q3 kp
    exact ⟨false, rfl, q4 H' Kp.refl hs⟩
  | true =>
    have q4 := Out.kp q3 kp
    rw [show bnd (bnd (md env) fun w => opM o' y w) truM c2 = _ from bnd_assoc _ _ _ _] at q4
    refine tE_bnd (st2.kp kp hs) q4 fun u w' c3 H3 st3 k3 r3 q5 => ?_
    obtain ⟨z', e', q6⟩ := Out.bndL (show Out g E H3 (bnd (lift (opV c3 o' y u)) truM c3) _ from q5)
    obtain ⟨b', rfl⟩ := tru_bl h' e'
    refine h2' (raw := false) st3 ((r2.kp kp st.nc).kp k3 st.nc) r3 (show Out g E H3 (lift (opV c3 o' y u) c3) _ from ?_)
    rw [e']
    intro H'' kp' hs' v' rv'
    exact ⟨b', rv'.bl, q6 H'' kp' hs'⟩

/-! ### and, or, not, if -/
variable {rest : List PySem.Expr}
theorem pe_andM (ha : PE X a (tE X.K g E false ma)) (hb : PE X (.BoolOp .And (b :: rest) p) (tE X.K g E raw mb)) :
    PE X (.BoolOp .And (a :: b :: rest) p) (tE X.K g E raw fun env => bnd (ma env) fun x => bnd (truM x) fun k => match k with
      | true => mb env
      | false => ret x) := by
  refine PE.imp (pe_andT ha hb) fun σ H Q ⟨ow, env, c, st, q⟩ => ?_
  refine tE_bnd st q fun x v c1 H1 st1 k1 r1 q1 => ?_
  obtain ⟨k, e, q2⟩ := Out.bndL q1
  refine ⟨k, tru_of r1 e, ?_⟩
  cases k with
  | true => exact ⟨ow, env, c1, st1, q2⟩
  | false => exact Out.ret st1.hs q2 v (.inl r1.strict)
theorem pe_orM (ha : PE X a (tE X.K g E false ma)) (hb : PE X (.BoolOp .Or (b :: rest) p) (tE X.K g E raw mb)) :
    PE X (.BoolOp .Or (a :: b :: rest) p) (tE X.K g E raw fun env => bnd (ma env) fun x => bnd (truM x) fun k => match k with
      | true => ret x
      | false => mb env) := by
  refine PE.imp (pe_orT ha hb) fun σ H Q ⟨ow, env, c, st, q⟩ => ?_
  refine tE_bnd st q fun x v c1 H1 st1 k1 r1 q1 => ?_
  obtain ⟨k, e, q2⟩ := Out.bndL q1
  refine ⟨k, tru_of r1 e, ?_⟩
  cases k with
  | false => exact ⟨ow, env, c1, st1, q2⟩
  | true => exact Out.ret st1.hs q2 v (.inl r1.strict)
theorem pe_notM (ha : PE X a (tE X.K g E true ma)) : PE X (.UnaryOp .Not a p) (tE X.K g E raw fun env => bnd (ma env) fun x => bnd (truM x) fun b => ret (.bl (!b))) := by
  refine PE.imp (pe_notT ha) fun σ H Q ⟨ow, env, c, st, q⟩ => ?_
  refine tE_bnd st q fun x v c1 H1 st1 k1 r1 q1 => ?_
  obtain ⟨k, e, q2⟩ := Out.bndL q1
  exact ⟨k, tru_of r1 e, Out.ret st1.hs q2 _ (.inl (.bl _))⟩
variable {ta tb tc : Cv.Env → M Bool}
theorem pt_andM (ha : PT X a (tT X.K g E ta)) (hb : PT X (.BoolOp .And (b :: rest) p) (tT X.K g E tb)) :
    PT X (.BoolOp .And (a :: b :: rest) p) (tT X.K g E fun env => bnd (ta env) fun k => match k with
      | true => tb env
      | false => ret false) := by
  refine ⟨fun pins s σ H Q I ⟨ow, env, c, st, q⟩ => ?_⟩
  refine isTrue_and (thn (ha.run pins s σ H (fun k H1 => if k = true then tT X.K g E tb σ H1 Q else Q false H1) I (tT_bnd st q fun k c1 H1 st1 k1 q1 => ?_)) fun k s1 ⟨H1, I1, q1⟩ => ?_)
  · cases k with
    | true => rw [if_pos rfl]; exact ⟨ow, env, c1, st1, q1⟩
    | false => rw [if_neg Bool.false_ne_true]; exact Out.ret st1.hs q1
  · cases k with
    | true => rw [if_pos rfl] at q1; exact hb.run pins s1 σ H1 Q I1 q1
    | false => rw [if_neg Bool.false_ne_true] at q1; exact ⟨H1, I1, q1⟩
theorem pt_orM (ha : PT X a (tT X.K g E ta)) (hb : PT X (.BoolOp .Or (b :: rest) p) (tT X.K g E tb)) :
    PT X (.BoolOp .Or (a :: b :: rest) p) (tT X.K g E fun env => bnd (ta env) fun k => match k with
      | true => ret true
      | false => tb env) := by
  refine ⟨fun pins s σ H Q I ⟨ow, env, c, st, q⟩ => ?_⟩
  refine isTrue_or (thn (ha.run pins s σ H (fun k H1 => if k = true then Q true H1 else tT X.K g E tb σ H1 Q) I (tT_bnd st q fun k c1 H1 st1 k1 q1 => ?_)) fun k s1 ⟨H1, I1, q1⟩ => ?_)
  · cases k with
    | true => rw [if_pos rfl]; exact Out.ret st1.hs q1
    | false => rw [if_neg Bool.false_ne_true]; exact ⟨ow, env, c1, st1, q1⟩
  · cases k with
    | true => rw [if_pos rfl] at q1; exact ⟨H1, I1, q1⟩
    | false => rw [if_neg Bool.false_ne_true] at q1; exact hb.run pins s1 σ H1 Q I1 q1
theorem pt_notM (ha : PT X a (tT X.K g E ta)) : PT X (.UnaryOp .Not a p) (tT X.K g E fun env => bnd (ta env) fun b => ret (!b)) :=
  PT.imp (pt_not ha) fun σ H Q ⟨ow, env, c, st, q⟩ => tT_bnd st q fun k c1 H1 st1 k1 q1 => Out.ret st1.hs q1
theorem pe_iteM (hc : PT X d (tT X.K g E tc)) (ha : PE X a (tE X.K g E raw ma)) (hb : PE X b (tE X.K g E raw mb)) :
    PE X (.IfExp d a b p) (tE X.K g E raw fun env => bnd (tc env) fun k => match k with
      | true => ma env
      | false => mb env) :=
  PE.imp (pe_ifExp hc ha hb) fun σ H Q ⟨ow, env, c, st, q⟩ => tT_bnd st q fun k c1 H1 st1 k1 q1 => by
    cases k with
    | true => rw [if_pos rfl]; exact ⟨ow, env, c1, st1, q1⟩
    | false => rw [if_neg Bool.false_ne_true]; exact ⟨ow, env, c1, st1, q1⟩
theorem pt_iteM (hc : PT X d (tT X.K g E tc)) (ha : PT X a (tT X.K g E ta)) (hb : PT X b (tT X.K g E tb)) :
    PT X (.IfExp d a b p) (tT X.K g E fun env => bnd (tc env) fun k => match k with
      | true => ta env
      | false => tb env) := by
  refine ⟨fun pins s σ H Q I ⟨ow, env, c, st, q⟩ => ?_⟩
  show wpAny _ _ (do if ← isTrue d X.env (eval d X.env) then isTrue a X.env (eval a X.env) else isTrue b X.env (eval b X.env)) _ _ s
  refine wpAny_bind (thn (hc.run pins s σ H (fun k H1 => if k = true then tT X.K g E ta σ H1 Q else tT X.K g E tb σ H1 Q) I (tT_bnd st q fun k c1 H1 st1 k1 q1 => ?_)) fun k s1 ⟨H1, I1, q1⟩ => ?_)
  · cases k with
    | true => rw [if_pos rfl]; exact ⟨ow, env, c1, st1, q1⟩
    | false => rw [if_neg Bool.false_ne_true]; exact ⟨ow, env, c1, st1, q1⟩
  · cases k with
    | true => rw [if_pos rfl] at q1 ⊢; exact ha.run pins s1 σ H1 Q I1 q1
    | false => rw [if_neg Bool.false_ne_true] at q1 ⊢; exact hb.run pins s1 σ H1 Q I1 q1
/-- the sole one of an and, an or -/
theorem unw_cases (e : PySem.Expr) : unw e = e ∨ ∃ o x p, e = .BoolOp o [x] p ∧ unw e = x := by
  cases e with
  | BoolOp o l p =>
    cases l with
    | nil => exact .inl rfl
    | cons x r =>
      cases r with
      | nil => exact .inr ⟨o, x, p, rfl, rfl⟩
      | cons y r => exact .inl rfl
  | _ => exact .inl rfl
theorem pe_unw {e : PySem.Expr} {t : TE} (h : PE X (unw e) t) : PE X e t := by
  rcases unw_cases e with q | ⟨o, x, p, rfl, q⟩
  · rw [← q]; exact h
  · rw [q] at h
    exact pe_one h
theorem pt_unw {e : PySem.Expr} {t : TT} (h : PT X (unw e) t) : PT X e t := by
  rcases unw_cases e with q | ⟨o, x, p, rfl, q⟩
  · rw [← q]; exact h
  · rw [q] at h
    cases o with
    | And => exact (pw_and1 h).pt
    | Or => exact (pw_or1 h).pt

/-! ### built-ins -/
theorem pe_unT {f : Str} {id : String} {r : List V → Hp → VK → Prop} {fv : PV → Option PV} (hc : CallR X (.builtin id) r) (hv : bootBuiltins f = some (.builtin id)) (vr : VUn X g fv r) (hb : Gl X f ∧ (f == ("__debug__" : Str)) = false ∧ X.mg f = none ∧ f ≠ "__name__") (ns : notStar a = true)
    (ha : PE X a (tE X.K g E true ma)) : PE X (.Call (.Name f p) [a] [] pos) (tE X.K g E raw fun env => bnd (ma env) fun x => lift (fv x)) := by
  refine PE.imp (pe_callB hc hb.1 hb.2.2.1 hv (pa_cons ha pa_nil (starEach_cons ns)) hb.2.2.2 hb.2.1 (starEach_cons ns) rfl) fun σ H Q ⟨ow, env, c, st, q⟩ => ?_
  refine tE_bnd st q fun x v c1 H1 st1 k1 r1 q1 => ?_
  obtain ⟨z, e, q2⟩ := Out.lift q1
  exact vr st1 r1 e q2
theorem pe_unTy {f : Str} {id : String} {r : List V → Hp → VK → Prop} {fv : PV → Option PV} (hc : CallR X (.type id) r) (hv : bootBuiltins f = some (.type id)) (vr : VUn X g fv r) (hb : Gl X f ∧ (f == ("__debug__" : Str)) = false ∧ X.mg f = none ∧ f ≠ "__name__") (ns : notStar a = true)
    (ha : PE X a (tE X.K g E true ma)) : PE X (.Call (.Name f p) [a] [] pos) (tE X.K g E raw fun env => bnd (ma env) fun x => lift (fv x)) := by
  refine PE.imp (pe_callTy hc hb.1 hb.2.2.1 hv (pa_cons ha pa_nil (starEach_cons ns)) hb.2.2.2 hb.2.1 (starEach_cons ns) rfl) fun σ H Q ⟨ow, env, c, st, q⟩ => ?_
  refine tE_bnd st q fun x v c1 H1 st1 k1 r1 q1 => ?_
  obtain ⟨z, e, q2⟩ := Out.lift q1
  exact vr st1 r1 e q2
theorem pe_negT (ha : PE X a (tE X.K g E true ma)) : PE X (.UnaryOp .USub a p) (tE X.K g E raw fun env => bnd (ma env) fun x => lift (unV .neg x)) := by
  refine PE.imp (pe_un un_neg ha) fun σ H Q ⟨ow, env, c, st, q⟩ => ?_
  refine tE_bnd st q fun x v c1 H1 st1 k1 r1 q1 => ?_
  obtain ⟨z, e, q2⟩ := Out.lift q1
  change negV x = some z at e
  cases x <;> simp only [negV] at e <;> try cases e
  rw [r1.int]
  exact ⟨_, rfl, q2 H1 Kp.refl st1.hs _ (.inl (.int _))⟩
theorem pe_isTT {f y : Str} {t : Nat} {p2 : Pos} (hf : f = ("isinstance" : Str)) (hty : tyName t = some y) (hb : Gl X f ∧ (f == ("__debug__" : Str)) = false ∧ X.mg f = none ∧ f ≠ "__name__") (hb2 : Gl X y ∧ (y == ("__debug__" : Str)) = false ∧ X.mg y = none ∧ y ≠ "__name__")
    (ns : notStar a = true) (ha : PE X a (tE X.K g E true ma)) : PE X (.Call (.Name f p) [a, .Name y p2] [] pos) (tE X.K g E raw fun env => bnd (ma env) fun x => lift (unV (.isT t) x)) := by
  have ht : t < 5 ∧ bootBuiltins y = some (.type (tyS t)) := by
    match t, hty with
    | 0, h => cases h; exact ⟨by decide, by decide +kernel⟩
    | 1, h => cases h; exact ⟨by decide, by decide +kernel⟩
    | 2, h => cases h; exact ⟨by decide, by decide +kernel⟩
    | 3, h => cases h; exact ⟨by decide, by decide +kernel⟩
    | 4, h => cases h; exact ⟨by decide, by decide +kernel⟩
    | n + 5, h => cases h
  subst hf
  have py : PE X (.Name y p2) (tC (.ty (tyS t))) := pe_bltn hb2.1 hb2.2.2.1 ht.2 rfl hb2.2.2.2 hb2.2.1
  refine PE.imp (pe_callB call_isi hb.1 hb.2.2.1 (by decide +kernel) (pa_cons ha (pa_cons py pa_nil) (starEach_cons ns)) hb.2.2.2 hb.2.1 (starEach_cons ns) rfl) fun σ H Q ⟨ow, env, c, st, q⟩ => ?_
  refine tE_bnd st q fun x v c1 H1 st1 k1 r1 q1 => ?_
  obtain ⟨z, e, q2⟩ := Out.lift q1
  change (PV.isT t x).map .bl = some z at e
  cases e1 : PV.isT t x with
  | none => rw [e1] at e; cases e
  | some b =>
    rw [e1] at e
    cases e
    obtain ⟨T, h1, h2⟩ := isT_of ht.1 r1 e1
    exact ⟨v, .ty (tyS t), _, _, b, rfl, .ty _, h1, h2, q2 H1 Kp.refl st1.hs _ (.inl (.bl _))⟩
theorem two_ints {f : Str} {id : String} {op : Int → Int → Int} {r : List V → Hp → VK → Prop} (hc : CallR X (.builtin id) r) (hr : ∀ i j H Q, Q (.int (op i j)) H → r [.int i, .int j] H Q)
    (hg : Gl X f) (hd : (f == ("__debug__" : Str)) = false) (hm : (X.mg f = none ∧ f ≠ "__name__" ∧ bootBuiltins f = some (.builtin id)) ∨ X.mg f = some (.builtin id)) (na : notStar a = true) (nb : notStar b = true)
    (ha : PE X a (tE X.K g E true ma)) (hb : PE X b (tE X.K g E true mb)) :
    PE X (.Call (.Name f p) [a, b] [] pos) (tE X.K g E raw fun env => bnd (ma env) fun x => bnd (intM x) fun i => bnd (mb env) fun y => bnd (intM y) fun j => ret (.int (op i j))) := by
  have any : (backTo pos (starEach [b] X.env)).any (·.1) = false := by
    rw [starEach_cons nb]
    rfl
  have base : PE X (.Call (.Name f p) [a, b] [] pos) (tCB r (tCons (tE X.K g E true ma) (tCons (tE X.K g E true mb) tNil))) := by
    rcases hm with ⟨h1, h2, h3⟩ | h1
    · exact pe_callB hc hg h1 h3 (pa_cons ha (pa_cons hb pa_nil (starEach_cons nb)) (starEach_cons na)) h2 hd (starEach_cons na) any
    · exact pe_callBfun hc hg h1 (pa_cons ha (pa_cons hb pa_nil (starEach_cons nb)) (starEach_cons na)) hd (starEach_cons na) any
  refine PE.imp base fun σ H Q ⟨ow, env, c, st, q⟩ => ?_
  refine tE_bnd st q fun x v c1 H1 st1 k1 r1 q1 => ?_
  obtain ⟨i, e1, q2⟩ := Out.bndL q1
  refine tE_bnd st1 q2 fun y w c2 H2 st2 k2 r2 q3 => ?_
  obtain ⟨j, e2, q4⟩ := Out.bndL q3
  cases x <;> cases e1
  cases y <;> cases e2
  rw [r1.int, r2.int]
  exact hr i j H2 Q (Out.ret st2.hs q4 _ (.inl (.int _)))

/-! ### slices -/
theorem po_someT {k : Option Int → Cup → Hp → Prop} (ha : PE X a (tE X.K g E true ma)) : PO X (some a) (tPart (tE X.K g E true ma)) := po_some ha
theorem sl_all : SlR X (fun x lo hi H Q => rSlA X.K x lo hi H Q ∨ rSlL X.K x lo hi H Q ∨ rSlS x lo hi H Q) := sl_tupA.or (sl_list.or sl_str)
theorem pe_slcT {p2 : Pos} (ha : PE X a (tE X.K g E true ma)) (hb : PE X b (tE X.K g E true mb)) (hd : PE X d (tE X.K g E true md)) :
    PE X (.Subscript a (.Slice (some b) (some d) none p2) p) (tE X.K g E raw fun env => bnd (ma env) fun x => bnd (mb env) fun l => bnd (intM l) fun i => bnd (md env) fun h => bnd (intM h) fun j => lift (slcV x (some i) (some j))) := by
  refine PE.imp (pe_slice sl_all ha (po_some hb) (po_some hd)) fun σ H Q ⟨ow, env, c, st, q⟩ => ?_
  refine tE_bnd st q fun x v c1 H1 st1 k1 r1 q1 => ?_
  refine tE_bnd st1 q1 fun y w c2 H2 st2 k2 r2 q2 => ?_
  obtain ⟨i, e1, q3⟩ := Out.bndL q2
  cases y <;> cases e1
  rw [r2.int]
  refine ⟨i, rfl, ?_⟩
  refine tE_bnd st2 q3 fun z u c3 H3 st3 k3 r3 q4 => ?_
  obtain ⟨j, e2, q5⟩ := Out.bndL q4
  cases z <;> cases e2
  rw [r3.int]
  refine ⟨j, rfl, ?_⟩
  obtain ⟨z, e, q6⟩ := Out.lift q5
  exact slc_ok st3 ((r1.kp k2 st.nc).kp k3 st.nc) e q6
theorem pe_slcLT {p2 : Pos} (ha : PE X a (tE X.K g E true ma)) (hb : PE X b (tE X.K g E true mb)) :
    PE X (.Subscript a (.Slice (some b) none none p2) p) (tE X.K g E raw fun env => bnd (ma env) fun x => bnd (mb env) fun l => bnd (intM l) fun i => lift (slcV x (some i) none)) := by
  refine PE.imp (pe_slice sl_all ha (po_some hb) po_none) fun σ H Q ⟨ow, env, c, st, q⟩ => ?_
  refine tE_bnd st q fun x v c1 H1 st1 k1 r1 q1 => ?_
  refine tE_bnd st1 q1 fun y w c2 H2 st2 k2 r2 q2 => ?_
  obtain ⟨i, e1, q3⟩ := Out.bndL q2
  cases y <;> cases e1
  rw [r2.int]
  refine ⟨i, rfl, ?_⟩
  obtain ⟨z, e, q6⟩ := Out.lift q3
  exact slc_ok st2 (r1.kp k2 st.nc) e q6
theorem pe_slcHT {p2 : Pos} (ha : PE X a (tE X.K g E true ma)) (hb : PE X b (tE X.K g E true mb)) :
    PE X (.Subscript a (.Slice none (some b) none p2) p) (tE X.K g E raw fun env => bnd (ma env) fun x => bnd (mb env) fun l => bnd (intM l) fun i => lift (slcV x none (some i))) := by
  refine PE.imp (pe_slice sl_all ha po_none (po_some hb)) fun σ H Q ⟨ow, env, c, st, q⟩ => ?_
  refine tE_bnd st q fun x v c1 H1 st1 k1 r1 q1 => ?_
  refine tE_bnd st1 q1 fun y w c2 H2 st2 k2 r2 q2 => ?_
  obtain ⟨i, e1, q3⟩ := Out.bndL q2
  cases y <;> cases e1
  rw [r2.int]
  refine ⟨i, rfl, ?_⟩
  obtain ⟨z, e, q6⟩ := Out.lift q3
  exact slc_ok st2 (r1.kp k2 st.nc) e q6

/-! ### calls of defs -/
theorem out_call {K : PySem.W.Frag} {cf : List PV → M PV} {n : Nat} {ow : List Addr} {env : Cv.Env} {c : Cup} {σ : L2.St} {H : Hp} {xs : List PV} {vs : List V} {Q : VK} (hn : ∀ xs c, xs.length ≠ n → cf xs c = .bad) (st : StR K g ow env c σ H) (r : Reps K g (fz g ow H) xs vs)
    (q : Out g E H (cf xs c) fun r _ H' => ∀ v, RepM K g raw ow H' r v → Q v H') : spF K g cf n vs H Q E := by
  refine ⟨?_, ow, xs, c, st.nc, st.live, st.hs, r, q.imp fun r c' H' _ _ k v rv => k v (.inl rv)⟩
  rw [← r.length]
  by_cases h : xs.length = n
  · exact h
  · rw [hn xs c h] at q
    exact False.elim q
theorem pe_callT {es : List PySem.Expr} {mes : Cv.Env → M (List PV)} {f : Str} {i : Nat} (G : Good0 X C g E cl) (hg : Gl X f) (hd : (f == ("__debug__" : Str)) = false) (hm : X.mg f = some (.ref (g.fa i))) (hi : i < cl.n) (hne : es ≠ []) (ns : es.all notStar = true) (h : PA X es (tL X.K g E mes)) :
    PE X (.Call (.Name f p) es [] pos) (tE X.K g E raw fun env => bnd (mes env) fun xs => cl.c i xs) := by
  obtain ⟨k, fd, ps, F, hr, hb, hk, hn⟩ := G.calls i hi
  have px : Passes (L2N.CX X.prog X.w) X E := L2N.passes_call G.tk fun _ _ _ _ z => z
  have fin : ∀ σ H Q, tE X.K g E raw (fun env => bnd (mes env) fun xs => cl.c i xs) σ H Q → tCall (spF X.K g (cl.c i) ps.length) [] E (tL X.K g E mes) σ H Q := fun σ H Q ⟨ow, env, c, st, q⟩ => by
    refine tL_bnd st q fun xs vs c1 H1 st1 k1 r1 q1 => ?_
    rw [List.append_nil]
    exact out_call hn st1 r1 q1
  cases es with
  | nil => exact absurd rfl hne
  | cons e0 es =>
    rw [List.all_cons, Bool.and_eq_true] at ns
    exact PE.imp (pe_call F hr hg hm hk hb .nil px h hd (starEach_cons ns.1) (backTo_any ns.2)) fin
theorem pe_call0T {f : Str} {i : Nat} (G : Good0 X C g E cl) (hg : Gl X f) (hd : (f == ("__debug__" : Str)) = false) (hm : X.mg f = some (.ref (g.fa i))) (hi : i < cl.n) :
    PE X (.Call (.Name f p) [] [] pos) (tE X.K g E raw fun env => bnd (ret []) fun xs => cl.c i xs) := by
  obtain ⟨k, fd, ps, F, hr, hb, hk, hn⟩ := G.calls i hi
  have px : Passes (L2N.CX X.prog X.w) X E := L2N.passes_call G.tk fun _ _ _ _ z => z
  exact PE.imp (pe_call0 F hr hg hm hk hb .nil px hd) fun σ H Q ⟨ow, env, c, st, q⟩ => out_call (raw := raw) hn st .nil q
/-- a call of what a name of the def holds -/
theorem pe_callvT {es : List PySem.Expr} {mes : Cv.Env → M (List PV)} {f : Str} {k : Nat} (G : Good0 X C g E cl) (hN : X.N[k]? = some f) (hv : visB X.env.scope f = true) (hne : es ≠ []) (ns : es.all notStar = true) (h : PA X es (tL X.K g E mes)) :
    PE X (.Call (.Name f p) es [] pos) (tE X.K g E raw fun env => match env[k]? with
      | some (some (.val (.fn i))) => if i < cl.n then bnd (mes env) fun xs => cl.c i xs else badM
      | _ => badM) := by
  obtain ⟨h1, h2, h3⟩ := good_vis hv
  cases es with
  | nil => exact absurd rfl hne
  | cons e0 es =>
  rw [List.all_cons, Bool.and_eq_true] at ns
  refine ⟨fun pins s σ H Q I ⟨ow, env, c, st, q⟩ => ?_⟩
  try dsimp only at q
  cases e : env[k]? with
  | none => rw [e] at q; exact False.elim q
  | some o =>
    cases o with
    | none => rw [e] at q; exact False.elim q
    | some sl =>
      cases sl with
      | own xs => rw [e] at q; exact False.elim q
      | val v =>
        rw [e] at q
        cases v with
        | fn i =>
          try dsimp only at q
          split at q
          · rename_i hi
            obtain ⟨k2, fd, ps, F, hr, hb, hk, hn⟩ := G.calls i hi
            have px : Passes (L2N.CX X.prog X.w) X E := L2N.passes_call G.tk fun _ _ _ _ z => z
            refine (pe_callL F hr hN h1 hk hb .nil px h h2 h3 (starEach_cons ns.1) (backTo_any ns.2)).run pins s σ H Q I ?_
            obtain ⟨u, h4, h5⟩ := st.env.val k (.fn i) e
            cases h5
            refine ⟨h4, tL_bnd st q fun xs vs c1 H1 st1 k1 r1 q1 => ?_⟩
            rw [List.append_nil]
            exact out_call hn st1 r1 q1
          · exact False.elim q
        | _ => exact False.elim q
end
end Cv

set_option Elab.async false
set_option linter.all false
set_option maxRecDepth 100000
/-! CvK: what is walked; comprehensions; join. -/
namespace Cv
open PySem PySem.Spec PyProof.Rows L2

/-- nothing but a table of lambdas stands there -/
def Nw (H : Hp) (a : Addr) : Prop := ∀ o, H a = some o → ∃ ps, o = .tbl ps
theorem Nw.of {H : Hp} {a : Addr} (h : H a = none) : Nw H a := fun o e => by rw [h] at e; cases e
/-- at turn i the i-th of the values is yielded, whatever has happened to the heap in between -/
def ItOk (K : PySem.W.Frag) (g : GI) (ow : List Addr) (J : It) (xs : List PV) (H0 : Hp) : Prop :=
  ∀ (i : Nat) (H : Hp), Sub (fz g ow H0) H → (∃ c, Hs g c H) → (∀ x, xs[i]? = some x → J.go i H ∧ ∀ v H', J.yld i H v H' → Kp g H H' ∧ (∀ c, Hs g c H → Hs g c H') ∧ (∀ b, H b ≠ none → H' b = H b) ∧
    ∀ ow', (∀ a ∈ ow', ∃ vs, H a = some (.lst vs)) → (∀ a ∈ ow', a ∈ ow ∨ Nw H0 a) → Rep K g (fz g ow' H') x v) ∧ (xs.length ≤ i → J.stop i H)
def tI (K : PySem.W.Frag) (g : GI) (E : XK) (m : Cv.Env → M (List PV)) : TI := fun σ H R => ∃ ow env c, StR K g ow env c σ H ∧ Out g E H (m env c) fun xs _ H' => ∀ J, ItOk K g ow J xs H' → R J H'
theorem fz_grow {g : GI} {ow ow' : List Addr} {H0 H : Hp} (k : Sub (fz g ow H0) H) (h : ∀ a ∈ ow', a ∈ ow ∨ Nw H0 a) : Sub (fz g ow H0) (fz g ow' H) := fun b o e => by
  obtain ⟨h1, h2, h3⟩ := fz_at e
  have e4 := e
  unfold Cv.fz at e4
  rw [if_neg (fun z => z.elim h2 h3), h1] at e4
  have h4 : b ∉ ow' := fun z => by
    rcases h b z with q | q
    · exact h3 q
    · obtain ⟨ps, q⟩ := q o h1
      exact keepO_tbl e4 ps q
  have e3 := k b o e
  unfold Cv.fz
  rw [if_neg (fun z => z.elim h2 h4), e3]
  exact e4
theorem Kp.subz {g : GI} {ow : List Addr} {H0 H : Hp} (k : Kp g H0 H) : Sub (Cv.fz g ow H0) H := fun b o e => fz_sub _ _ (k.fz b o e)
section
variable {K : PySem.W.Frag} {g : GI} {ow : List Addr} {H0 : Hp}
theorem SqL.at_inj {H : Hp} {a : Addr} {vs ws : List V} (h : H a = some (.lst vs)) (nk : K.lookup a = none) (q : SqL K H a ws) : ws = vs := by
  rcases q with (q | ⟨o, q⟩) | ⟨o, its, n, q, _⟩
  · rw [h] at q; cases q; rfl
  · rw [h] at q; cases q
  · rw [nk] at q; cases q
theorem itOk_lst {a : Addr} {xs : List PV} {vs : List V} (h : fz g ow H0 a = some (.lst vs)) (r : Reps K g (fz g ow H0) xs vs) : ItOk K g ow (Itl K a) xs H0 := by
  intro i H k _
  obtain ⟨h1, h2, h3⟩ := fz_at h
  have hH : H a = some (.lst vs) := k a _ h
  refine ⟨fun x e => ?_, fun e => ⟨vs, SqL.of hH, by rw [← r.length]; exact e⟩⟩
  obtain ⟨u, e1, e2⟩ := r.get e
  refine ⟨⟨vs, u, SqL.of hH, e1⟩, fun v H' y => ?_⟩
  obtain ⟨rfl, y⟩ := y
  have e3 := y vs (SqL.of hH)
  rw [e1] at e3
  cases e3
  exact ⟨Kp.refl, fun _ z => z, fun _ _ => rfl, fun ow' _ hf => e2.sub (fz_grow k hf)⟩
theorem itOk_tup {a : Addr} {xs : List PV} {vs : List V} (h : SqT K (fz g ow H0) a vs) (r : Reps K g (fz g ow H0) xs vs) : ItOk K g ow (Itt K a) xs H0 := by
  intro i H k _
  have hH : SqT K H a vs := SqT.sub k h
  refine ⟨fun x e => ?_, fun e => ⟨vs, hH, by rw [← r.length]; exact e⟩⟩
  obtain ⟨u, e1, e2⟩ := r.get e
  refine ⟨⟨vs, u, hH, e1⟩, fun v H' y => ?_⟩
  obtain ⟨rfl, y⟩ := y
  have e3 := y vs hH
  rw [e1] at e3
  cases e3
  exact ⟨Kp.refl, fun _ z => z, fun _ _ => rfl, fun ow' _ hf => e2.sub (fz_grow k hf)⟩
theorem itOk_str (s : List Nat) : ItOk K g ow (Its ⟨s.toArray⟩) (s.map fun n => .str [n]) H0 := by
  intro i H k _
  refine ⟨fun x e => ?_, fun e => by show s.toArray.size ≤ i; simpa using e⟩
  rw [List.getElem?_map] at e
  cases q : s[i]? with
  | none => rw [q] at e; cases e
  | some n =>
    rw [q] at e
    cases e
    refine ⟨by show i < s.toArray.size; simpa using (List.getElem?_eq_some_iff.mp q).1, fun v H' y => ?_⟩
    obtain ⟨rfl, n', e1, rfl⟩ := y
    have e2 : s[i]? = some n' := by simpa using e1
    rw [q] at e2
    cases e2
    exact ⟨Kp.refl, fun _ z => z, fun _ _ => rfl, fun _ _ _ => .str [n]⟩
theorem upto_get : ∀ (n : Nat) (lo : Int) (i : Nat), (upto lo n)[i]? = if i < n then some (.int (lo + i)) else none
  | 0, lo, i => by simp [upto]
  | n + 1, lo, 0 => by simp [upto]
  | n + 1, lo, i + 1 => by
    show (upto (lo + 1) n)[i]? = _
    rw [upto_get n (lo + 1) i]
    by_cases h : i < n
    · rw [if_pos h, if_pos (by omega)]
      congr 2
      omega
    · rw [if_neg h, if_neg (by omega)]
theorem upto_len : ∀ (n : Nat) (lo : Int), (upto lo n).length = n
  | 0, _ => rfl
  | n + 1, lo => congrArg Nat.succ (upto_len n (lo + 1))
theorem itOk_rng (lo : Int) (n : Nat) : ItOk K g ow (Itr lo n) (upto lo n) H0 := by
  intro i H k _
  refine ⟨fun x e => ?_, fun e => by rw [upto_len] at e; exact e⟩
  rw [upto_get] at e
  split at e
  · rename_i hi
    cases e
    refine ⟨hi, fun v H' y => ?_⟩
    obtain ⟨rfl, rfl⟩ := y
    exact ⟨Kp.refl, fun _ z => z, fun _ _ => rfl, fun _ _ _ => .int _⟩
  · cases e
theorem zipV_get : ∀ (xs ys : List PV) (i : Nat), (zipV xs ys)[i]? = (match xs[i]?, ys[i]? with | some x, some y => some (.tup [x, y]) | _, _ => none)
  | [], ys, i => by simp [zipV]
  | x :: xs, [], i => by
    simp only [zipV, List.getElem?_nil]
    split <;> simp_all
  | x :: xs, y :: ys, 0 => by simp [zipV]
  | x :: xs, y :: ys, i + 1 => by
    show (zipV xs ys)[i]? = _
    rw [zipV_get xs ys i]
    simp
theorem zipV_len : ∀ (xs ys : List PV), (zipV xs ys).length = min xs.length ys.length
  | [], ys => by simp [zipV]
  | x :: xs, [] => by simp [zipV]
  | x :: xs, y :: ys => by simp [zipV, zipV_len xs ys]
/-- the pair that zip, enumerate yields -/
theorem pair_new {H : Hp} {T : Addr} {x y : PV} {u w : V} (k : Sub (fz g ow H0) H) (hc : ∃ c, Hs g c H) (hn : H T = none) (e1 : Rep K g (fz g ow H0) x u) (e2 : Rep K g (fz g ow H0) y w) :
    Kp g H (upd H T (.tup [u, w])) ∧ (∀ c, Hs g c H → Hs g c (upd H T (.tup [u, w]))) ∧ (∀ b, H b ≠ none → upd H T (.tup [u, w]) b = H b) ∧
    ∀ ow', (∀ a ∈ ow', ∃ vs, H a = some (.lst vs)) → (∀ a ∈ ow', a ∈ ow ∨ Nw H0 a) → Rep K g (fz g ow' (upd H T (.tup [u, w]))) (.tup [x, y]) (.ref T) :=
  ⟨Kp.upd hn, fun c z => z.upd hn, fun b z => upd_ne fun q => z (q ▸ hn), fun ow' hl hf => fresh_tup hl ⟨_, hc.choose_spec.1⟩ hn (.cons (e1.sub (fz_grow k hf)) (.cons (e2.sub (fz_grow k hf)) .nil))⟩
theorem itOk_zipL {a b : Addr} {xs ys : List PV} {vs ws : List V} (h : fz g ow H0 a = some (.lst vs)) (h' : fz g ow H0 b = some (.lst ws)) (r : Reps K g (fz g ow H0) xs vs) (r' : Reps K g (fz g ow H0) ys ws) : ItOk K g ow (Itz K a b) (zipV xs ys) H0 := by
  intro i H k hc
  obtain ⟨h1, h2, h3⟩ := fz_at h
  obtain ⟨h1', h2', h3'⟩ := fz_at h'
  have hA : H a = some (.lst vs) := k a _ h
  have hB : H b = some (.lst ws) := k b _ h'
  refine ⟨fun x e => ?_, fun e => ⟨vs, ws, SqL.of hA, SqL.of hB, ?_⟩⟩
  · rw [zipV_get] at e
    cases q : xs[i]? with
    | none => rw [q] at e; cases e
    | some x1 =>
      cases q' : ys[i]? with
      | none => rw [q, q'] at e; cases e
      | some y1 =>
        rw [q, q'] at e
        cases e
        obtain ⟨u, e1, e2⟩ := r.get q
        obtain ⟨w, e1', e2'⟩ := r'.get q'
        refine ⟨⟨vs, ws, u, w, SqL.of hA, SqL.of hB, e1, e1'⟩, fun v H' y => ?_⟩
        obtain ⟨T, u2, w2, rfl, hn, rfl, f1, f2⟩ := y
        have g1 := f1 vs (SqL.of hA)
        have g2 := f2 ws (SqL.of hB)
        rw [e1] at g1
        rw [e1'] at g2
        cases g1
        cases g2
        exact pair_new k hc hn e2 e2'
  · rw [zipV_len] at e
    rw [← r.length, ← r'.length]
    omega
theorem itOk_zipT {a b : Addr} {xs ys : List PV} {vs ws : List V} (h : SqT K (fz g ow H0) a vs) (h' : SqT K (fz g ow H0) b ws) (r : Reps K g (fz g ow H0) xs vs) (r' : Reps K g (fz g ow H0) ys ws) : ItOk K g ow (RZ.ItzT K a b) (zipV xs ys) H0 := by
  intro i H k hc
  have hA : SqT K H a vs := SqT.sub k h
  have hB : SqT K H b ws := SqT.sub k h'
  refine ⟨fun x e => ?_, fun e => ⟨vs, ws, hA, hB, ?_⟩⟩
  · rw [zipV_get] at e
    cases q : xs[i]? with
    | none => rw [q] at e; cases e
    | some x1 =>
      cases q' : ys[i]? with
      | none => rw [q, q'] at e; cases e
      | some y1 =>
        rw [q, q'] at e
        cases e
        obtain ⟨u, e1, e2⟩ := r.get q
        obtain ⟨w, e1', e2'⟩ := r'.get q'
        refine ⟨⟨vs, ws, u, w, hA, hB, e1, e1'⟩, fun v H' y => ?_⟩
        obtain ⟨T, u2, w2, rfl, hn, rfl, f1, f2⟩ := y
        have g1 := f1 vs hA
        have g2 := f2 ws hB
        rw [e1] at g1
        rw [e1'] at g2
        cases g1
        cases g2
        exact pair_new k hc hn e2 e2'
  · rw [zipV_len] at e
    rw [← r.length, ← r'.length]
    omega
theorem enumV_get : ∀ (xs : List PV) (k : Int) (i : Nat), (enumV k xs)[i]? = (xs[i]?).map fun x => .tup [.int (k + i), x]
  | [], k, i => by simp [enumV]
  | x :: xs, k, 0 => by simp [enumV]
  | x :: xs, k, i + 1 => by
    show (enumV (k + 1) xs)[i]? = _
    rw [enumV_get xs (k + 1) i, List.getElem?_cons_succ]
    congr 1
    funext y
    congr 3
    omega
theorem enumV_len : ∀ (xs : List PV) (k : Int), (enumV k xs).length = xs.length
  | [], _ => rfl
  | x :: xs, k => congrArg Nat.succ (enumV_len xs (k + 1))
theorem itOk_enum {a : Addr} {xs : List PV} {vs : List V} (h : fz g ow H0 a = some (.lst vs)) (r : Reps K g (fz g ow H0) xs vs) : ItOk K g ow (Ite K a) (enumV 0 xs) H0 := by
  intro i H k hc
  obtain ⟨h1, h2, h3⟩ := fz_at h
  have hA : H a = some (.lst vs) := k a _ h
  refine ⟨fun x e => ?_, fun e => ⟨vs, SqL.of hA, ?_⟩⟩
  · rw [enumV_get] at e
    cases q : xs[i]? with
    | none => rw [q] at e; cases e
    | some x1 =>
      rw [q] at e
      cases e
      obtain ⟨u, e1, e2⟩ := r.get q
      refine ⟨⟨vs, u, SqL.of hA, e1⟩, fun v H' y => ?_⟩
      obtain ⟨T, u2, rfl, hn, rfl, f1⟩ := y
      have g1 := f1 vs (SqL.of hA)
      rw [e1] at g1
      cases g1
      rw [show (0 : Int) + (i : Int) = (i : Int) by omega]
      exact pair_new k hc hn (.int _) e2
  · rw [enumV_len] at e
    rw [← r.length]
    exact e
end
section
variable {X : Cx} {C : Ctx} {g : GI} {E : XK} {cl : Calls} {raw : Bool} {p pos : Pos} {a b tg : PySem.Expr} {ma mb : Cv.Env → M PV}
/-- a list, a tuple, a text -/
def iAny (K : PySem.W.Frag) (tl : TE) : TI := fun σ H R => tl σ H fun x H1 => (∃ a xs, x = .ref a ∧ SqL K H1 a xs ∧ R (Itl K a) H1) ∨ (∃ a xs, x = .ref a ∧ SqT K H1 a xs ∧ R (Itt K a) H1) ∨ ∃ z, x = .str z ∧ R (Its z) H1
theorem pi_any {tl : TE} (hl : PE X a tl) : PI X tg a (iAny X.K tl) := by
  refine ⟨fun pins s σ H R I h => thn (hl.run pins s σ H _ I h) ?_⟩
  rintro v s1 ⟨x, H1, I1, r1, ⟨l, xs, rfl, hq, q⟩ | ⟨l, xs, rfl, hq, q⟩ | ⟨z, rfl, q⟩⟩
  · cases r1
    obtain ⟨its, rv, pl, _⟩ := I1.list hq
    exact wpAny_pyIter_list pl.isList (pi_one (tk := s1.toks) I1 _ (turn_list l _) ⟨_, Heap.get?_push_size _ rfl, rfl, rfl⟩ q)
  · cases r1
    obtain ⟨its, rv, pl, _⟩ := I1.tuple hq
    exact wpAny_pyIter_tuple (show s1.heap.IsTuple l its.toArray from pl) (pi_one (tk := s1.toks) I1 _ (turn_tuple l _) ⟨_, Heap.get?_push_size _ rfl, rfl, rfl⟩ q)
  · obtain ⟨t, rfl⟩ := r1
    cases hw : z.cps.all (· < 128)
    · exact wpAny_pyIter_wide hw (pi_one (tk := s1.toks) I1 _ (turn_str _ z t "str_iterator" (.inr rfl)) ⟨_, Heap.get?_push_size _ rfl, rfl, rfl⟩ q)
    · exact wpAny_pyIter_ascii hw (pi_one (tk := s1.toks) I1 _ (turn_str _ z t "str_ascii_iterator" (.inl rfl)) ⟨_, Heap.get?_push_size _ rfl, rfl, rfl⟩ q)
theorem pi_anyT (ha : PE X a (tE X.K g E false ma)) : PI X tg a (tI X.K g E fun env => bnd (ma env) fun x => lift x.items) := by
  refine PI.imp (pi_any ha) fun σ H R ⟨ow, env, c, st, q⟩ => ?_
  refine tE_bnd st q fun x v c1 H1 st1 k1 r1 q1 => ?_
  obtain ⟨xs, e, q2⟩ := Out.lift q1
  have q3 := q2 H1 Kp.refl st1.hs
  have r2 := r1.strict
  cases x <;> simp only [PV.items] at e <;> try cases e
  · cases r2
    exact .inr (.inr ⟨_, rfl, q3 _ (itOk_str _)⟩)
  · cases r2 with
    | tup h r => exact .inr (.inl ⟨_, _, rfl, SqT.sub fz_sub h, q3 _ (itOk_tup h r)⟩)
  · cases r2 with
    | lst h r => exact .inl ⟨_, _, rfl, SqL.of (fz_at h).1, q3 _ (itOk_lst h r)⟩
theorem rngOk_iff {i : Int} (h : rngOk i = true) : -(2 ^ 62) ≤ i ∧ i < 2 ^ 62 := by
  unfold rngOk at h
  simp only [Bool.and_eq_true, decide_eq_true_eq] at h
  omega
theorem star1 (na : notStar a = true) : starEach [a] X.env = [(false, eval a X.env)] := starEach_cons na
theorem star2 (na : notStar a = true) (nb : notStar b = true) : starEach [a, b] X.env = [(false, eval a X.env), (false, eval b X.env)] := by
  rw [starEach_cons na, starEach_cons nb]
  rfl
theorem pi_rng1T {f : Str} (hf : f = ("range" : Str)) (hb : Gl X f ∧ (f == ("__debug__" : Str)) = false ∧ X.mg f = none ∧ f ≠ "__name__") (na : notStar a = true) (ha : PE X a (tE X.K g E true ma)) :
    PI X tg (.Call (.Name f p) [a] [] pos) (tI X.K g E fun env => bnd (ma env) fun x => bnd (intM x) fun j => lift (if rngOk j then some (upto 0 j.toNat) else none)) := by
  subst hf
  refine PI.imp (pi_range1 hb.1 hb.2.2.1 (pa_cons ha pa_nil (starEach_cons na)) (star1 na)) fun σ H R ⟨ow, env, c, st, q⟩ => ?_
  refine tE_bnd st q fun x v c1 H1 st1 k1 r1 q1 => ?_
  obtain ⟨j, e1, q2⟩ := Out.bndL q1
  cases x <;> cases e1
  rw [r1.int]
  obtain ⟨xs, e2, q3⟩ := Out.lift q2
  split at e2
  · rename_i hj
    cases e2
    exact ⟨j, rfl, (rngOk_iff hj).1, (rngOk_iff hj).2, q3 H1 Kp.refl st1.hs _ (itOk_rng 0 _)⟩
  · cases e2
theorem pi_rng2T {f : Str} (hf : f = ("range" : Str)) (hb' : Gl X f ∧ (f == ("__debug__" : Str)) = false ∧ X.mg f = none ∧ f ≠ "__name__") (na : notStar a = true) (nb : notStar b = true) (ha : PE X a (tE X.K g E true ma)) (hb : PE X b (tE X.K g E true mb)) :
    PI X tg (.Call (.Name f p) [a, b] [] pos) (tI X.K g E fun env => bnd (ma env) fun x => bnd (intM x) fun i => bnd (mb env) fun y => bnd (intM y) fun j => lift (if rngOk i && rngOk j then some (upto i (j - i).toNat) else none)) := by
  subst hf
  refine PI.imp (pi_range2 hb'.1 hb'.2.2.1 (pa_cons ha (pa_cons hb pa_nil (starEach_cons nb)) (starEach_cons na)) (star2 na nb) (star1 nb)) fun σ H R ⟨ow, env, c, st, q⟩ => ?_
  refine tE_bnd st q fun x v c1 H1 st1 k1 r1 q1 => ?_
  obtain ⟨i, e1, q2⟩ := Out.bndL q1
  cases x <;> cases e1
  rw [r1.int]
  refine tE_bnd st1 q2 fun y w c2 H2 st2 k2 r2 q3 => ?_
  obtain ⟨j, e2, q4⟩ := Out.bndL q3
  cases y <;> cases e2
  rw [r2.int]
  obtain ⟨xs, e3, q5⟩ := Out.lift q4
  split at e3
  · rename_i hj
    cases e3
    rw [Bool.and_eq_true] at hj
    exact ⟨i, j, rfl, ⟨(rngOk_iff hj.1).1, (rngOk_iff hj.1).2, (rngOk_iff hj.2).1, (rngOk_iff hj.2).2⟩, q5 H2 Kp.refl st2.hs _ (itOk_rng i _)⟩
  · cases e3
theorem pi_zipTT {f : Str} {elts : List PySem.Expr} {kk : Nat} {tpos : Pos} (hf : f = ("zip" : Str)) (hb' : Gl X f ∧ (f == ("__debug__" : Str)) = false ∧ X.mg f = none ∧ f ≠ "__name__") (na : notStar a = true) (nb : notStar b = true) (ha : PE X a (tE X.K g E false ma)) (hb : PE X b (tE X.K g E false mb)) :
    PI X (.Tuple elts kk tpos) (.Call (.Name f p) [a, b] [] pos) (tI X.K g E fun env => bnd (ma env) fun x => bnd (mb env) fun y => lift (match x, y with
      | .lst xs, .lst ys => some (zipV xs ys)
      | .tup xs, .tup ys => some (zipV xs ys)
      | _, _ => none)) := by
  subst hf
  have any : (backTo pos (starEach [b] X.env)).any (·.1) = false := by
    rw [starEach_cons nb]
    rfl
  refine PI.imp (RZ.pi_zipA hb'.1 hb'.2.2.1 (pa_cons ha (pa_cons hb pa_nil (starEach_cons nb)) (starEach_cons na)) (starEach_cons na) any) fun σ H R ⟨ow, env, c, st, q⟩ => ?_
  refine tE_bnd st q fun x v c1 H1 st1 k1 r1 q1 => ?_
  refine tE_bnd st1 q1 fun y w c2 H2 st2 k2 r2 q2 => ?_
  obtain ⟨zs, e, q3⟩ := Out.lift q2
  have q4 := q3 H2 Kp.refl st2.hs
  have r1 := (r1.kp k2 st.nc).strict
  have r2 := r2.strict
  cases x <;> cases y <;> try cases e
  · cases r1 with
    | tup h r =>
      cases r2 with
      | tup h' r' => exact ⟨_, _, _, _, rfl, .inr ⟨SqT.sub fz_sub h, SqT.sub fz_sub h', q4 _ (itOk_zipT h h' r r')⟩⟩
  · cases r1 with
    | lst h r =>
      cases r2 with
      | lst h' r' => exact ⟨_, _, _, _, rfl, .inl ⟨SqL.of (fz_at h).1, SqL.of (fz_at h').1, q4 _ (itOk_zipL h h' r r')⟩⟩
theorem pi_enumT {f : Str} {elts : List PySem.Expr} {kk : Nat} {tpos : Pos} (hf : f = ("enumerate" : Str)) (hb' : Gl X f ∧ (f == ("__debug__" : Str)) = false ∧ X.mg f = none ∧ f ≠ "__name__") (na : notStar a = true) (ha : PE X a (tE X.K g E false ma)) :
    PI X (.Tuple elts kk tpos) (.Call (.Name f p) [a] [] pos) (tI X.K g E fun env => bnd (ma env) fun x => lift (match x with
      | .lst xs => some (enumV 0 xs)
      | _ => none)) := by
  subst hf
  refine PI.imp (pi_enum hb'.1 hb'.2.2.1 (pa_cons ha pa_nil (starEach_cons na)) (star1 na)) fun σ H R ⟨ow, env, c, st, q⟩ => ?_
  refine tE_bnd st q fun x v c1 H1 st1 k1 r1 q1 => ?_
  obtain ⟨zs, e, q3⟩ := Out.lift q1
  have q4 := q3 H1 Kp.refl st1.hs
  have r1 := r1.strict
  cases x <;> try cases e
  cases r1 with
  | lst h r => exact ⟨_, _, rfl, SqL.of (fz_at h).1, q4 _ (itOk_enum h r)⟩
end
end Cv

set_option Elab.async false
set_option linter.all false
set_option maxRecDepth 100000
/-! CvL: targets; list comprehensions. -/
namespace Cv
open PySem PySem.Spec PyProof.Rows L2

section
variable {K : PySem.W.Frag} {g : GI} {ow : List Addr} {env : Cv.Env} {σ : L2.St} {H : Hp}
theorem EnvR.set (r : EnvR K g ow env σ H) (k : Nat) {x : PV} {v : V} (rx : Rep K g (fz g ow H) x v) : EnvR K g ow (env.set k (some (.val x))) (σ.set k (some v)) H := by
  refine ⟨by rw [List.length_set, List.length_set]; exact r.len, fun i y e => ?_, fun i xs e => ?_, fun i j a xs ys hij e1 e2 => ?_⟩
  · by_cases h : k = i
    · subst h
      by_cases hl : k < env.length
      · rw [List.getElem?_set_self hl] at e
        cases e
        exact ⟨v, by rw [List.getElem?_set_self (by rw [← r.len]; exact hl)], rx⟩
      · rw [List.getElem?_eq_none (by rw [List.length_set]; omega)] at e
        cases e
    · rw [List.getElem?_set_ne h] at e ⊢
      exact r.val i y e
  · by_cases h : k = i
    · subst h
      by_cases hl : k < env.length
      · rw [List.getElem?_set_self hl] at e
        cases e
      · rw [List.getElem?_eq_none (by rw [List.length_set]; omega)] at e
        cases e
    · rw [List.getElem?_set_ne h] at e ⊢
      exact r.own i xs e
  · have hk : ∀ i zs, (env.set k (some (Slot.val x)))[i]? = some (some (Slot.own zs)) → k ≠ i ∧ env[i]? = some (some (Slot.own zs)) := fun i zs e => by
      by_cases h : k = i
      · subst h
        by_cases hl : k < env.length
        · rw [List.getElem?_set_self hl] at e
          cases e
        · rw [List.getElem?_eq_none (by rw [List.length_set]; omega)] at e
          cases e
      · rw [List.getElem?_set_ne h] at e
        exact ⟨h, e⟩
    obtain ⟨n1, e1⟩ := hk i xs e1
    obtain ⟨n2, e2⟩ := hk j ys e2
    rw [List.getElem?_set_ne n1, List.getElem?_set_ne n2]
    exact r.inj i j a xs ys hij e1 e2
theorem EnvR.clear (r : EnvR K g ow env σ H) (k : Nat) : EnvR K g ow (env.set k none) (σ.set k none) H := by
  have hk : ∀ i (s : Slot), (env.set k none)[i]? = some (some s) → k ≠ i ∧ env[i]? = some (some s) := fun i s e => by
    by_cases h : k = i
    · subst h
      by_cases hl : k < env.length
      · rw [List.getElem?_set_self hl] at e
        cases e
      · rw [List.getElem?_eq_none (by rw [List.length_set]; omega)] at e
        cases e
    · rw [List.getElem?_set_ne h] at e
      exact ⟨h, e⟩
  refine ⟨by rw [List.length_set, List.length_set]; exact r.len, fun i y e => ?_, fun i xs e => ?_, fun i j a xs ys hij e1 e2 => ?_⟩
  · obtain ⟨n, e⟩ := hk i _ e
    rw [List.getElem?_set_ne n]
    exact r.val i y e
  · obtain ⟨n, e⟩ := hk i _ e
    rw [List.getElem?_set_ne n]
    exact r.own i xs e
  · obtain ⟨n1, e1⟩ := hk i _ e1
    obtain ⟨n2, e2⟩ := hk j _ e2
    rw [List.getElem?_set_ne n1, List.getElem?_set_ne n2]
    exact r.inj i j a xs ys hij e1 e2
theorem EnvR.wipe (r : EnvR K g ow env σ H) : ∀ vs : List Nat, EnvR K g ow (wipeE env vs) (L2.wipe σ vs) H
  | [] => r
  | v :: vs => (EnvR.wipe r vs).clear v
/-- the excluded ones may be more, the heap later -/
theorem EnvR.grow {ow' : List Addr} {H' : Hp} (r : EnvR K g ow env σ H) (nc : g.c ∉ ow) (k : Kp g H H') (h : ∀ a ∈ ow', a ∈ ow ∨ Nw H a) (h2 : ∀ a ∈ ow, a ∈ ow') : EnvR K g ow' env σ H' := by
  refine ⟨r.len, fun i y e => ?_, fun i xs e => ?_, r.inj⟩
  · obtain ⟨u, h1, h3⟩ := r.val i y e
    exact ⟨u, h1, h3.sub (fz_grow k.subz h)⟩
  · obtain ⟨a, vs, h1, h3, h4, h5⟩ := r.own i xs e
    exact ⟨a, vs, h1, h2 a h3, k a _ h4 (fun z => nc (z ▸ h3)) (fun ps z => by cases z), h5.sub (fz_grow k.subz h)⟩
theorem wipe_get : ∀ (vs : List Nat) (σ : L2.St) (i : Nat), (L2.wipe σ vs)[i]? = if i ∈ vs then (if i < σ.length then some none else none) else σ[i]?
  | [], σ, i => by simp [L2.wipe]
  | v :: vs, σ, i => by
    show ((L2.wipe σ vs).set v none)[i]? = _
    by_cases h : v = i
    · subst h
      rw [if_pos (List.mem_cons_self ..)]
      by_cases hl : v < σ.length
      · rw [List.getElem?_set_self (by rw [wipe_length]; exact hl), if_pos hl]
      · rw [List.getElem?_eq_none (by rw [List.length_set, wipe_length]; omega), if_neg hl]
    · rw [List.getElem?_set_ne h, wipe_get vs σ i]
      by_cases hm : i ∈ vs
      · rw [if_pos hm, if_pos (List.mem_cons_of_mem _ hm)]
      · rw [if_neg hm, if_neg]
        intro z
        rcases List.mem_cons.mp z with z | z
        · exact h z.symm
        · exact hm z
theorem wipe_same {σ σ2 : L2.St} {vs : List Nat} (hl : σ2.length = σ.length) (h : ∀ i, i ∉ vs → σ2[i]? = (L2.wipe σ vs)[i]?) : L2.wipe σ2 vs = L2.wipe σ vs := by
  apply List.ext_getElem?
  intro i
  rw [wipe_get, wipe_get, hl]
  by_cases hm : i ∈ vs
  · rw [if_pos hm, if_pos hm]
  · rw [if_neg hm, if_neg hm, h i hm, wipe_get, if_neg hm]
end

/-! ### targets -/
def tG (K : PySem.W.Frag) (g : GI) (t : Tg) : TG := fun v σ H Q => ∃ x ow env env', EnvR K g ow env σ H ∧ Rep K g (fz g ow H) x v ∧ t.f.one x env = some env' ∧
  ∀ σ', EnvR K g ow env' σ' H → σ'.length = σ.length → (∀ i, i ∉ t.vars → σ'[i]? = σ[i]?) → Q σ' H
def tGs (K : PySem.W.Frag) (g : GI) (t : Tg) : TGs := fun vs σ H Q => ∃ xs ow env env', EnvR K g ow env σ H ∧ Reps K g (fz g ow H) xs vs ∧ t.f.all xs env = some env' ∧
  ∀ σ', EnvR K g ow env' σ' H → σ'.length = σ.length → (∀ i, i ∉ t.vars → σ'[i]? = σ[i]?) → Q σ' H
theorem PG.imp {X : Cx} {e : PySem.Expr} {t t' : TG} (h : PG X e t) (w : ∀ v σ H Q, t' v σ H Q → t v σ H Q) : PG X e t' := ⟨fun pins s σ H v u Q I r q => h.run pins s σ H v u Q I r (w v σ H Q q)⟩
theorem PGs.imp {X : Cx} {e : List PySem.Expr} {t t' : TGs} (h : PGs X e t) (w : ∀ v σ H Q, t' v σ H Q → t v σ H Q) : PGs X e t' := ⟨fun pins s σ H v u Q I r q => h.run pins s σ H v u Q I r (w v σ H Q q)⟩
theorem assignEach_cons {e : PySem.Expr} {es : List PySem.Expr} {env : PySem.Env} (h : notStar e = true) : assignEach (e :: es) env = (false, assign e env) :: assignEach es env := by
  cases e <;> first | rfl | cases h
theorem assignEach_all {env : PySem.Env} : ∀ {es : List PySem.Expr}, es.all notStar = true → (assignEach es env).length = es.length ∧ (assignEach es env).findIdx? (·.1) = none
  | [], _ => ⟨rfl, rfl⟩
  | e :: es, h => by
    rw [List.all_cons, Bool.and_eq_true] at h
    obtain ⟨h1, h2⟩ := assignEach_all (env := env) h.2
    rw [assignEach_cons h.1]
    refine ⟨congrArg Nat.succ h1, ?_⟩
    rw [List.findIdx?_cons, h2]
    rfl
section
variable {X : Cx} {C : Ctx} {g : GI} {st : Scope}
theorem tg_len (t : Tg) : ∀ {sc : Scope} {es : List PySem.Expr} {xs : List PV} {env env' : Cv.Env}, (t.chk C).all st sc es = true → t.f.all xs env = some env' → xs.length = es.length := by
  induction t with
  | v k => intro sc es xs env env' h; cases h
  | tup ts ih => intro sc es xs env env' h; cases h
  | nil =>
    intro sc es xs env env' h e
    have h : es.isEmpty = true := h
    rw [List.isEmpty_iff.mp h]
    cases xs with
    | nil => rfl
    | cons _ _ => cases e
  | cons a b iha ihb =>
    intro sc es xs env env' h e
    cases es with
    | nil => cases h
    | cons y r =>
      have h : ((a.chk C).one st sc y && (b.chk C).all st sc r) = true := h
      rw [Bool.and_eq_true] at h
      cases xs with
      | nil => cases e
      | cons x xr =>
        have e : ((Tg.f a).one x env).bind (fun e => (Tg.f b).all xr e) = some env' := e
        cases q : (Tg.f a).one x env with
        | none => rw [q] at e; cases e
        | some e1 =>
          rw [q] at e
          exact congrArg Nat.succ (ihb h.2 e)
theorem pg_all (hN : X.N = C.N) (nd : X.N.Nodup) (calm : X.calm = true) (hst : ∀ x, locB st x = true → locB X.env.scope x = true → X.fn x = true ∨ X.env.scope.names.lookup x = some .local) (t : Tg) :
    (∀ e, (t.chk C).one st X.env.scope e = true → PG X e (tG X.K g t)) ∧ ∀ es, (t.chk C).all st X.env.scope es = true → es.all notStar = true → PGs X es (tGs X.K g t) := by
  induction t with
  | v k =>
    refine ⟨fun e h => ?_, fun es h => (by cases h)⟩
    cases e with
    | Name x p =>
      have h : (decide (C.N[k]? = some x) && locB st x && locB X.env.scope x) = true := h
      simp only [Bool.and_eq_true, decide_eq_true_eq] at h
      have hl : Loc X.env.scope x := by
        have h2 := h.2
        unfold locB at h2
        simp only [Bool.or_eq_true, decide_eq_true_eq] at h2
        exact h2
      refine PG.imp (pg_name nd (by rw [hN]; exact h.1.1) hl (hst x h.1.2 h.2)) fun v σ H Q ⟨x, ow, env, env', r, rx, e, q⟩ => ?_
      cases e
      refine q _ (r.set k rx) (List.length_set ..) fun i hi => ?_
      exact List.getElem?_set_ne fun z => hi (List.mem_singleton.mpr z.symm)
    | _ => cases h
  | tup ts ih =>
    refine ⟨fun e h => ?_, fun es h => (by cases h)⟩
    cases e with
    | Tuple es k p =>
      have h : ((ts.chk C).all st X.env.scope es && es.all notStar) = true := h
      rw [Bool.and_eq_true] at h
      have hs := ih.2 es h.1 h.2
      obtain ⟨h1, h2⟩ := assignEach_all (env := X.env) h.2
      have pt := pg_tup (k := k) (pos := p) calm hs h1 h2
      have pl := pg_lst (k := k) (pos := p) calm hs h1 h2
      refine ⟨fun pins s σ H v u Q I rv ⟨x, ow, env, env', r, rx, e, q⟩ => ?_⟩
      cases rx with
      | tup hq rs =>
        have e : (Tg.f ts).all _ env = some env' := e
        exact pt.run pins s σ H _ u Q I rv ⟨_, _, rfl, SqT.sub fz_sub hq, by rw [← rs.length]; exact tg_len ts h.1 e, _, ow, env, env', r, rs, e, q⟩
      | lst hq rs =>
        have e : (Tg.f ts).all _ env = some env' := e
        exact pl.run pins s σ H _ u Q I rv ⟨_, _, rfl, SqL.of (fz_at hq).1, by rw [← rs.length]; exact tg_len ts h.1 e, _, ow, env, env', r, rs, e, q⟩
      | _ => cases e
    | _ => cases h
  | nil =>
    refine ⟨fun e h => (by cases h), fun es h ns => ?_⟩
    have h : es.isEmpty = true := h
    rw [List.isEmpty_iff.mp h]
    refine PGs.imp pgs_nil fun vs σ H Q ⟨xs, ow, env, env', r, rs, e, q⟩ => ?_
    cases xs with
    | nil =>
      cases rs
      cases e
      exact ⟨rfl, q σ r rfl fun _ _ => rfl⟩
    | cons _ _ => cases e
  | cons a b iha ihb =>
    refine ⟨fun e h => (by cases h), fun es h ns => ?_⟩
    cases es with
    | nil => cases h
    | cons y es =>
      have h : ((a.chk C).one st X.env.scope y && (b.chk C).all st X.env.scope es) = true := h
      rw [Bool.and_eq_true] at h
      rw [List.all_cons, Bool.and_eq_true] at ns
      refine PGs.imp (pgs_cons (iha.1 y h.1) (ihb.2 es h.2 ns.2) (by rw [assignEach_cons ns.1]; rfl)) fun vs σ H Q ⟨xs, ow, env, env', r, rs, e, q⟩ => ?_
      cases xs with
      | nil => cases e
      | cons x xs =>
        cases rs with
        | cons rx rs =>
          rename_i vv vvs
          have e : ((Tg.f a).one x env).bind (fun e => (Tg.f b).all xs e) = some env' := e
          cases e1 : (Tg.f a).one x env with
          | none => rw [e1] at e; cases e
          | some env1 =>
            rw [e1] at e
            refine ⟨_, _, rfl, x, ow, env, env1, r, rx, e1, fun σ1 r1 hl1 hv1 => ?_⟩
            refine ⟨xs, ow, env1, env', r1, rs, e, fun σ2 r2 hl2 hv2 => ?_⟩
            refine q σ2 r2 (hl2.trans hl1) fun i hi => ?_
            have hi' : i ∉ a.vars ∧ i ∉ b.vars := by
              have z : i ∉ a.vars ++ b.vars := hi
              rw [List.mem_append, not_or] at z
              exact z
            rw [hv2 i hi'.2, hv1 i hi'.1]
end

/-! ### list comprehensions -/
theorem Hs.set {g : GI} {c : Cup} {H : Hp} {D : Addr} {vs ws : List V} (h : Hs g c H) (e : H D = some (.lst vs)) (n : D ≠ g.c) : Hs g c (L2.upd H D (.lst ws)) := by
  refine ⟨by rw [upd_ne n.symm]; exact h.1, fun p hp => ?_⟩
  obtain ⟨ps, h1, h2, h3⟩ := h.2 p hp
  have n1 : p.1 ≠ D := fun z => by rw [z, e] at h1; cases h1
  refine ⟨ps, by rw [upd_ne n1]; exact h1, h2, fun pos cv q => ?_⟩
  obtain ⟨c', e1, e2⟩ := h3 pos cv q
  have n2 : c' ≠ D := fun z => by
    rw [z, e] at e2
    unfold LamX.CodeO at e2
    cases e2
  exact ⟨c', e1, by rw [upd_ne n2]; exact e2⟩
theorem fz_out {g : GI} {ow : List Addr} {H : Hp} {D : Addr} {o : HO} (h : D ∈ ow) : fz g ow (L2.upd H D o) = fz g ow H := by
  funext b
  unfold fz
  by_cases hb : b = D
  · rw [if_pos (.inr (hb ▸ h)), if_pos (.inr (hb ▸ h))]
  · rw [upd_ne hb]
abbrev EF : XK := fun _ _ _ => False
theorem Out.noExc {α : Type} {g : GI} {E : XK} {H : Hp} {m : M α} {c : Cup} {β : Type} {f : α → M β} {k : β → Cup → Hp → Prop} (h : Out g E H (Cv.bnd (Cv.noExc m) f c) k) : ∃ a c1, m c = .ok a c1 ∧ Out g E H (f a c1) k := by
  have h' : Out g E H ((Cv.noExc m c).then f) k := h
  unfold Cv.noExc at h'
  cases e : m c with
  | ok a c1 => rw [e] at h'; exact ⟨a, c1, rfl, h'⟩
  | exc i p c1 => rw [e] at h'; exact False.elim h'
  | bad => rw [e] at h'; exact False.elim h'
section
variable {X : Cx} {C : Ctx} {g : GI} {E : XK} {raw : Bool} {elt tg iter : PySem.Expr} {ifs : List PySem.Expr} {scope : Scope} {pos : Pos}
theorem lc_read {t : Tg} {mi : Cv.Env → M (List PV)} {mc : Cv.Env → M Bool} {me : Cv.Env → M PV} {own : List (Str × Nat)} (hv : ∀ k ∈ t.vars, k ∈ own.map (·.2))
    {σ : L2.St} {H : Hp} {Q : VK} {ow : List Addr} {env : Cv.Env} {c : Cup} {kk : PV → Cup → Hp → Prop} (st : StR X.K g ow env c σ H)
    (q : Out g E H (bnd (mi env) (fun xs => if xs.length < big then bnd (noExc (lcL t.f mc me (wipeE env (own.map (·.2))) xs)) fun ys => ret (PV.lst ys) else badM) c) kk)
    (fin : ∀ (D : Addr) (acc : List V) (ys : List PV) (c1 cc : Cup) (H1 H2 : Hp), Kp g H H1 → Hs g c1 H1 → H1 D = none → Kp g H1 H2 → Hs g cc H2 → H2 D = some (.lst acc) → Reps X.K g (fz g (D :: ow) H2) ys acc → kk (.lst ys) cc H2 → Q (.ref D) H2) :
    tLc (tI X.K g E mi) (tG X.K g t) (tT X.K g EF mc) (tE X.K g EF false me) (own.map (·.2)) σ H Q := by
  generalize hvs : own.map (·.2) = vs at *
  refine ⟨ow, env, c, st, (Out.bnd q).imp fun xs c1 H1 k1 hs1 q1 J hJ D hD => ?_⟩
  have st1 := st.kp k1 hs1
  have hDc : D ≠ g.c := fun z => by
    have := hs1.1
    rw [← z, hD] at this
    cases this
  have hDo : D ∉ ow := fun z => by
    obtain ⟨vs, e⟩ := st1.live D z
    rw [hD] at e
    cases e
  split at q1
  · rename_i hlen
    refine ⟨fun i m H2 => m = xs.length - i ∧ i ≤ xs.length ∧ ∃ cc acc ys, Hs g cc H2 ∧ H2 D = some (.lst acc) ∧ Reps X.K g (fz g (D :: ow) H2) ys acc ∧ ys.length ≤ i ∧ Kp g H1 H2 ∧
      Out g E H1 (bnd (noExc (lcL t.f mc me (wipeE env vs) (xs.drop i))) (fun zs => ret (PV.lst (ys ++ zs))) cc) kk, ⟨xs.length, by simp, Nat.zero_le _, c1, [], [], ?_, upd_same, .nil, Nat.le_refl _, Kp.upd hD, q1⟩, ?_⟩
    · exact hs1.upd hD
    · rintro i m H2 ⟨rfl, hi2, cc, acc, ys, hs2, hD2, rys, hyl, k2, q2⟩
      have live2 : ∀ a ∈ D :: ow, ∃ vs, H2 a = some (.lst vs) := fun a ha => by
        rcases List.mem_cons.mp ha with rfl | ha
        · exact ⟨acc, hD2⟩
        · obtain ⟨ws, e⟩ := st1.live a ha
          exact ⟨ws, k2 a _ e (fun z => st1.nc (z ▸ ha)) fun ps z => by cases z⟩
      have fresh2 : ∀ a ∈ D :: ow, a ∈ ow ∨ Nw H1 a := fun a ha => by
        rcases List.mem_cons.mp ha with rfl | ha
        · exact .inr (Nw.of hD)
        · exact .inl ha
      obtain ⟨go, stop⟩ := hJ i H2 k2.subz ⟨cc, hs2⟩
      by_cases hlt : i < xs.length
      · obtain ⟨x, rest, hx, hr⟩ : ∃ x rest, xs.drop i = x :: rest ∧ xs[i]? = some x := by
          refine ⟨xs[i], xs.drop (i + 1), List.drop_eq_getElem_cons hlt, List.getElem?_eq_getElem hlt⟩
        have hrest : rest = xs.drop (i + 1) := by
          have := List.drop_eq_getElem_cons hlt
          rw [hx] at this
          exact (List.cons.inj this).2
        obtain ⟨hgo, hy⟩ := go x hr
        refine .inr ⟨hgo, fun H' => xs.length - (i + 1) = xs.length - (i + 1) ∧ i + 1 ≤ xs.length ∧ ∃ cc acc ys, Hs g cc H' ∧ H' D = some (.lst acc) ∧ Reps X.K g (fz g (D :: ow) H') ys acc ∧ ys.length ≤ i + 1 ∧ Kp g H1 H' ∧
          Out g E H1 (bnd (noExc (lcL t.f mc me (wipeE env vs) (xs.drop (i + 1)))) (fun zs => ret (PV.lst (ys ++ zs))) cc) kk, fun H' n => ⟨xs.length - (i + 1), by omega, n⟩, fun v H' y => ?_⟩
        obtain ⟨k3, hh3, keep3, rep3⟩ := hy v H' y
        have hs3 := hh3 cc hs2
        have hD3 : H' D = some (.lst acc) := by rw [keep3 D (by rw [hD2]; exact fun z => by cases z)]; exact hD2
        rw [hx] at q2
        -- the target
        have q2 : Out g E H1 (bnd (noExc (match t.f.one x (wipeE env vs) with
          | none => badM
          | some env1 => bnd (mc env1) fun b => match b with
            | false => lcL t.f mc me (wipeE env vs) rest
            | true => bnd (me env1) fun y => bnd (lcL t.f mc me (wipeE env vs) rest) fun ys => ret (y :: ys))) (fun zs => ret (PV.lst (ys ++ zs))) cc) _ := q2
        cases e1 : t.f.one x (wipeE env vs) with
        | none =>
          rw [e1] at q2
          obtain ⟨_, _, z, _⟩ := Out.noExc q2
          cases z
        | some env1 =>
        rw [e1] at q2
        obtain ⟨a0, c0, ez, qz⟩ := Out.noExc q2
        have ez : (mc env1 cc).then (fun b => match b with
            | false => lcL t.f mc me (wipeE env vs) rest
            | true => bnd (me env1) fun y => bnd (lcL t.f mc me (wipeE env vs) rest) fun ys => ret (y :: ys)) = .ok a0 c0 := ez
        have envr : EnvR X.K g (D :: ow) (wipeE env vs) (L2.wipe σ vs) H' := (st1.env.grow st1.nc (k2.trans k3) fresh2 fun a ha => List.mem_cons_of_mem _ ha).wipe vs
        refine ⟨x, D :: ow, wipeE env vs, env1, envr, rep3 (D :: ow) live2 fresh2, e1, fun σ2 r2 hl2 hv2 => ⟨?_, ?_⟩⟩
        · refine wipe_same (by rw [hl2, wipe_length]) fun j hj => hv2 j fun z => hj (hv j z)
        · have nc' : g.c ∉ D :: ow := fun z => by
            rcases List.mem_cons.mp z with z | z
            · exact hDc z.symm
            · exact st1.nc z
          have live3 : ∀ a ∈ D :: ow, ∃ vs, H' a = some (.lst vs) := fun a ha => by
            obtain ⟨ws, e⟩ := live2 a ha
            exact ⟨ws, k3 a _ e (fun z => nc' (z ▸ ha)) fun ps z => by cases z⟩
          have st3 : StR X.K g (D :: ow) env1 cc σ2 H' := ⟨nc', live3, hs3, r2⟩
          refine ⟨D :: ow, env1, cc, st3, ?_⟩
          cases e2 : mc env1 cc with
          | bad => rw [e2] at ez; cases ez
          | exc j pp c3 => rw [e2] at ez; cases ez
          | ok b c3 =>
          rw [e2] at ez
          intro H4 k4 hs4
          have st4 := st3.kp k4 hs4
          have hD4 : H4 D = some (.lst acc) := k4 D _ hD3 hDc fun ps z => by cases z
          have rys4 : Reps X.K g (fz g (D :: ow) H4) ys acc := (rys.sub k3.fz).sub k4.fz
          cases b with
          | false =>
            show if false = true then _ else _
            rw [if_neg Bool.false_ne_true]
            refine ⟨rfl, hlt, c3, acc, ys, hs4, hD4, rys4, by omega, (k2.trans k3).trans k4, ?_⟩
            rw [← hrest]
            have ez : lcL t.f mc me (wipeE env vs) rest c3 = .ok a0 c0 := ez
            show Out g E H1 ((noExc (lcL t.f mc me (wipeE env vs) rest) c3).then _) _
            unfold noExc
            rw [ez]
            exact qz
          | true =>
            show if true = true then _ else _
            rw [if_pos rfl]
            have ez : (me env1 c3).then (fun y => bnd (lcL t.f mc me (wipeE env vs) rest) fun ys => ret (y :: ys)) = .ok a0 c0 := ez
            refine ⟨D :: ow, env1, c3, st4, ?_⟩
            cases e3 : me env1 c3 with
            | bad => rw [e3] at ez; cases ez
            | exc j pp c4 => rw [e3] at ez; cases ez
            | ok yv c4 =>
            rw [e3] at ez
            intro H5 k5 hs5 v5 rv5
            have hD5 : H5 D = some (.lst acc) := k5 D _ hD4 hDc fun ps z => by cases z
            have rys5 : Reps X.K g (fz g (D :: ow) H5) ys acc := rys4.sub k5.fz
            have hl5 := rys.length
            have hb := big_eq
            refine ⟨acc, hD5, by omega, rfl, hlt, c4, acc ++ [v5], ys ++ [yv], hs5.set hD5 hDc, upd_same, ?_, by rw [List.length_append]; simp; omega, ?_, ?_⟩
            · rw [fz_out (List.mem_cons_self ..)]
              exact rys5.app (.cons rv5.strict .nil)
            · intro b o e n tb
              have e5 := (((k2.trans k3).trans k4).trans k5) b o e n tb
              rw [upd_ne fun z => by rw [z, hD] at e; cases e]
              exact e5
            · rw [← hrest]
              have ez : (lcL t.f mc me (wipeE env vs) rest c4).then (fun ys => ret (yv :: ys)) = .ok a0 c0 := ez
              show Out g E H1 ((noExc (lcL t.f mc me (wipeE env vs) rest) c4).then _) _
              unfold noExc
              cases e4 : lcL t.f mc me (wipeE env vs) rest c4 with
              | bad => rw [e4] at ez; cases ez
              | exc j pp c5 => rw [e4] at ez; cases ez
              | ok zs c5 =>
                rw [e4] at ez
                cases ez
                have e5 : ys ++ [yv] ++ zs = ys ++ yv :: zs := by simp
                show Out g E H1 (ret (PV.lst (ys ++ [yv] ++ zs)) _) _
                rw [e5]
                exact qz
      · have hi3 : i = xs.length := by omega
        subst hi3
        refine .inl ⟨stop (Nat.le_refl _), ?_⟩
        rw [List.drop_length] at q2
        have q3 : Out g E H1 (ret (PV.lst (ys ++ [])) cc) kk := q2
        rw [List.append_nil] at q3
        exact fin D acc ys c1 cc H1 H2 k1 hs1 hD k2 hs2 hD2 rys (q3 H2 k2 hs2)
  · exact False.elim q1
theorem pe_lcT {t : Tg} {mi : Cv.Env → M (List PV)} {mc : Cv.Env → M Bool} {me : Cv.Env → M PV} {own : List (Str × Nat)} (hv : ∀ k ∈ t.vars, k ∈ own.map (·.2)) :
    ∀ σ H Q, tE X.K g E raw (fun env => bnd (mi env) fun xs => if xs.length < big then bnd (noExc (lcL t.f mc me (wipeE env (own.map (·.2))) xs)) fun ys => ret (.lst ys) else badM) σ H Q →
      tLc (tI X.K g E mi) (tG X.K g t) (tT X.K g EF mc) (tE X.K g EF false me) (own.map (·.2)) σ H Q := by
  intro σ H Q ⟨ow, env, c, st, q⟩
  refine lc_read hv st q fun D acc ys c1 cc H1 H2 k1 hs1 hD k2 hs2 hD2 rys q3 => ?_
  have st1 := st.kp k1 hs1
  have hDc : D ≠ g.c := fun z => by
    have := hs1.1
    rw [← z, hD] at this
    cases this
  have hDo : D ∉ ow := fun z => by
    obtain ⟨vs, e⟩ := st1.live D z
    rw [hD] at e
    cases e
  exact q3 _ (.inl (.lst (fz_lst hD2 hDc hDo) (rys.sub (fz_less fun a ha => List.mem_cons_of_mem _ ha))))
end
end Cv

set_option Elab.async false
set_option linter.all false
set_option maxRecDepth 100000
/-! CvM: every expression that the look lets through is read by the evaluator. -/
namespace Cv
open PySem PySem.Spec PyProof.Rows L2

/-- the calls within a lambda -/
abbrev Calls.lam (cl : Calls) : Calls := ⟨cl.d, fun _ _ => badM, cl.h, cl.k, false, cl.n⟩
def ErrOk (X : Cx) (C : Ctx) (g : GI) (E : XK) (cl : Calls) : Prop := ∀ (b : T) (x : Str) (p lpos pos : Pos) (ps : Arguments) (body : PySem.Expr) (scope : Scope) (raw : Bool), Gl X x → (x == ("__debug__" : Str)) = false → C.gl.lookup x = some .err → emptyArgs ps = true → LamX.lamSB X.env.scope scope = true →
  (∀ X' E', Good0 X' C g E' cl.lam → X'.K = X.K → X'.env.scope = scope → PE X' body (tE X'.K g E' true (sem b cl.lam).e)) → PE X (.Call (.Name x p) [.Lambda ps body scope lpos] [] pos) (tE X.K g E raw (sem (.err b) cl).e)
theorem errOk_no {X : Cx} {C : Ctx} {g : GI} {E : XK} {cl : Calls} (h : cl.r = false) : ErrOk X C g E cl := fun b x p lpos pos ps body scope raw _ _ _ _ _ _ =>
  PE.imp (t := fun _ _ _ => False) ⟨fun _ _ _ _ _ _ z => z.elim⟩ fun σ H Q ⟨ow, env, c, st, q⟩ => by
    have q : Out g E H (if cl.r = true then _ else Rs.bad) _ := q
    rw [h, if_neg Bool.false_ne_true] at q
    exact q
theorem takesNone {X : Cx} : L2N.Takes X (fun _ _ _ _ => False) := fun u s' ⟨_, _, _, _, _, _, _, _, _, _, _, _, _, _, _, _, z⟩ => z.elim
theorem Good0.blk {X : Cx} {C : Ctx} {g : GI} {E : XK} {cl : Calls} (G : Good0 X C g E cl) (s : Shared) (H : Hp) (scope : Scope) (cenv : PySem.Env) (fp : List Addr) : Good0 (X.blk s H scope cenv fp) C g EF cl :=
  ⟨G.N, G.nd, G.calm, takesNone, G.hu, G.bl, G.fns, G.csts, G.excs, G.gcd, G.calls⟩
theorem relS_rel (scope : Scope) (env : PySem.Env) : relabel scope env = relS scope env.scope := rfl

section
variable (C : Ctx) (g : GI) (ErrP : Cx → Calls → Prop)
abbrev ErrQ (X : Cx) (cl : Calls) : Prop := cl.r = false ∨ ErrP X cl
structure SoundE (T0 : T) : Prop where
  e : ∀ (X : Cx) (E : XK) (cl : Calls) (raw : Bool) (e : PySem.Expr), Good0 X C g E cl → ErrQ ErrP X cl → (chk C T0).e raw X.env.scope e = true → PE X e (tE X.K g E raw (sem T0 cl).e)
  t : ∀ (X : Cx) (E : XK) (cl : Calls) (e : PySem.Expr), Good0 X C g E cl → ErrQ ErrP X cl → (chk C T0).t X.env.scope e = true → PT X e (tT X.K g E (sem T0 cl).t)
  es : ∀ (X : Cx) (E : XK) (cl : Calls) (es : List PySem.Expr), Good0 X C g E cl → ErrQ ErrP X cl → (chk C T0).es X.env.scope es = true → PA X es (tL X.K g E (sem T0 cl).es)
  i : ∀ (X : Cx) (E : XK) (cl : Calls) (tg e : PySem.Expr), Good0 X C g E cl → ErrQ ErrP X cl → (chk C T0).i X.env.scope tg e = true → PI X tg e (tI X.K g E (sem T0 cl).i)
variable {C g ErrP}
theorem pi_unw {X : Cx} {tg e : PySem.Expr} {t : TI} (h : PI X tg (unw e) t) : PI X tg e t := by
  rcases unw_cases e with q | ⟨o, x, p, rfl, q⟩
  · rw [← q]; exact h
  · rw [q] at h
    exact ⟨fun pins s σ H R I z => BoolOp_one (h.run pins s σ H R I z)⟩
theorem SoundE.ofE {t : T} {f : Bool → Scope → PySem.Expr → Bool} {m : Calls → Cv.Env → M PV} (hc : chk C t = ckE f) (hs : ∀ cl, sem t cl = Cv.ofE (m cl))
    (h : ∀ (X : Cx) (E : XK) (cl : Calls) (raw : Bool) (e : PySem.Expr), Good0 X C g E cl → ErrQ ErrP X cl → f raw X.env.scope e = true → PE X e (tE X.K g E raw (m cl))) : SoundE C g ErrP t := by
  refine ⟨fun X E cl raw e G Q q => ?_, fun X E cl e G Q q => ?_, fun X E cl es G Q q => ?_, fun X E cl tg e G Q q => ?_⟩
  · rw [hc] at q; rw [hs]
    exact pe_unw (h X E cl raw _ G Q q)
  · rw [hc] at q; rw [hs]
    have q : (f true X.env.scope (unw e) && plainT (unw e)) = true := q
    rw [Bool.and_eq_true] at q
    exact pt_unw (pt_plain q.2 (h X E cl true _ G Q q.1))
  · rw [hc] at q; cases q
  · rw [hc] at q; rw [hs]
    have q : (f false X.env.scope (unw e) && !isSetE e && !isSetE (unw e)) = true := q
    simp only [Bool.and_eq_true] at q
    exact pi_unw (pi_anyT (h X E cl false _ G Q q.1.1))
theorem SoundE.ofET {t : T} {f : Bool → Scope → PySem.Expr → Bool} {ft : Scope → PySem.Expr → Bool} (hc : (chk C t).e = (ckET f ft).e ∧ (chk C t).t = (ckET f ft).t ∧ (chk C t).es = fun _ _ => false)
    (h : ∀ (X : Cx) (E : XK) (cl : Calls) (raw : Bool) (e : PySem.Expr), Good0 X C g E cl → ErrQ ErrP X cl → f raw X.env.scope e = true → PE X e (tE X.K g E raw (sem t cl).e))
    (h2 : ∀ (X : Cx) (E : XK) (cl : Calls) (e : PySem.Expr), Good0 X C g E cl → ErrQ ErrP X cl → ft X.env.scope e = true → PT X e (tT X.K g E (sem t cl).t))
    (h3 : ∀ (X : Cx) (E : XK) (cl : Calls) (tg e : PySem.Expr), Good0 X C g E cl → ErrQ ErrP X cl → (chk C t).i X.env.scope tg e = true → PI X tg e (tI X.K g E (sem t cl).i)) : SoundE C g ErrP t := by
  refine ⟨fun X E cl raw e G Q q => ?_, fun X E cl e G Q q => ?_, fun X E cl es G Q q => ?_, h3⟩
  · rw [hc.1] at q
    exact pe_unw (h X E cl raw _ G Q q)
  · rw [hc.2.1] at q
    exact pt_unw (h2 X E cl _ G Q q)
  · rw [hc.2.2] at q; cases q
theorem SoundE.ofI {t : T} {f : Scope → PySem.Expr → PySem.Expr → Bool} (hc : chk C t = ckI f)
    (h : ∀ (X : Cx) (E : XK) (cl : Calls) (tg e : PySem.Expr), Good0 X C g E cl → ErrQ ErrP X cl → f X.env.scope tg e = true → PI X tg e (tI X.K g E (sem t cl).i)) : SoundE C g ErrP t := by
  refine ⟨fun X E cl raw e G Q q => ?_, fun X E cl e G Q q => ?_, fun X E cl es G Q q => ?_, fun X E cl tg e G Q q => ?_⟩
  · rw [hc] at q; cases q
  · rw [hc] at q; cases q
  · rw [hc] at q; cases q
  · rw [hc] at q
    exact h X E cl tg e G Q q
theorem SoundE.no {t : T} (h1 : (chk C t).e = fun _ _ _ => false) (h2 : (chk C t).t = fun _ _ => false) (h3 : (chk C t).es = fun _ _ => false) (h4 : (chk C t).i = fun _ _ _ => false) : SoundE C g ErrP t := by
  refine ⟨fun X E cl raw e G Q q => ?_, fun X E cl e G Q q => ?_, fun X E cl es G Q q => ?_, fun X E cl tg e G Q q => ?_⟩
  · rw [h1] at q; cases q
  · rw [h2] at q; cases q
  · rw [h3] at q; cases q
  · rw [h4] at q; cases q
theorem good_N {X : Cx} {E : XK} {cl : Calls} (G : Good0 X C g E cl) {k : Nat} {x : Str} (h : C.N[k]? = some x) : X.N[k]? = some x := by rw [G.N]; exact h
theorem es_nil {t : T} {sc : Scope} (h : (chk C t).es sc [] = true) : t = .nil := by
  cases t with
  | nil => rfl
  | un o a => cases o <;> cases h
  | _ => cases h
theorem join_reps {K : PySem.W.Frag} {G : Hp} {s : List Nat} : ∀ {ys : List PV} {vs : List V} {r : List Nat}, Reps K g G ys vs → joinL s ys = some r →
    ∃ zs : List Str, vs = zs.map V.str ∧ Str.join ⟨s.toArray⟩ zs = ⟨r.toArray⟩ ∧ (zs.map (·.length)).sum + zs.length * s.length ≤ r.length + s.length
  | [], _, r, .nil, e => by
    cases e
    exact ⟨[], rfl, rfl, by simp⟩
  | [y], _, r, .cons h .nil, e => by
    cases y with
    | str x =>
      cases e
      cases h
      exact ⟨[⟨r.toArray⟩], rfl, rfl, by simp [str_len]⟩
    | _ => cases e
  | y :: y2 :: ys, _, r, .cons h r2, e => by
    cases y <;> simp only [joinL] at e <;> try cases e
    rename_i x
    cases q : joinL s (y2 :: ys) with
    | none => rw [q] at e; cases e
    | some r1 =>
      rw [q] at e
      cases e
      obtain ⟨zs, h1, h2, h3⟩ := join_reps r2 q
      cases h
      cases zs with
      | nil =>
        rw [h1] at r2
        cases r2
      | cons z zs =>
        refine ⟨⟨x.toArray⟩ :: z :: zs, by rw [h1]; rfl, ?_, ?_⟩
        · show (⟨x.toArray⟩ : Str) ++ ⟨s.toArray⟩ ++ Str.join ⟨s.toArray⟩ (z :: zs) = _
          rw [h2, str_app, str_app]
        · simp only [List.map_cons, List.sum_cons, List.length_cons, List.length_append, str_len] at h3 ⊢
          have e1 : (zs.length + 1 + 1) * s.length = (zs.length + 1) * s.length + s.length := by rw [Nat.add_mul (zs.length + 1) 1, Nat.one_mul]
          omega
theorem pe_joinT {X : Cx} {E : XK} {raw : Bool} {s : List Nat} {a : PySem.Expr} {ma : Cv.Env → M PV} {apos pos p : Pos} {j : Nat} (hl : (apos.endLine == pos.line) = true) (na : notStar a = true) (ha : PE X a (tE X.K g E true ma)) :
    PE X (.Call (.Attribute (.Constant (.str ⟨s.toArray⟩) j p) "join" apos) [a] [] pos) (tE X.K g E raw fun env => bnd (ma env) fun y => lift (joinV s y)) := by
  refine PE.imp (pe_join (pe_str (x := ⟨s.toArray⟩)) ha (star1 na) rfl hl) fun σ H Q ⟨ow, env, c, st, q⟩ => ⟨⟨_, rfl⟩, ?_⟩
  refine tE_bnd st q fun y v c1 H1 st1 k1 r1 q1 => ?_
  obtain ⟨z, e, q2⟩ := Out.lift q1
  cases y <;> simp only [joinV] at e <;> try cases e
  · rename_i ys
    obtain ⟨a, vs, rfl, ha, _, rs⟩ := r1.tup
    cases e1 : joinL s ys with
    | none => rw [e1] at e; cases e
    | some r =>
      rw [e1] at e
      simp only [Option.bind_some] at e
      split at e
      · rename_i hz
        cases e
        obtain ⟨zs, rfl, h2, h3⟩ := join_reps rs e1
        have hb : big = 16777216 := rfl
        refine ⟨_, a, zs, rfl, rfl, .inr ha, by rw [str_len]; omega, ?_⟩
        rw [TL.join_eq, h2]
        exact q2 H1 Kp.refl st1.hs _ (.inl (.str _))
      · cases e
  · rename_i ys
    obtain ⟨a, vs, rfl, ha, rs⟩ := r1.lst
    cases e1 : joinL s ys with
    | none => rw [e1] at e; cases e
    | some r =>
      rw [e1] at e
      simp only [Option.bind_some] at e
      split at e
      · rename_i hz
        cases e
        obtain ⟨zs, rfl, h2, h3⟩ := join_reps rs e1
        have hb : big = 16777216 := rfl
        refine ⟨_, a, zs, rfl, rfl, .inl (SqL.of ha), by rw [str_len]; omega, ?_⟩
        rw [TL.join_eq, h2]
        exact q2 H1 Kp.refl st1.hs _ (.inl (.str _))
      · cases e
theorem unName_ok {o : Un} {f : Str} (h : unName o = some f) : (o = .len ∧ f = ("len" : Str)) ∨ (o = .toTup ∧ f = ("tuple" : Str)) ∨ (o = .toLst ∧ f = ("list" : Str)) ∨ (o = .sum ∧ f = ("sum" : Str)) ∨ (o = .min ∧ f = ("min" : Str)) ∨ (o = .max ∧ f = ("max" : Str)) ∨
    (o = .abs ∧ f = ("abs" : Str)) ∨ (o = .toInt ∧ f = ("int" : Str)) ∨ (o = .all ∧ f = ("all" : Str)) ∨ (o = .any ∧ f = ("any" : Str)) := by
  cases o <;> cases h <;> simp
theorem sound_un (o : Un) (h0 : o ≠ .neg) (h1 : o ≠ .not) (h2 : ∀ t, o ≠ .isT t) (a : T) (ih : SoundE C g ErrP a) : SoundE C g ErrP (.un o a) := by
  have key : ∀ (X : Cx) (E : XK) (cl : Calls) (raw : Bool) (e : PySem.Expr), Good0 X C g E cl → ErrQ ErrP X cl → (match e with
    | .Call (.Name f _) [x] [] _ => decide (unName o = some f) && bltB C X.env.scope f && (chk C a).e true X.env.scope x && notStar x
    | _ => false) = true → PE X e (tE X.K g E raw fun env => bnd ((sem a cl).e env) fun x => lift (unV o x)) := by
    intro X E cl raw e G Q q
    split at q
    · rename_i f p x pos
      simp only [Bool.and_eq_true, decide_eq_true_eq] at q
      obtain ⟨⟨⟨q1, q2⟩, q3⟩, q4⟩ := q
      have hb := good_blt G q2
      have ha := ih.e X E cl true x G Q q3
      rcases unName_ok q1 with ⟨rfl, rfl⟩ | ⟨rfl, rfl⟩ | ⟨rfl, rfl⟩ | ⟨rfl, rfl⟩ | ⟨rfl, rfl⟩ | ⟨rfl, rfl⟩ | ⟨rfl, rfl⟩ | ⟨rfl, rfl⟩ | ⟨rfl, rfl⟩ | ⟨rfl, rfl⟩
      · exact pe_unT call_len (by decide +kernel) un_len hb q4 ha
      · exact pe_unTy call_tuple_of (by decide +kernel) un_toTup hb q4 ha
      · exact pe_unTy call_list_of (by decide +kernel) un_toLst hb q4 ha
      · exact pe_unT ((cr_sum G.calm).or (cr_sumT G.calm)) (by decide +kernel) un_sum hb q4 ha
      · exact pe_unT ((cr_min G.calm).or (cr_minT G.calm)) (by decide +kernel) un_min hb q4 ha
      · exact pe_unT ((cr_max G.calm).or (cr_maxT G.calm)) (by decide +kernel) un_max hb q4 ha
      · exact pe_unT call_abs (by decide +kernel) un_abs hb q4 ha
      · exact pe_unTy call_int1 (by decide +kernel) un_toInt hb q4 ha
      · exact pe_unT (cr_all G.calm) (by decide +kernel) un_all hb q4 ha
      · exact pe_unT (cr_any G.calm) (by decide +kernel) un_any hb q4 ha
    · cases q
  cases o with
  | neg => exact absurd rfl h0
  | not => exact absurd rfl h1
  | isT t => exact absurd rfl (h2 t)
  | _ => exact SoundE.ofE rfl (fun _ => rfl) key

theorem own_snd (N : List Str) (own : List Nat) : (ownOf N own).map (·.2) = own := by
  unfold ownOf
  rw [List.map_map]
  exact List.map_id _
/-- a comprehension as a value; stored at once where its store is exchanged -/
theorem lc_both {elt it cond : T} {tg : Tg} {own : List Nat} (hblk : ∀ (X : Cx) (cl : Calls) (s : Shared) (H : Hp) (scope : Scope) (D : Addr) (cells : List (Str × Addr)) (fp : List Addr), ErrP X cl → ErrP (X.blk s H scope (compEnvC scope cells D X.env) fp) cl)
    (ihe : SoundE C g ErrP elt) (iht : SoundE C g ErrP it) (ihc : SoundE C g ErrP cond) {X : Cx} {E : XK} {cl : Calls} {raw : Bool} {el : PySem.Expr} {gs : List Comprehension} {scope : Scope} {pos : Pos} (G : Good0 X C g E cl) (Q : ErrQ ErrP X cl)
    (q : (match (PySem.Expr.ListComp el gs scope pos) with
      | .ListComp el [⟨t, ie, ifs, 0⟩] scope _ => blkC C.N X.env.scope scope (ownOf C.N own) && tg.vars.all (fun k => own.contains k) && (chk C it).i X.env.scope t ie && (Tg.chk C tg).one scope (relS scope X.env.scope) t && !isSetE ie && (chk C elt).e false (relS scope X.env.scope) el &&
        (match ifs with
          | [] => isTrueT cond
          | [c] => (chk C cond).t (relS scope X.env.scope) c
          | _ => false)
      | _ => false) = true) :
    (∀ t' : TE, (∀ σ H Q, t' σ H Q → tLc (tI X.K g E (sem it cl).i) (tG X.K g tg) (tT X.K g EF (sem cond cl).t) (tE X.K g EF false (sem elt cl).e) own σ H Q) → PE X (.ListComp el gs scope pos) t' ∧
      ∀ (i : Nat) (y : Str) (py spos : Pos), X.N[i]? = some y → X.env.scope.names.lookup y = some .local → swapsWith (.ListComp el gs scope pos) (some (.Name y py)) spos.line X.env = pure true → PS X (.Assign [.Name y py] (.ListComp el gs scope pos) spos) (tAsg t' (gName i))) ∧
    ∀ k ∈ tg.vars, k ∈ (ownOf X.N own).map (·.2) := by
  split at q
  · rename_i el2 t ie ifs scope2 pos2 heq
    cases heq
    simp only [Bool.and_eq_true, Bool.not_eq_true'] at q
    obtain ⟨⟨⟨⟨⟨⟨q1, q2⟩, q3⟩, q4⟩, q5⟩, q6⟩, q7⟩ := q
    rw [← G.N] at q1
    have ok := blkOk_by q1
    have ho : (ownOf X.N own).map (·.2) = own := by
      unfold ownOf
      rw [List.map_map]
      exact List.map_id _
    have gb := fun (s : Shared) (H : Hp) (D : Addr) (cells : List (Str × Addr)) (fp : List Addr) => G.blk s H scope (compEnvC scope cells D X.env) fp
    have qb : ∀ (s : Shared) (H : Hp) (D : Addr) (cells : List (Str × Addr)) (fp : List Addr), ErrQ ErrP (X.blk s H scope (compEnvC scope cells D X.env) fp) cl := fun s H D cells fp => Q.imp id fun z => hblk X cl s H scope D cells fp z
    have hi := iht.i X E cl t ie G Q q3
    have hs : ∀ x, foldedSetIterable ie X.env x = pure x := fun x => by
      cases ie <;> first | rfl | cases q5
    have hg : ∀ (s : Shared) (H : Hp) (D : Addr) (cells : List (Str × Addr)) (fp : List Addr), PG (X.blk s H scope (compEnvC scope cells D X.env) fp) t (tG X.K g tg) := fun s H D cells fp => by
      refine (pg_all (C := C) (st := scope) (X := X.blk s H scope (compEnvC scope cells D X.env) fp) G.N G.nd G.calm (fun x h1 h2 => ?_) tg).1 t q4
      unfold locB at h1
      simp only [Bool.or_eq_true, decide_eq_true_eq] at h1
      rcases h1 with h1 | h1
      · exact .inr (lookup_relS_keep (by decide) h1)
      · refine .inl ?_
        show (scope.names.lookup x == some .cell) = true
        rw [h1]
        rfl
    have he : ∀ (s : Shared) (H : Hp) (D : Addr) (cells : List (Str × Addr)) (fp : List Addr), PE (X.blk s H scope (compEnvC scope cells D X.env) fp) el (tE X.K g EF false (sem elt cl).e) := fun s H D cells fp =>
      ihe.e (X.blk s H scope (compEnvC scope cells D X.env) fp) EF cl false el (gb s H D cells fp) (qb s H D cells fp) q6
    have ht : ∀ (s : Shared) (H : Hp) (D : Addr) (cells : List (Str × Addr)) (fp : List Addr), PTs (X.blk s H scope (compEnvC scope cells D X.env) fp) ifs (tT X.K g EF (sem cond cl).t) := fun s H D cells fp => by
      split at q7
      · cases cond <;> try cases q7
        rename_i b
        cases b <;> try cases q7
        exact ⟨fun pins s' σ H' Q' I' ⟨ow, env, c, st, z⟩ => pts_nil.run pins s' σ H' Q' I' (z H' Kp.refl st.hs)⟩
      · exact pts_one (ihc.t (X.blk s H scope (compEnvC scope cells D X.env) fp) EF cl _ (gb s H D cells fp) (qb s H D cells fp) q7)
      · cases q7
    rw [ho]
    refine ⟨fun t' w => ⟨?_, fun i y py spos hN hl hsw => ?_⟩, fun k hk => by simpa using List.all_eq_true.mp q2 k hk⟩
    · have main := pe_lc (pos := pos) G.calm G.nd hi ok hg ht he hs
      rw [ho] at main
      exact PE.imp main w
    · have main := ps_setLc (pos := pos) (spos := spos) (py := py) G.calm G.nd hN hl hsw hi ok hg ht he hs
      rw [ho] at main
      exact ⟨fun pins s σ H D I z => main.run pins s σ H D I (w σ H _ z)⟩
  · cases q

variable (hblk : ∀ (X : Cx) (cl : Calls) (s : Shared) (H : Hp) (scope : Scope) (D : Addr) (cells : List (Str × Addr)) (fp : List Addr), ErrP X cl → ErrP (X.blk s H scope (compEnvC scope cells D X.env) fp) cl)
  (hok : ∀ (X : Cx) (E : XK) (cl : Calls), Good0 X C g E cl → ErrP X cl → ErrOk X C g E cl)
include hblk hok
theorem sound_all : ∀ t : T, SoundE C g ErrP t := by
  intro t
  induction t with
  | int i =>
    refine SoundE.ofE rfl (fun _ => rfl) fun X E cl raw e G Q q => ?_
    split at q
    · rename_i j k p
      rw [of_decide_eq_true q]
      exact pe_const pe_int fun _ => .int _
    · cases q
  | bl b =>
    refine SoundE.ofE rfl (fun _ => rfl) fun X E cl raw e G Q q => ?_
    split at q
    · rename_i j k p
      rw [of_decide_eq_true q]
      exact pe_const pe_bl fun _ => .bl _
    · cases q
  | non =>
    refine SoundE.ofE rfl (fun _ => rfl) fun X E cl raw e G Q q => ?_
    split at q
    · exact pe_const pe_non fun _ => .non
    · cases q
  | str s =>
    refine SoundE.ofE rfl (fun _ => rfl) fun X E cl raw e G Q q => ?_
    split at q
    · rename_i j k p
      rw [of_decide_eq_true q]
      exact pe_const pe_str fun _ => .str _
    · cases q
  | cst j =>
    refine SoundE.ofE rfl (fun _ => rfl) fun X E cl raw e G Q q => ?_
    split at q
    · rename_i x p
      rw [Bool.and_eq_true, decide_eq_true_eq] at q
      obtain ⟨h1, h2⟩ := good_gl q.1
      cases e1 : cl.k[j]? with
      | none => exact PE.imp (t := fun _ _ _ => False) ⟨fun _ _ _ _ _ _ z => z.elim⟩ fun σ H Q ⟨ow, env, c, st, z⟩ => z
      | some pv =>
        obtain ⟨v, u, h3, h4, h5⟩ := G.csts x j q.2 pv e1
        exact pe_const (pe_glob h1 h3 h4 h2) h5
    · cases q
  | fnv i =>
    refine SoundE.ofE rfl (fun _ => rfl) fun X E cl raw e G Q q => ?_
    split at q
    · rename_i x p
      rw [Bool.and_eq_true, decide_eq_true_eq] at q
      obtain ⟨h1, h2⟩ := good_gl q.1
      exact pe_const (pe_glob (v := .ref (g.fa i)) h1 (G.fns x i q.2).1 rfl h2) fun _ => .fn i
    · cases q
  | var k =>
    refine SoundE.ofE rfl (fun _ => rfl) fun X E cl raw e G Q q => ?_
    split at q
    · rename_i x p
      rw [Bool.and_eq_true, decide_eq_true_eq] at q
      exact pe_slot (cl := cl) (good_N G q.1) q.2
    · cases q
  | rd k =>
    refine SoundE.ofE rfl (fun _ => rfl) fun X E cl raw e G Q q => ?_
    split at q
    · rename_i x p
      simp only [Bool.and_eq_true, decide_eq_true_eq] at q
      rw [q.1.1]
      exact pe_slotR (cl := cl) (good_N G q.1.2) q.2
    · cases q
  | nil =>
    refine ⟨fun X E cl raw e G Q q => (by cases q), fun X E cl e G Q q => (by cases q), fun X E cl es G Q q => ?_, fun X E cl tg e G Q q => (by cases q)⟩
    have q : es.isEmpty = true := q
    rw [List.isEmpty_iff.mp q]
    exact pa_nilT
  | cons a b iha ihb =>
    refine ⟨fun X E cl raw e G Q q => (by cases q), fun X E cl e G Q q => (by cases q), fun X E cl es G Q q => ?_, fun X E cl tg e G Q q => (by cases q)⟩
    cases es with
    | nil => cases q
    | cons x r =>
      have q : ((chk C a).e false X.env.scope x && notStar x && (chk C b).es X.env.scope r) = true := q
      simp only [Bool.and_eq_true] at q
      exact pa_consT (iha.e X E cl false x G Q q.1.1) (ihb.es X E cl r G Q q.2) q.1.2
  | tup es ih =>
    refine SoundE.ofE rfl (fun _ => rfl) fun X E cl raw e G Q q => ?_
    split at q
    · exact pe_tupT (ih.es X E cl _ G Q q)
    · cases q
  | lst es ih =>
    refine SoundE.ofE rfl (fun _ => rfl) fun X E cl raw e G Q q => ?_
    split at q
    · exact pe_lstT (ih.es X E cl _ G Q q)
    · cases q
  | op o a b iha ihb =>
    have hE : ∀ (X : Cx) (E : XK) (cl : Calls) (raw : Bool) (e : PySem.Expr), Good0 X C g E cl → ErrQ ErrP X cl → chkOp (chk C a) (chk C b) o X.env.scope e = true → PE X e (tE X.K g E raw (sem (.op o a b) cl).e) := by
      intro X E cl raw e G Q q
      unfold chkOp at q
      split at q
      · simp only [Bool.and_eq_true] at q
        exact pe_binT q.1.1 (iha.e X E cl true _ G Q q.1.2) (ihb.e X E cl true _ G Q q.2)
      · simp only [Bool.and_eq_true, Bool.not_eq_true'] at q
        exact pe_cmpT G.hu q.1.1.1 q.1.1.2 (iha.e X E cl true _ G Q q.1.2) (ihb.e X E cl true _ G Q q.2)
      · simp only [Bool.and_eq_true] at q
        have ho : o = .ix := by
          have z := q.1.1.1
          cases o <;> first | rfl | cases z
        subst ho
        exact pe_ixT q.1.1.2 (iha.e X E cl true _ G Q q.1.2) (ihb.e X E cl true _ G Q q.2)
      · cases q
    refine SoundE.ofET (f := fun _ sc e => chkOp (chk C a) (chk C b) o sc e) (ft := fun sc e => chkOp (chk C a) (chk C b) o sc e) ⟨rfl, rfl, rfl⟩ hE (fun X E cl e G Q q => ?_) fun X E cl tg e G Q q => ?_
    · have q : chkOp (chk C a) (chk C b) o X.env.scope e = true := q
      unfold chkOp at q
      split at q
      · simp only [Bool.and_eq_true] at q
        exact pt_plain rfl (pe_binT q.1.1 (iha.e X E cl true _ G Q q.1.2) (ihb.e X E cl true _ G Q q.2))
      · simp only [Bool.and_eq_true, Bool.not_eq_true'] at q
        exact pt_cmpT G.hu q.1.1.1 q.1.1.2 (iha.e X E cl true _ G Q q.1.2) (ihb.e X E cl true _ G Q q.2)
      · simp only [Bool.and_eq_true] at q
        have ho : o = .ix := by
          have z := q.1.1.1
          cases o <;> first | rfl | cases z
        subst ho
        exact pt_plain rfl (pe_ixT q.1.1.2 (iha.e X E cl true _ G Q q.1.2) (ihb.e X E cl true _ G Q q.2))
      · cases q
    · have q : (chkOp (chk C a) (chk C b) o X.env.scope (unw e) && !isSetE e && !isSetE (unw e)) = true := q
      rw [Bool.and_eq_true, Bool.and_eq_true] at q
      exact pi_unw (pi_anyT (hE X E cl false (unw e) G Q q.1.1))
  | un o a ih =>
    by_cases h0 : o = .neg
    · subst h0
      refine SoundE.ofE rfl (fun _ => rfl) fun X E cl raw e G Q q => ?_
      split at q
      · exact pe_negT (ih.e X E cl true _ G Q q)
      · cases q
    by_cases h1 : o = .not
    · subst h1
      refine SoundE.ofET ⟨rfl, rfl, rfl⟩ (fun X E cl raw e G Q q => ?_) (fun X E cl e G Q q => ?_) fun X E cl tg e G Q q => (by cases q)
      · split at q
        · exact pe_notM (ih.e X E cl true _ G Q q)
        · cases q
      · split at q
        · exact pt_notM (ih.t X E cl _ G Q q)
        · cases q
    by_cases h2 : ∃ t, o = .isT t
    · obtain ⟨t, rfl⟩ := h2
      refine SoundE.ofE rfl (fun _ => rfl) fun X E cl raw e G Q q => ?_
      split at q
      · simp only [Bool.and_eq_true, decide_eq_true_eq] at q
        obtain ⟨⟨⟨⟨⟨q1, q2⟩, q3⟩, q4⟩, q5⟩, q6⟩ := q
        exact pe_isTT q1 q4 (good_blt G q2) (good_blt G q3) q6 (ih.e X E cl true _ G Q q5)
      · cases q
    · exact sound_un o h0 h1 (fun t e => h2 ⟨t, e⟩) a ih
  | chain o o' a b d iha ihb ihd =>
    refine SoundE.ofET ⟨rfl, rfl, rfl⟩ (fun X E cl raw e G Q q => ?_) (fun X E cl e G Q q => ?_) fun X E cl tg e G Q q => (by cases q)
    · split at q
      · simp only [Bool.and_eq_true, Bool.not_eq_true'] at q
        obtain ⟨⟨⟨⟨⟨⟨q1, q2⟩, q3⟩, q4⟩, q5⟩, q6⟩, q7⟩ := q
        exact pe_chainT G.hu q1 q2 q3 (iha.e X E cl true _ G Q q5) (ihb.e X E cl true _ G Q q6) (ihd.e X E cl true _ G Q q7)
      · cases q
    · split at q
      · simp only [Bool.and_eq_true, Bool.not_eq_true'] at q
        obtain ⟨⟨⟨⟨⟨⟨q1, q2⟩, q3⟩, q4⟩, q5⟩, q6⟩, q7⟩ := q
        exact pt_chainT G.hu q1 q2 q3 (iha.e X E cl true _ G Q q5) (ihb.e X E cl true _ G Q q6) (ihd.e X E cl true _ G Q q7)
      · cases q
  | and a b iha ihb =>
    refine SoundE.ofET ⟨rfl, rfl, rfl⟩ (fun X E cl raw e G Q q => ?_) (fun X E cl e G Q q => ?_) fun X E cl tg e G Q q => (by cases q)
    · split at q
      · rw [Bool.and_eq_true] at q
        exact pe_andM (iha.e X E cl false _ G Q q.1) (tE_weak (ihb.e X E cl false _ G Q q.2))
      · cases q
    · split at q
      · rw [Bool.and_eq_true] at q
        exact pt_andM (iha.t X E cl _ G Q q.1) (ihb.t X E cl _ G Q q.2)
      · cases q
  | or a b iha ihb =>
    refine SoundE.ofET ⟨rfl, rfl, rfl⟩ (fun X E cl raw e G Q q => ?_) (fun X E cl e G Q q => ?_) fun X E cl tg e G Q q => (by cases q)
    · split at q
      · rw [Bool.and_eq_true] at q
        exact pe_orM (iha.e X E cl false _ G Q q.1) (tE_weak (ihb.e X E cl false _ G Q q.2))
      · cases q
    · split at q
      · rw [Bool.and_eq_true] at q
        exact pt_orM (iha.t X E cl _ G Q q.1) (ihb.t X E cl _ G Q q.2)
      · cases q
  | ite d a b ihd iha ihb =>
    refine SoundE.ofET (f := fun q sc e => match e with
      | .IfExp t x y _ => (chk C d).t sc t && (chk C a).e q sc x && (chk C b).e q sc y
      | _ => false) (ft := fun sc e => match e with
      | .IfExp t x y _ => (chk C d).t sc t && (chk C a).t sc x && (chk C b).t sc y
      | _ => false) ⟨rfl, rfl, rfl⟩ (fun X E cl raw e G Q q => ?_) (fun X E cl e G Q q => ?_) fun X E cl tg e G Q q => ?_
    · split at q
      · simp only [Bool.and_eq_true] at q
        exact pe_iteM (ihd.t X E cl _ G Q q.1.1) (iha.e X E cl raw _ G Q q.1.2) (ihb.e X E cl raw _ G Q q.2)
      · cases q
    · split at q
      · simp only [Bool.and_eq_true] at q
        exact pt_iteM (ihd.t X E cl _ G Q q.1.1) (iha.t X E cl _ G Q q.1.2) (ihb.t X E cl _ G Q q.2)
      · cases q
    · have q : ((match unw e with
        | .IfExp t x y _ => (chk C d).t X.env.scope t && (chk C a).e false X.env.scope x && (chk C b).e false X.env.scope y
        | _ => false) && !isSetE e && !isSetE (unw e)) = true := q
      rw [Bool.and_eq_true, Bool.and_eq_true] at q
      have q := q.1.1
      split at q
      · rename_i heq
        simp only [Bool.and_eq_true] at q
        refine pi_unw ?_
        rw [heq]
        exact pi_anyT (pe_iteM (ihd.t X E cl _ G Q q.1.1) (iha.e X E cl false _ G Q q.1.2) (ihb.e X E cl false _ G Q q.2))
      · cases q
  | slc a lo hi iha ihl ihh =>
    refine SoundE.ofE rfl (fun _ => rfl) fun X E cl raw e G Q q => ?_
    split at q
    · simp only [Bool.and_eq_true] at q
      exact pe_slcT (iha.e X E cl true _ G Q q.1.1) (ihl.e X E cl true _ G Q q.1.2) (ihh.e X E cl true _ G Q q.2)
    · cases q
  | slcL a lo iha ihl =>
    refine SoundE.ofE rfl (fun _ => rfl) fun X E cl raw e G Q q => ?_
    split at q
    · simp only [Bool.and_eq_true] at q
      exact pe_slcLT (iha.e X E cl true _ G Q q.1) (ihl.e X E cl true _ G Q q.2)
    · cases q
  | slcH a hi iha ihh =>
    refine SoundE.ofE rfl (fun _ => rfl) fun X E cl raw e G Q q => ?_
    split at q
    · simp only [Bool.and_eq_true] at q
      exact pe_slcHT (iha.e X E cl true _ G Q q.1) (ihh.e X E cl true _ G Q q.2)
    · cases q
  | call i es ih =>
    refine SoundE.ofE rfl (fun _ => rfl) fun X E cl raw e G Q q => ?_
    split at q
    · rename_i f p l pos
      simp only [Bool.and_eq_true, decide_eq_true_eq] at q
      obtain ⟨⟨⟨q1, q2⟩, q3⟩, q4⟩ := q
      obtain ⟨h1, h2⟩ := good_gl q1
      obtain ⟨h3, h4⟩ := G.fns f i q2
      cases l with
      | cons x r => exact pe_callT G h1 h2 h3 h4 (by simp) q4 (ih.es X E cl _ G Q q3)
      | nil =>
        obtain rfl := es_nil q3
        exact pe_call0T G h1 h2 h3 h4
    · cases q
  | callv k es ih =>
    refine SoundE.ofE rfl (fun _ => rfl) fun X E cl raw e G Q q => ?_
    split at q
    · rename_i f p x l pos
      simp only [Bool.and_eq_true, decide_eq_true_eq] at q
      obtain ⟨⟨⟨q1, q2⟩, q3⟩, q4⟩ := q
      exact pe_callvT G (good_N G q1) q2 (by simp) q4 (ih.es X E cl _ G Q q3)
    · cases q
  | max2 a b iha ihb =>
    refine SoundE.ofE rfl (fun _ => rfl) fun X E cl raw e G Q q => ?_
    split at q
    · simp only [Bool.and_eq_true, decide_eq_true_eq] at q
      obtain ⟨⟨⟨⟨⟨q1, q2⟩, q3⟩, q4⟩, q5⟩, q6⟩ := q
      have hb := good_blt G q2
      subst q1
      exact two_ints (call_max2 G.calm) (fun i j H Q z => ⟨i, j, rfl, z⟩) hb.1 hb.2.1 (.inl ⟨hb.2.2.1, hb.2.2.2, by decide +kernel⟩) q5 q6 (iha.e X E cl true _ G Q q3) (ihb.e X E cl true _ G Q q4)
    · cases q
  | min2 a b iha ihb =>
    refine SoundE.ofE rfl (fun _ => rfl) fun X E cl raw e G Q q => ?_
    split at q
    · simp only [Bool.and_eq_true, decide_eq_true_eq] at q
      obtain ⟨⟨⟨⟨⟨q1, q2⟩, q3⟩, q4⟩, q5⟩, q6⟩ := q
      have hb := good_blt G q2
      subst q1
      exact two_ints (call_min2 G.calm) (fun i j H Q z => ⟨i, j, rfl, z⟩) hb.1 hb.2.1 (.inl ⟨hb.2.2.1, hb.2.2.2, by decide +kernel⟩) q5 q6 (iha.e X E cl true _ G Q q3) (ihb.e X E cl true _ G Q q4)
    · cases q
  | gcd a b iha ihb =>
    refine SoundE.ofE rfl (fun _ => rfl) fun X E cl raw e G Q q => ?_
    split at q
    · simp only [Bool.and_eq_true, decide_eq_true_eq] at q
      obtain ⟨⟨⟨⟨⟨q1, q2⟩, q3⟩, q4⟩, q5⟩, q6⟩ := q
      obtain ⟨h1, h2⟩ := good_gl q1
      exact two_ints (op := fun i j => Int.gcd i j) cr_gcd (fun i j H Q z => ⟨i, j, rfl, z⟩) h1 h2 (.inr (G.gcd _ q2)) q5 q6 (iha.e X E cl true _ G Q q3) (ihb.e X E cl true _ G Q q4)
    · cases q
  | join s b ih =>
    refine SoundE.ofE rfl (fun _ => rfl) fun X E cl raw e G Q q => ?_
    split at q
    · simp only [Bool.and_eq_true, decide_eq_true_eq] at q
      obtain ⟨⟨⟨⟨q1, q2⟩, q3⟩, q4⟩, q5⟩ := q
      subst q2
      rw [q3]
      exact pe_joinT q1 q5 (ih.e X E cl true _ G Q q4)
    · cases q
  | rng1 a ih =>
    refine SoundE.ofI rfl fun X E cl tg e G Q q => ?_
    split at q
    · simp only [Bool.and_eq_true, decide_eq_true_eq] at q
      obtain ⟨⟨⟨q1, q2⟩, q3⟩, q4⟩ := q
      exact pi_rng1T q1 (good_blt G q2) q4 (ih.e X E cl true _ G Q q3)
    · cases q
  | rng2 a b iha ihb =>
    refine SoundE.ofI rfl fun X E cl tg e G Q q => ?_
    split at q
    · simp only [Bool.and_eq_true, decide_eq_true_eq] at q
      obtain ⟨⟨⟨⟨⟨q1, q2⟩, q3⟩, q4⟩, q5⟩, q6⟩ := q
      exact pi_rng2T q1 (good_blt G q2) q5 q6 (iha.e X E cl true _ G Q q3) (ihb.e X E cl true _ G Q q4)
    · cases q
  | zip a b iha ihb =>
    refine SoundE.ofI rfl fun X E cl tg e G Q q => ?_
    split at q
    · simp only [Bool.and_eq_true, decide_eq_true_eq] at q
      obtain ⟨⟨⟨⟨⟨⟨q1, q2⟩, q3⟩, q4⟩, q5⟩, q6⟩, q7⟩ := q
      cases tg <;> try cases q7
      exact pi_zipTT q1 (good_blt G q2) q5 q6 (iha.e X E cl false _ G Q q3) (ihb.e X E cl false _ G Q q4)
    · cases q
  | enum a ih =>
    refine SoundE.ofI rfl fun X E cl tg e G Q q => ?_
    split at q
    · simp only [Bool.and_eq_true, decide_eq_true_eq] at q
      obtain ⟨⟨⟨⟨q1, q2⟩, q3⟩, q4⟩, q5⟩ := q
      cases tg <;> try cases q5
      exact pi_enumT q1 (good_blt G q2) q4 (ih.e X E cl false _ G Q q3)
    · cases q
  | lc elt tg it cond own ihe iht ihc =>
    refine SoundE.ofE rfl (fun _ => rfl) fun X E cl raw e G Q q => ?_
    cases e with
    | ListComp el gs scope pos =>
      obtain ⟨h1, h2⟩ := lc_both hblk ihe iht ihc G Q (raw := raw) q
      refine (h1 _ fun σ H Q' z => ?_).1
      have imp := pe_lcT (X := X) (E := E) (raw := raw) (g := g) (t := tg) (own := ownOf X.N own) (mi := (sem it cl).i) (mc := (sem cond cl).t) (me := (sem elt cl).e) h2
      rw [own_snd] at imp
      exact imp σ H Q' z
    | _ => cases q
  | err b ih =>
    refine SoundE.ofE rfl (fun _ => rfl) fun X E cl raw e G Q q => ?_
    split at q
    · rename_i f p ps body scope lpos pos
      simp only [Bool.and_eq_true, decide_eq_true_eq] at q
      obtain ⟨⟨⟨⟨q1, q2⟩, q3⟩, q4⟩, q5⟩ := q
      obtain ⟨h1, h2⟩ := good_gl q1
      have hE : ErrOk X C g E cl := by
        rcases Q with z | z
        · exact errOk_no z
        · exact hok X E cl G z
      exact hE b f p lpos pos ps body scope raw h1 h2 q2 q3 q4 fun X' E' G' _ hsc => ih.e X' E' cl.lam true body G' (.inl rfl) (by rw [hsc]; exact q5)
    · cases q
  | _ => exact SoundE.no rfl rfl rfl rfl
end
end Cv

set_option Elab.async false
set_option linter.all false
set_option maxRecDepth 100000
/-! CvN: assignments: which stores are exchanged. -/
namespace Cv
open PySem PySem.Spec PyProof.Rows L2
theorem blockK {env : PySem.Env} (h : env.scope.kind = .function) : env.blockKind = .function := by
  unfold Env.blockKind
  rw [h]
  rfl
theorem swaps_no {t e : PySem.Expr} {l : Nat} {env : PySem.Env} (h : isComp e = false) : swapsWithSole [t] e l env = pure false := by
  show swapsWith e (some t) l env = pure false
  cases e <;> first | rfl | cases h
theorem swaps_none {e : PySem.Expr} {l : Nat} {env : PySem.Env} (h : isComp e = false) : swapsWith e none l env = pure false := by
  cases e <;> first | rfl | cases h
theorem fm_short {α β : Type} {f : α → Option β} : ∀ {l : List α}, (∃ a ∈ l, f a = none) → (l.filterMap f).length < l.length
  | [], ⟨_, h, _⟩ => by cases h
  | a :: l, ⟨b, h, e⟩ => by
    cases q : f a with
    | none =>
      rw [List.filterMap_cons_none q, List.length_cons]
      exact Nat.lt_succ_of_le (List.length_filterMap_le f l)
    | some c =>
      rw [List.filterMap_cons_some q, List.length_cons, List.length_cons]
      refine Nat.succ_lt_succ (fm_short ⟨b, ?_, e⟩)
      rcases List.mem_cons.mp h with rfl | h
      · rw [q] at e; cases e
      · exact h
theorem swapped_no {t e : PySem.Expr} {env : PySem.Env} (hk : env.scope.kind = .function) (h : noSwap env.scope t e = true) : swappedStores [t] e env = pure none := by
  have key : ∀ ts vs k1 p1 k2 p2, (!((ts.length == 2 || ts.length == 3) && vs.length == ts.length) || !ts.all (isLocN env.scope) || vs.all (foldedForSure 8)) = true → swappedStores [.Tuple ts k1 p1] (.Tuple vs k2 p2) env = pure none := by
    intro ts vs k1 p1 k2 p2 h
    unfold swappedStores
    simp only []
    split
    · rfl
    · rename_i h1
      split
      · rfl
      · split
        · rfl
        · rename_i h3
          split
          · rfl
          · rename_i h4
            exfalso
            rw [blockK hk] at h1
            simp only [Bool.or_eq_true, Bool.not_eq_true', not_or, Bool.not_eq_true, Bool.and_eq_false_imp] at h h1 h3 h4
            rcases h with (h | h) | h
            · have h5 := h1.1.1
              have h6 := h1.1.2
              simp_all
            · have h7 : ∃ a ∈ ts, (fun x => match x with | .Name id pos => if (env.kindOf id == some .local && pos.line == (Option.map (fun x => x.pos.line) ts.head?).getD 0) = true then some id else none | _ => none : PySem.Expr → Option Str) a = none := by
                obtain ⟨a, ha, hb⟩ := List.all_eq_false.mp h
                refine ⟨a, ha, ?_⟩
                cases a <;> try rfl
                rename_i x p
                have hb : ¬ (decide (env.scope.names.lookup x = some .local)) = true := hb
                have hb2 : ¬ env.scope.names.lookup x = some .local := fun z => hb (decide_eq_true z)
                show (if (env.kindOf x == some .local && _) = true then some x else none) = none
                rw [if_neg]
                rw [Bool.and_eq_true]
                intro z
                exact hb2 (beq_iff_eq.mp z.1)
              have h8 := fm_short h7
              have h9 := h3.1
              simp only [bne_eq_false_iff_eq] at h9
              exact absurd h9 (Nat.ne_of_lt h8)
            · rw [h] at h4
              cases h4
  cases t with
  | Tuple ts k1 p1 =>
    cases e with
    | Tuple vs k2 p2 => exact key _ _ _ _ _ _ h
    | _ => rfl
  | Name x p => cases e <;> rfl
  | _ => cases h
theorem swapped_two {x y : Str} {px py p1 p2 : Pos} {k1 k2 : Nat} {a b : PySem.Expr} {env : PySem.Env} (hk : env.scope.kind = .function) (h : swap2 env.scope (.Tuple [.Name x px, .Name y py] k1 p1) (.Tuple [a, b] k2 p2) = true) :
    swappedStores [.Tuple [.Name x px, .Name y py] k1 p1] (.Tuple [a, b] k2 p2) env = pure (some [x, y]) := by
  have h : (decide (env.scope.names.lookup x = some .local) && decide (env.scope.names.lookup y = some .local) && decide (x ≠ y) && (py.line == px.line) && notStar a && notStar b && !([a, b].all (foldedForSure 8)) && !([a, b].all (constantsAlone 8))) = true := h
  simp only [Bool.and_eq_true, decide_eq_true_eq, Bool.not_eq_true'] at h
  obtain ⟨⟨⟨⟨⟨⟨⟨h1, h2⟩, h3⟩, h4⟩, h5⟩, h6⟩, h7⟩, h8⟩ := h
  have kx : env.kindOf x = some .local := h1
  have ky : env.kindOf y = some .local := h2
  have hs : ([a, b].any fun e => match e with | .Starred _ _ => true | _ => false) = false := by
    have s1 : ∀ e, notStar e = true → (match e with | .Starred _ _ => true | _ => false : Bool) = false := fun e he => by cases e <;> first | rfl | cases he
    simp only [List.any_cons, List.any_nil, s1 a h5, s1 b h6, Bool.or_self]
  have hyx : (y == x) = false := by simpa using fun z => h3 z.symm
  unfold swappedStores
  simp only []
  rw [blockK hk]
  simp only [List.length_cons, List.length_nil, bne_self_eq_false, Bool.or_false, beq_self_eq_true, Bool.true_or, Bool.not_true, Bool.false_eq_true, if_false, hs, List.filterMap_cons, List.filterMap_nil, kx, ky, List.head?_cons, Option.map_some, Option.getD_some, Expr.pos, h4, Bool.and_self, if_true, h7, h8]
  first
    | rfl
    | (simp [List.eraseDups, List.eraseDupsBy, List.eraseDupsBy.loop, hyx, h3]
       intro hh
       exfalso
       rcases hh with hh | hh
       · cases a <;> first | exact Bool.noConfusion hh | exact Bool.noConfusion h5
       · cases b <;> first | exact Bool.noConfusion hh | exact Bool.noConfusion h6)
theorem swapped_three {x y z : Str} {px py pz p1 p2 : Pos} {k1 k2 : Nat} {a b c : PySem.Expr} {env : PySem.Env} (hk : env.scope.kind = .function) (h : swap3 env.scope (.Tuple [.Name x px, .Name y py, .Name z pz] k1 p1) (.Tuple [a, b, c] k2 p2) = true) :
    swappedStores [.Tuple [.Name x px, .Name y py, .Name z pz] k1 p1] (.Tuple [a, b, c] k2 p2) env = pure (some [x, y, z]) := by
  have h : (decide (env.scope.names.lookup x = some .local) && decide (env.scope.names.lookup y = some .local) && decide (env.scope.names.lookup z = some .local) && decide (x ≠ y) && decide (x ≠ z) && decide (y ≠ z) &&
    (py.line == px.line) && (pz.line == px.line) && notStar a && notStar b && notStar c && !([a, b, c].all (foldedForSure 8)) && !([a, b, c].all (constantsAlone 8))) = true := h
  simp only [Bool.and_eq_true, decide_eq_true_eq, Bool.not_eq_true'] at h
  obtain ⟨⟨⟨⟨⟨⟨⟨⟨⟨⟨⟨⟨h1, h2⟩, h3⟩, h4⟩, h5⟩, h6⟩, h7⟩, h8⟩, h9⟩, h10⟩, h11⟩, h12⟩, h13⟩ := h
  have kx : env.kindOf x = some .local := h1
  have ky : env.kindOf y = some .local := h2
  have kz : env.kindOf z = some .local := h3
  have hs : ([a, b, c].any fun e => match e with | .Starred _ _ => true | _ => false) = false := by
    have s1 : ∀ e, notStar e = true → (match e with | .Starred _ _ => true | _ => false : Bool) = false := fun e he => by cases e <;> first | rfl | cases he
    simp only [List.any_cons, List.any_nil, s1 a h9, s1 b h10, s1 c h11, Bool.or_self]
  have e1 : (y == x) = false := by simpa using fun q => h4 q.symm
  have e2 : (z == x) = false := by simpa using fun q => h5 q.symm
  have e3 : (z == y) = false := by simpa using fun q => h6 q.symm
  unfold swappedStores
  simp only []
  rw [blockK hk]
  simp only [List.length_cons, List.length_nil, bne_self_eq_false, Bool.or_false, beq_self_eq_true, Bool.true_or, Bool.or_true, Bool.not_true, Bool.false_eq_true, if_false, hs, List.filterMap_cons, List.filterMap_nil, kx, ky, kz, List.head?_cons, Option.map_some, Option.getD_some, Expr.pos, h7, h8, Bool.and_self, if_true, h12, h13]
  first
    | rfl
    | (simp [List.eraseDups, List.eraseDupsBy, List.eraseDupsBy.loop, e1, e2, e3]
       intro hh
       exfalso
       rcases hh with hh | hh | hh
       · cases a <;> first | exact Bool.noConfusion hh | exact Bool.noConfusion h9
       · cases b <;> first | exact Bool.noConfusion hh | exact Bool.noConfusion h10
       · cases c <;> first | exact Bool.noConfusion hh | exact Bool.noConfusion h11)
end Cv

set_option Elab.async false
set_option linter.all false
set_option maxRecDepth 100000
/-! CvO: statements. -/
namespace Cv
open PySem PySem.Spec PyProof.Rows L2

/-- something that is no table of lambdas -/
def Nt (o : Option HO) : Prop := ∃ u, o = some u ∧ ∀ ps, u ≠ .tbl ps
theorem Nt.lst {vs : List V} : Nt (some (.lst vs)) := ⟨_, rfl, fun ps z => by cases z⟩
/-- how the heap lies behind an earlier one: what was fixed there is kept, the excluded are as before or new -/
structure Bs (g : GI) (ow1 : List Addr) (H1 : Hp) (ow : List Addr) (H : Hp) : Prop where
  sub : Sub (fz g ow1 H1) H
  new : ∀ a ∈ ow, a ∈ ow1 ∨ Nw H1 a
  dom : ∀ b, Nt (H1 b) → Nt (H b)
abbrev Bases := List (List Addr × Hp)
structure StS (K : PySem.W.Frag) (g : GI) (ow0 : List Addr) (H0 : Hp) (B : Bases) (env : Cv.Env) (c : Cup) (ow : List Addr) (σ : L2.St) (H : Hp) : Prop where
  st : StR K g ow env c σ H
  sub : ∀ a ∈ ow0, a ∈ ow
  kp : Kp g H0 H
  new : ∀ a ∈ ow, a ∈ ow0 ∨ Nw H0 a
  own : ∀ (k : Nat) (xs : List PV) (a : Addr), env[k]? = some (some (Slot.own xs)) → σ[k]? = some (some (V.ref a)) → Nw H0 a
  bs : ∀ p ∈ B, Bs g p.1 p.2 ow H
  l0 : ∀ a ∈ ow0, ∃ vs, H0 a = some (.lst vs)
theorem Kp.dom {g : GI} {H H' : Hp} {c' : Cup} (k : Kp g H H') (hs : Hs g c' H') : ∀ b, Nt (H b) → Nt (H' b) := fun b ⟨u, e, n⟩ => by
  by_cases h : b = g.c
  · rw [h, hs.1]; exact .lst
  · rw [k b u e h n]; exact ⟨u, rfl, n⟩
theorem fz_nt {g : GI} {ow : List Addr} {H : Hp} {b : Addr} {o : HO} (h : fz g ow H b = some o) : ∀ ps, o ≠ .tbl ps := by
  obtain ⟨h2, h3, h4⟩ := fz_at h
  have e2 := h
  unfold fz at e2
  rw [if_neg (fun z => z.elim h3 h4), h2] at e2
  exact keepO_tbl e2
theorem Bs.kp {g : GI} {ow1 ow : List Addr} {H1 H H' : Hp} {c' : Cup} (b : Bs g ow1 H1 ow H) (k : Kp g H H') (hs : Hs g c' H') : Bs g ow1 H1 ow H' :=
  ⟨fun x o e => k x o (b.sub x o e) (fz_at e).2.1 (fz_nt e), b.new, fun x z => k.dom hs x (b.dom x z)⟩
section
variable {K : PySem.W.Frag} {g : GI} {E : XK} {ow0 ow : List Addr} {H0 H H' : Hp} {B : Bases} {env : Cv.Env} {c c' : Cup} {σ : L2.St}
theorem StS.kp' (s : StS K g ow0 H0 B env c ow σ H) (k : Kp g H H') (hs : Hs g c' H') : StS K g ow0 H0 B env c' ow σ H' :=
  ⟨s.st.kp k hs, s.sub, s.kp.trans k, s.new, s.own, fun p hp => (s.bs p hp).kp k hs, s.l0⟩
/-- what is wanted behind a statement, by the evaluator's end -/
def FlK (K : PySem.W.Frag) (g : GI) (ow0 : List Addr) (H0 : Hp) (B : Bases) (D : Ends) (f : Fl) (c : Cup) (H : Hp) : Prop := match f with
  | .nx env => ∀ σ ow, StS K g ow0 H0 B env c ow σ H → D.nx σ H
  | .bk env => ∀ σ ow, StS K g ow0 H0 B env c ow σ H → D.bk σ H
  | .ct env => ∀ σ ow, StS K g ow0 H0 B env c ow σ H → D.ct σ H
  | .rt v => ∀ u, Rep K g (fz g ow0 H) v u → D.rt u H
/-- an end at the base H0 that holds for every heap and cup behind it -/
def OutS (g : GI) (E : XK) (H0 : Hp) (r : Rs Fl) (k : Fl → Cup → Hp → Prop) : Prop := Out g E H0 r k
def tS (K : PySem.W.Frag) (g : GI) (E : XK) (ow0 : List Addr) (H0 : Hp) (B : Bases) (m : Cv.Env → M Fl) : TS := fun D σ H => ∃ env c ow, StS K g ow0 H0 B env c ow σ H ∧ Out g E H0 (m env c) (FlK K g ow0 H0 B D)
theorem Out.base {α β : Type} {m : M α} {f : α → M β} {k : β → Cup → Hp → Prop} (k0 : Kp g H0 H) (q : Out g E H0 (Cv.bnd m f c) k) : Out g E H (m c) fun a c1 H1 => Out g E H0 (f a c1) k := by
  have q : Out g E H0 ((m c).then f) k := q
  cases e : m c with
  | ok a c1 => rw [e] at q; exact fun _ _ _ => q
  | exc i p c1 => rw [e] at q; exact fun H' k1 hs => q H' (k0.trans k1) hs
  | bad => rw [e] at q; exact q
theorem PS.imp {X : Cx} {s : Stmt} {t t' : TS} (h : PS X s t) (w : ∀ D σ H, t' D σ H → t D σ H) : PS X s t' := ⟨fun pins s σ H D I q => h.run pins s σ H D I (w D σ H q)⟩
theorem PSs.imp {X : Cx} {s : List Stmt} {t t' : TS} (h : PSs X s t) (w : ∀ D σ H, t' D σ H → t D σ H) : PSs X s t' := ⟨fun pins s σ H D I q => h.run pins s σ H D I (w D σ H q)⟩
/-- an expression within a statement -/
theorem tS_e {α : Type} {raw : Bool} {m : Cv.Env → M PV} {f : PV → M α} {k : α → Cup → Hp → Prop} {Q : VK} (s : StS K g ow0 H0 B env c ow σ H) (q : Out g E H0 (bnd (m env) f c) k)
    (w : ∀ x v c1 H1, StS K g ow0 H0 B env c1 ow σ H1 → Kp g H H1 → RepM K g raw ow H1 x v → Out g E H0 (f x c1) k → Q v H1) : tE K g E raw m σ H Q :=
  ⟨ow, env, c, s.st, (Out.base s.kp q).imp fun x c1 H1 k1 hs q1 v rv => w x v c1 H1 (s.kp' k1 hs) k1 rv q1⟩
theorem tS_t {α : Type} {m : Cv.Env → M Bool} {f : Bool → M α} {k : α → Cup → Hp → Prop} {Q : Bool → Hp → Prop} (s : StS K g ow0 H0 B env c ow σ H) (q : Out g E H0 (bnd (m env) f c) k)
    (w : ∀ x c1 H1, StS K g ow0 H0 B env c1 ow σ H1 → Kp g H H1 → Out g E H0 (f x c1) k → Q x H1) : tT K g E m σ H Q :=
  ⟨ow, env, c, s.st, (Out.base s.kp q).imp fun x c1 H1 k1 hs q1 => w x c1 H1 (s.kp' k1 hs) k1 q1⟩
theorem StS.end_ (s : StS K g ow0 H0 B env c ow σ H) {f : Fl} {k : Fl → Cup → Hp → Prop} (q : Out g E H0 (ret f c) k) : k f c H := q H s.kp s.st.hs

/-! ### what a store does -/
theorem tg_own (t : Tg) : (∀ (x : PV) (env env' : Cv.Env), t.f.one x env = some env' → ∀ (k : Nat) (ys : List PV), env'[k]? = some (some (Slot.own ys)) → env[k]? = some (some (Slot.own ys)) ∧ k ∉ t.vars) ∧
    ∀ (xs : List PV) (env env' : Cv.Env), t.f.all xs env = some env' → ∀ (k : Nat) (ys : List PV), env'[k]? = some (some (Slot.own ys)) → env[k]? = some (some (Slot.own ys)) ∧ k ∉ t.vars := by
  induction t with
  | v j =>
    refine ⟨fun x env env' e k ys h => ?_, fun xs env env' e => by cases e⟩
    cases e
    by_cases hk : j = k
    · subst hk
      by_cases hl : j < env.length
      · rw [List.getElem?_set_self hl] at h
        cases h
      · rw [List.getElem?_eq_none (by rw [List.length_set]; omega)] at h
        cases h
    · rw [List.getElem?_set_ne hk] at h
      exact ⟨h, fun z => hk (List.mem_singleton.mp z).symm⟩
  | tup ts ih =>
    refine ⟨fun x env env' e k ys h => ?_, fun xs env env' e => by cases e⟩
    cases x with
    | tup xs => exact ih.2 xs env env' e k ys h
    | lst xs => exact ih.2 xs env env' e k ys h
    | _ => cases e
  | nil =>
    refine ⟨fun x env env' e => (by cases e), fun xs env env' e k ys h => ?_⟩
    cases xs with
    | nil => cases e; exact ⟨h, fun z => by cases z⟩
    | cons _ _ => cases e
  | cons a b iha ihb =>
    refine ⟨fun x env env' e => (by cases e), fun xs env env' e k ys h => ?_⟩
    cases xs with
    | nil => cases e
    | cons x xs =>
      have e : ((Tg.f a).one x env).bind (fun e => (Tg.f b).all xs e) = some env' := e
      cases e1 : (Tg.f a).one x env with
      | none => rw [e1] at e; cases e
      | some env1 =>
        rw [e1] at e
        obtain ⟨h1, h2⟩ := ihb.2 xs env1 env' e k ys h
        obtain ⟨h3, h4⟩ := iha.1 x env env1 e1 k ys h1
        exact ⟨h3, fun z => (List.mem_append.mp z).elim h4 h2⟩
/-- a target, within a statement -/
theorem tS_g {t : Tg} {x : PV} {v : V} {env' : Cv.Env} {Q : L2.St → Hp → Prop} (s : StS K g ow0 H0 B env c ow σ H) (r : Rep K g (fz g ow H) x v) (e : t.f.one x env = some env') (w : ∀ σ', StS K g ow0 H0 B env' c ow σ' H → Q σ' H) : tG K g t v σ H Q :=
  ⟨x, ow, env, env', s.st.env, r, e, fun σ' r' hl hv => w σ' ⟨⟨s.st.nc, s.st.live, s.st.hs, r'⟩, s.sub, s.kp, s.new, fun k xs a h1 h2 => by
    obtain ⟨h3, h4⟩ := (tg_own t).1 x env env' e k xs h1
    rw [hv k h4] at h2
    exact s.own k xs a h3 h2, s.bs, s.l0⟩⟩
theorem nw_of {H1 : Hp} {a : Addr} (d : ∀ b, Nt (H1 b) → Nt (H b)) (h : Nw H a) : Nw H1 a := fun o e => by
  by_cases q : ∃ ps, o = .tbl ps
  · exact q
  · obtain ⟨u, z, n⟩ := d a (by rw [e]; exact ⟨o, rfl, fun ps z => q ⟨ps, z⟩⟩)
    obtain ⟨ps, w⟩ := h u z
    exact absurd w (n ps)
theorem EnvR.setOwn (r : EnvR K g ow env σ H) {k : Nat} {a : Addr} {xs : List PV} {vs : List V} (ha : a ∈ ow) (h : H a = some (.lst vs)) (rs : Reps K g (fz g ow H) xs vs)
    (hne : ∀ (j : Nat) (ys : List PV), j ≠ k → env[j]? = some (some (Slot.own ys)) → σ[j]? ≠ some (some (V.ref a))) : EnvR K g ow (env.set k (some (.own xs))) (σ.set k (some (.ref a))) H := by
  have hk : ∀ (i : Nat) (sl : Slot), k ≠ i → (env.set k (some (Slot.own xs)))[i]? = some (some sl) → env[i]? = some (some sl) := fun i sl h e => by
    rw [List.getElem?_set_ne h] at e
    exact e
  have hl : ∀ (sl : Slot), (env.set k (some (Slot.own xs)))[k]? = some (some sl) → k < env.length ∧ sl = .own xs := fun sl e => by
    by_cases hl : k < env.length
    · rw [List.getElem?_set_self hl] at e
      cases e
      exact ⟨hl, rfl⟩
    · rw [List.getElem?_eq_none (by rw [List.length_set]; omega)] at e
      cases e
  refine ⟨by rw [List.length_set, List.length_set]; exact r.len, fun i v e => ?_, fun i ys e => ?_, fun i j b ys zs hij e1 e2 => ?_⟩
  · by_cases h : k = i
    · subst h
      obtain ⟨_, z⟩ := hl _ e
      cases z
    · rw [List.getElem?_set_ne h]
      exact r.val i v (hk i _ h e)
  · by_cases hi : k = i
    · subst hi
      obtain ⟨hlt, z⟩ := hl _ e
      cases z
      exact ⟨a, vs, by rw [List.getElem?_set_self (by rw [← r.len]; exact hlt)], ha, h, rs⟩
    · rw [List.getElem?_set_ne hi]
      exact r.own i ys (hk i _ hi e)
  · by_cases hi : k = i
    · subst hi
      obtain ⟨hlt, z⟩ := hl _ e1
      rw [List.getElem?_set_self (by rw [← r.len]; exact hlt), List.getElem?_set_ne hij]
      intro z
      cases z
      exact hne j zs hij.symm (hk j _ hij e2)
    · by_cases hj : k = j
      · subst hj
        obtain ⟨hlt, z⟩ := hl _ e2
        rw [List.getElem?_set_self (by rw [← r.len]; exact hlt), List.getElem?_set_ne hi]
        intro z1 z2
        cases z2
        exact hne i ys (fun q => hi q.symm) (hk i _ hi e1) z1
      · rw [List.getElem?_set_ne hi, List.getElem?_set_ne hj]
        exact r.inj i j b ys zs hij (hk i _ hi e1) (hk j _ hj e2)
/-- a new list that the name k alone holds -/
theorem StS.ownNew {k : Nat} {a : Addr} {vs : List V} {xs : List PV} (s : StS K g ow0 H0 B env c ow σ H) (kp : Kp g H H') (hs : Hs g c' H') (hn : Nw H a) (h : H' a = some (.lst vs)) (r : Reps K g (fz g (a :: ow) H') xs vs) :
    StS K g ow0 H0 B (env.set k (some (.own xs))) c' (a :: ow) (σ.set k (some (.ref a))) H' := by
  have s' := s.kp' kp hs
  have hgr : ∀ b ∈ a :: ow, b ∈ ow ∨ Nw H b := fun b hb => by
    rcases List.mem_cons.mp hb with rfl | hb
    · exact .inr hn
    · exact .inl hb
  have hc : a ≠ g.c := fun z => by
    obtain ⟨ps, w⟩ := hn _ (z ▸ s.st.hs.1)
    cases w
  refine ⟨⟨fun z => ?_, fun b hb => ?_, hs, (s.st.env.grow s.st.nc kp hgr fun b hb => List.mem_cons_of_mem _ hb).setOwn (List.mem_cons_self ..) h r fun j ys hj e z => ?_⟩, fun b hb => List.mem_cons_of_mem _ (s.sub b hb), s'.kp, fun b hb => ?_, fun i ys b e1 e2 => ?_, fun p hp => ?_, s.l0⟩
  · rcases List.mem_cons.mp z with z | z
    · exact hc z.symm
    · exact s.st.nc z
  · rcases List.mem_cons.mp hb with rfl | hb
    · exact ⟨vs, h⟩
    · exact s'.st.live b hb
  · obtain ⟨b, ws, h1, h2, h3, _⟩ := s.st.env.own j ys e
    rw [h1] at z
    cases z
    obtain ⟨ps, w⟩ := hn _ h3
    cases w
  · rcases List.mem_cons.mp hb with rfl | hb
    · exact .inr (nw_of (s.kp.dom s.st.hs) hn)
    · exact s.new b hb
  · by_cases hi : k = i
    · subst hi
      by_cases hl : k < env.length
      · rw [List.getElem?_set_self (by rw [← s.st.env.len]; exact hl)] at e2
        cases e2
        exact nw_of (s.kp.dom s.st.hs) hn
      · rw [List.getElem?_eq_none (by rw [List.length_set]; omega)] at e1
        cases e1
    · rw [List.getElem?_set_ne hi] at e1 e2
      exact s.own i ys b e1 e2
  · have b0 := s.bs p hp
    have b1 := b0.kp kp hs
    refine ⟨b1.sub, fun b hb => ?_, b1.dom⟩
    rcases List.mem_cons.mp hb with rfl | hb
    · exact .inr (nw_of b0.dom hn)
    · exact b1.new b hb
/-- a name's own list changes -/
theorem StS.ownSet {k : Nat} {a : Addr} {vs ws : List V} {xs ys : List PV} (s : StS K g ow0 H0 B env c ow σ H) (e : env[k]? = some (some (Slot.own xs))) (ea : σ[k]? = some (some (V.ref a))) (ha : a ∈ ow) (h : H a = some (.lst vs)) (r : Reps K g (fz g ow H) ys ws) :
    StS K g ow0 H0 B (env.set k (some (.own ys))) c ow σ (upd H a (.lst ws)) := by
  have hc : a ≠ g.c := fun z => s.st.nc (z ▸ ha)
  have hf : fz g ow (upd H a (.lst ws)) = fz g ow H := fz_out ha
  have hσ : σ.set k (some (V.ref a)) = σ := by
    apply List.ext_getElem?
    intro i
    by_cases hi : k = i
    · subst hi
      rw [List.getElem?_set_self (List.getElem?_eq_some_iff.mp ea).1, ea]
    · rw [List.getElem?_set_ne hi]
  have at_ : ∀ b, b ≠ a → upd H a (.lst ws) b = H b := fun b hb => upd_ne hb
  have envU : EnvR K g ow env σ (upd H a (.lst ws)) ∨ True := .inr trivial
  have env1 : EnvR K g ow (env.set k (some (.own ys))) (σ.set k (some (.ref a))) (upd H a (.lst ws)) := by
    have er := s.st.env
    have hlt : k < env.length := (List.getElem?_eq_some_iff.mp e).1
    refine ⟨by rw [List.length_set, List.length_set]; exact er.len, fun i v e1 => ?_, fun i zs e1 => ?_, fun i j b y1 y2 hij e1 e2 => ?_⟩
    · by_cases hi : k = i
      · subst hi
        rw [List.getElem?_set_self hlt] at e1
        cases e1
      · rw [List.getElem?_set_ne hi] at e1 ⊢
        rw [hf]
        exact er.val i v e1
    · by_cases hi : k = i
      · subst hi
        rw [List.getElem?_set_self hlt] at e1
        cases e1
        exact ⟨a, ws, by rw [List.getElem?_set_self (by rw [← er.len]; exact hlt)], ha, upd_same, by rw [hf]; exact r⟩
      · rw [List.getElem?_set_ne hi] at e1 ⊢
        obtain ⟨b, us, h1, h2, h3, h4⟩ := er.own i zs e1
        refine ⟨b, us, h1, h2, ?_, by rw [hf]; exact h4⟩
        rw [at_ b fun z => er.inj i k a zs xs (fun q => hi q.symm) e1 e (by rw [← z]; exact h1) ea]
        exact h3
    · have back : ∀ (i : Nat) (y : List PV), (env.set k (some (Slot.own ys)))[i]? = some (some (Slot.own y)) → ∃ y', env[i]? = some (some (Slot.own y')) := fun i y q => by
        by_cases hi : k = i
        · subst hi
          exact ⟨xs, e⟩
        · rw [List.getElem?_set_ne hi] at q
          exact ⟨y, q⟩
      rw [hσ]
      obtain ⟨y1', q1⟩ := back i y1 e1
      obtain ⟨y2', q2⟩ := back j y2 e2
      exact er.inj i j b y1' y2' hij q1 q2
  rw [hσ] at env1
  refine ⟨⟨s.st.nc, fun b hb => ?_, s.st.hs.set h hc, env1⟩, s.sub, fun b o e1 n t => ?_, s.new, fun i zs b e1 e2 => ?_, fun p hp => ?_, s.l0⟩
  · by_cases hb2 : b = a
    · rw [hb2]; exact ⟨ws, upd_same⟩
    · rw [at_ b hb2]; exact s.st.live b hb
  · rw [at_ b fun z => by
      obtain ⟨ps, q⟩ := s.own k xs a e ea o (z ▸ e1)
      exact t ps q]
    exact s.kp b o e1 n t
  · by_cases hi : k = i
    · subst hi
      rw [ea] at e2
      cases e2
      exact s.own k xs a e ea
    · rw [List.getElem?_set_ne hi] at e1
      exact s.own i zs b e1 e2
  · have b0 := s.bs p hp
    refine ⟨fun x o q => ?_, b0.new, fun b hb => ?_⟩
    · rw [at_ x fun z => ?_]
      · exact b0.sub x o q
      · obtain ⟨h1, h2, h3⟩ := fz_at q
        rcases b0.new a ha with w | w
        · exact h3 (z ▸ w)
        · obtain ⟨ps, w⟩ := w o (z ▸ h1)
          exact fz_nt q ps w
    · by_cases hb2 : b = a
      · rw [hb2, upd_same]; exact .lst
      · rw [at_ b hb2]; exact b0.dom b hb
/-- a name's own list is laid open: it may not change any more -/
theorem StS.freeze {k : Nat} {xs : List PV} (s : StS K g ow0 H0 B env c ow σ H) (e : env[k]? = some (some (Slot.own xs))) : ∃ ow', StS K g ow0 H0 B (env.set k (some (.val (.lst xs)))) c ow' σ H := by
  obtain ⟨a, vs, h1, h2, h3, h4⟩ := s.st.env.own k xs e
  have hc : a ≠ g.c := fun z => s.st.nc (z ▸ h2)
  have hlt : k < env.length := (List.getElem?_eq_some_iff.mp e).1
  have less : ∀ b ∈ ow.filter (fun b => decide (b ≠ a)), b ∈ ow := fun b hb => (List.mem_filter.mp hb).1
  have na : a ∉ ow.filter (fun b => decide (b ≠ a)) := fun z => by
    have := (List.mem_filter.mp z).2
    simp at this
  have er := s.st.env
  refine ⟨ow.filter (fun b => decide (b ≠ a)), ⟨fun z => s.st.nc (less _ z), fun b hb => s.st.live b (less b hb), s.st.hs, by rw [List.length_set]; exact er.len, fun i v e1 => ?_, fun i zs e1 => ?_, fun i j b y1 y2 hij e1 e2 => ?_⟩, fun b hb => ?_, s.kp, fun b hb => s.new b (less b hb), fun i zs b e1 e2 => ?_, fun p hp => ?_, s.l0⟩
  · by_cases hi : k = i
    · subst hi
      rw [List.getElem?_set_self hlt] at e1
      cases e1
      exact ⟨.ref a, h1, .lst (fz_lst h3 hc na) (h4.sub (fz_less less))⟩
    · rw [List.getElem?_set_ne hi] at e1
      obtain ⟨u, q1, q2⟩ := er.val i v e1
      exact ⟨u, q1, q2.sub (fz_less less)⟩
  · by_cases hi : k = i
    · subst hi
      rw [List.getElem?_set_self hlt] at e1
      cases e1
    · rw [List.getElem?_set_ne hi] at e1
      obtain ⟨b, us, q1, q2, q3, q4⟩ := er.own i zs e1
      refine ⟨b, us, q1, List.mem_filter.mpr ⟨q2, decide_eq_true fun z => ?_⟩, q3, q4.sub (fz_less less)⟩
      exact er.inj i k a zs xs (fun q => hi q.symm) e1 e (by rw [← z]; exact q1) h1
  · have back : ∀ (i : Nat) (y : List PV), (env.set k (some (Slot.val (.lst xs))))[i]? = some (some (Slot.own y)) → env[i]? = some (some (Slot.own y)) := fun i y q => by
      by_cases hi : k = i
      · subst hi
        rw [List.getElem?_set_self hlt] at q
        cases q
      · rw [List.getElem?_set_ne hi] at q
        exact q
    exact er.inj i j b y1 y2 hij (back i y1 e1) (back j y2 e2)
  · refine List.mem_filter.mpr ⟨s.sub b hb, decide_eq_true fun z => ?_⟩
    obtain ⟨us, q⟩ := s.l0 b hb
    obtain ⟨ps, w⟩ := s.own k xs a e h1 _ (z ▸ q)
    cases w
  · by_cases hi : k = i
    · subst hi
      rw [List.getElem?_set_self hlt] at e1
      cases e1
    · rw [List.getElem?_set_ne hi] at e1
      exact s.own i zs b e1 e2
  · have b0 := s.bs p hp
    exact ⟨b0.sub, fun b hb => b0.new b (less b hb), b0.dom⟩
/-- the cup's numbers change -/
theorem StS.cup {n m : Int} (s : StS K g ow0 H0 B env c ow σ H) : StS K g ow0 H0 B env (n, m) ow σ (upd H g.c (.lst [.int n, .int m])) := by
  have at_ : ∀ b, b ≠ g.c → upd H g.c (.lst [.int n, .int m]) b = H b := fun b hb => upd_ne hb
  have hf : fz g ow (upd H g.c (.lst [.int n, .int m])) = fz g ow H := by
    funext b
    unfold fz
    by_cases hb : b = g.c
    · rw [if_pos (.inl hb), if_pos (.inl hb)]
    · rw [at_ b hb]
  have er := s.st.env
  have ow_c : ∀ b ∈ ow, b ≠ g.c := fun b hb z => s.st.nc (z ▸ hb)
  refine ⟨⟨s.st.nc, fun b hb => by rw [at_ b (ow_c b hb)]; exact s.st.live b hb, ⟨upd_same, fun p hp => ?_⟩, er.len, fun i v e => ?_, fun i zs e => ?_, er.inj⟩, s.sub, fun b o e h t => ?_, s.new, s.own, fun p hp => ?_, s.l0⟩
  · obtain ⟨ps, h1, h2, h3⟩ := s.st.hs.2 p hp
    have n1 : p.1 ≠ g.c := fun z => by rw [z, s.st.hs.1] at h1; cases h1
    refine ⟨ps, by rw [at_ _ n1]; exact h1, h2, fun pos cv q => ?_⟩
    obtain ⟨c', e1, e2⟩ := h3 pos cv q
    have n2 : c' ≠ g.c := fun z => by
      rw [z, s.st.hs.1] at e2
      unfold LamX.CodeO at e2
      cases e2
    exact ⟨c', e1, by rw [at_ _ n2]; exact e2⟩
  · rw [hf]; exact er.val i v e
  · rw [hf]
    obtain ⟨a, us, q1, q2, q3, q4⟩ := er.own i zs e
    exact ⟨a, us, q1, q2, by rw [at_ a (ow_c a q2)]; exact q3, q4⟩
  · rw [at_ b h]; exact s.kp b o e h t
  · have b0 := s.bs p hp
    refine ⟨fun x o q => by rw [at_ x (fz_at q).2.1]; exact b0.sub x o q, b0.new, fun b hb => ?_⟩
    by_cases hb2 : b = g.c
    · rw [hb2, upd_same]; exact .lst
    · rw [at_ b hb2]; exact b0.dom b hb
end
end Cv

set_option Elab.async false
set_option linter.all false
set_option maxRecDepth 100000
/-! CvP: every statement that the look lets through is read by the evaluator. -/
namespace Cv
open PySem PySem.Spec PyProof.Rows L2

/-- a new list of written items that a name alone will hold -/
def tF (K : PySem.W.Frag) (g : GI) (E : XK) (m : Cv.Env → M PV) : TE := fun σ H Q => ∃ ow env c, StR K g ow env c σ H ∧ Out g E H (m env c) fun r c' H' => ∀ a vs xs, r = PV.lst xs → Nw H a → H' a = some (.lst vs) → Reps K g (fz g (a :: ow) H') xs vs → Q (.ref a) H'
theorem nw_kp {g : GI} {H H1 : Hp} {c1 : Cup} {a : Addr} (k : Kp g H H1) (hs : Hs g c1 H1) (h : H1 a = none) : Nw H a := nw_of (k.dom hs) (Nw.of h)
section
variable {X : Cx} {C : Ctx} {g : GI} {E : XK} {cl : Calls} {p : Pos}
theorem pe_lstF {es : List PySem.Expr} {m : Cv.Env → M (List PV)} (h : PA X es (tL X.K g E m)) :
    PE X (.List es p) (tF X.K g E fun env => bnd (m env) fun xs => lift (if xs.length ≤ big then some (.lst xs) else none)) := by
  refine PE.imp (pe_lst h) fun σ H Q ⟨ow, env, c, st, q⟩ => ?_
  refine ⟨ow, env, c, st, (Out.bnd q).imp fun xs c2 H2 k2 hs2 q2 vs r2 => ?_⟩
  obtain ⟨z, e, q3⟩ := Out.lift q2
  split at e
  · rename_i hz
    cases e
    refine ⟨by rw [← r2.length, ← big_eq]; exact hz, fun a ha => ?_⟩
    have st2 := st.kp k2 hs2
    refine q3 _ (Kp.upd ha) (hs2.upd ha) a vs xs rfl (nw_kp k2 hs2 ha) upd_same (r2.sub ?_)
    exact fz_grow (Kp.upd (g := g) ha).subz fun b hb => by
      rcases List.mem_cons.mp hb with rfl | hb
      · exact .inr (Nw.of ha)
      · exact .inl hb
  · cases e

/-- the context of a def's body -/
structure GoodS (X : Cx) (C : Ctx) (g : GI) (E : XK) (cl : Calls) : Prop where
  g0 : Good0 X C g E cl
  pass : PassesOwn (model X.prog X.w) X.A X.env X.xe
  fn : ∀ x, X.fn x = true
  kind : X.env.scope.kind = .function

theorem swaps_dec {sc : Scope} (e : PySem.Expr) (x : Str) (px : Pos) (l : Nat) {env : PySem.Env} (hk : env.scope.kind = .function) :
    swapsWith e (some (.Name x px)) l env = pure false ∨ (swapsWith e (some (.Name x px)) l env = pure true ∧ isComp e = true ∧ env.scope.names.lookup x = some .local) := by
  have key : ∀ b : Bool, (b = true → env.scope.names.lookup x = some .local) → isComp e = true → swapsWith e (some (.Name x px)) l env = pure b → swapsWith e (some (.Name x px)) l env = pure false ∨ (swapsWith e (some (.Name x px)) l env = pure true ∧ isComp e = true ∧ env.scope.names.lookup x = some .local) := by
    intro b hb hc h
    cases b with
    | false => exact .inl h
    | true => exact .inr ⟨h, hc, hb rfl⟩
  have hl : ∀ (b1 b2 b3 : Bool), (b1 && (env.kindOf x == some .local) && b2 && b3) = true → env.scope.names.lookup x = some .local := by
    intro b1 b2 b3 h
    simp only [Bool.and_eq_true] at h
    exact beq_iff_eq.mp h.1.1.2
  cases e with
  | ListComp a b s p => exact key _ (hl _ _ _) rfl rfl
  | SetComp a b s p => exact key _ (hl _ _ _) rfl rfl
  | DictComp a b d s p => exact key _ (hl _ _ _) rfl rfl
  | _ => exact .inl rfl
theorem good_loc {x : Str} (h : locB X.env.scope x = true) : Loc X.env.scope x := by
  unfold locB at h
  simp only [Bool.or_eq_true, decide_eq_true_eq] at h
  exact h
end
section
variable {C : Ctx} {g : GI} {ErrP : Cx → Calls → Prop}
variable (C g ErrP) in
structure SoundS (T0 : T) : Prop where
  s : ∀ (X : Cx) (E : XK) (cl : Calls) (st : Stmt), GoodS X C g E cl → ErrQ ErrP X cl → (chk C T0).s X.env.scope st = true → ∀ ow0 H0 B, PS X st (tS X.K g E ow0 H0 B (sem T0 cl).s)
  ss : ∀ (X : Cx) (E : XK) (cl : Calls) (sts : List Stmt), GoodS X C g E cl → ErrQ ErrP X cl → (chk C T0).ss X.env.scope sts = true → ∀ ow0 H0 B, PSs X sts (tS X.K g E ow0 H0 B (sem T0 cl).s)
  fz : (chk C T0).fz = true → ∀ (K : PySem.W.Frag) (E : XK) (cl : Calls) (ow0 ow : List Addr) (H0 H : Hp) (B : Bases) (env : Cv.Env) (c : Cup) (σ : L2.St) (β : Type) (f : Fl → M β) (k : β → Cup → Hp → Prop),
    StS K g ow0 H0 B env c ow σ H → Out g E H0 (bnd ((sem T0 cl).s env) f c) k → ∃ env' ow', StS K g ow0 H0 B env' c ow' σ H ∧ Out g E H0 (f (.nx env') c) k
theorem SoundS.ofS {t : T} {f : Scope → Stmt → Bool} (hc : chk C t = ckS f)
    (h : ∀ (X : Cx) (E : XK) (cl : Calls) (st : Stmt), GoodS X C g E cl → ErrQ ErrP X cl → f X.env.scope st = true → ∀ ow0 H0 B, PS X st (tS X.K g E ow0 H0 B (sem t cl).s)) : SoundS C g ErrP t := by
  refine ⟨fun X E cl st G Q q => ?_, fun X E cl sts G Q q => ?_, fun q => ?_⟩
  · rw [hc] at q
    exact h X E cl st G Q q
  · rw [hc] at q
    intro ow0 H0 B
    match sts, q with
    | [x], q => exact pss_one (h X E cl x G Q q ow0 H0 B)
  · rw [hc] at q; cases q
theorem SoundS.no {t : T} (h1 : (chk C t).s = fun _ _ => false) (h2 : (chk C t).ss = fun _ _ => false) (h3 : (chk C t).fz = false) : SoundS C g ErrP t := by
  refine ⟨fun X E cl st G Q q => ?_, fun X E cl sts G Q q => ?_, fun q => ?_⟩
  · rw [h1] at q; cases q
  · rw [h2] at q; cases q
  · rw [h3] at q; cases q
section
variable {K : PySem.W.Frag} {E : XK} {ow0 ow : List Addr} {H0 H : Hp} {B : Bases} {env : Cv.Env} {c : Cup} {σ : L2.St}
/-- a value is stored -/
theorem StS.setVal {k : Nat} {x : PV} {v : V} (s : StS K g ow0 H0 B env c ow σ H) (r : Rep K g (fz g ow H) x v) : StS K g ow0 H0 B (env.set k (some (.val x))) c ow (σ.set k (some v)) H := by
  refine ⟨⟨s.st.nc, s.st.live, s.st.hs, s.st.env.set k r⟩, s.sub, s.kp, s.new, fun i xs a h1 h2 => ?_, s.bs, s.l0⟩
  by_cases hi : k = i
  · subst hi
    by_cases hl : k < env.length
    · rw [List.getElem?_set_self hl] at h1
      cases h1
    · rw [List.getElem?_eq_none (by rw [List.length_set]; omega)] at h1
      cases h1
  · rw [List.getElem?_set_ne hi] at h1 h2
    exact s.own i xs a h1 h2
theorem StS.base (s : StS K g ow0 H0 B env c ow σ H) : StS K g ow0 H0 ((ow, H) :: B) env c ow σ H :=
  ⟨s.st, s.sub, s.kp, s.new, s.own, fun p hp => by
    rcases List.mem_cons.mp hp with rfl | hp
    · exact ⟨fz_sub, fun a ha => .inl ha, fun _ h => h⟩
    · exact s.bs p hp, s.l0⟩
theorem StS.drop {p : List Addr × Hp} (s : StS K g ow0 H0 (p :: B) env c ow σ H) : StS K g ow0 H0 B env c ow σ H :=
  ⟨s.st, s.sub, s.kp, s.new, s.own, fun q hq => s.bs q (List.mem_cons_of_mem _ hq), s.l0⟩
theorem Out.then {α β : Type} {g : GI} {r : Rs α} {f : α → M β} {k : β → Cup → Hp → Prop} (q : Out g E H0 (r.then f) k) : Out g E H0 r fun a c1 _ => Out g E H0 (f a c1) k := by
  cases r with
  | ok a c1 => exact fun _ _ _ => q
  | exc i p c1 => exact q
  | bad => exact q
theorem tS_seq {ma mb : Cv.Env → M Fl} {D : Ends} (h : tS K g E ow0 H0 B (fun env => bnd (ma env) fun r => match r with
      | .nx env2 => mb env2
      | r => ret r) D σ H) : tSeq (tS K g E ow0 H0 B ma) (tS K g E ow0 H0 B mb) D σ H := by
  obtain ⟨env, c, ow, s, q⟩ := h
  refine ⟨env, c, ow, s, (Out.then q).imp fun f c1 H1 k1 hs1 q1 => ?_⟩
  cases f with
  | nx env2 => exact fun σ' ow' s' => ⟨env2, c1, ow', s', q1⟩
  | bk env2 => exact q1 H1 k1 hs1
  | ct env2 => exact q1 H1 k1 hs1
  | rt v => exact q1 H1 k1 hs1
end
/-- a name or a tuple, stored plainly -/
theorem ps_setT {X : Cx} {E : XK} {cl : Calls} {tg : Tg} {v : T} {t e : PySem.Expr} {p : Pos} (G : GoodS X C g E cl) (ht : (tg.chk C).one X.env.scope X.env.scope t = true) (he : PE X e (tE X.K g E false (sem v cl).e))
    (hs : swapsWithSole [t] e p.line X.env = pure false) (hw : swappedStores [t] e X.env = pure none) (ow0 : List Addr) (H0 : Hp) (B : Bases) : PS X (.Assign [t] e p) (tS X.K g E ow0 H0 B (sem (.set tg v) cl).s) := by
  have hg := (pg_all (g := g) (st := X.env.scope) G.g0.N G.g0.nd G.g0.calm (fun x _ _ => .inl (G.fn x)) tg).1 t ht
  have h1 : (assignEach [t] X.env).map (·.2) = [assign t X.env] := by
    have ns : notStar t = true := by
      cases t <;> first | rfl | skip
      cases tg <;> cases ht
    rw [assignEach_cons ns]
    rfl
  refine PS.imp (ps_asg he hg hs hw h1) fun D σ H ⟨env, c, ow, s, q⟩ => ?_
  refine tS_e s q fun x u c1 H1 s1 k1 r1 q1 => ?_
  cases e1 : tg.f.one x env with
  | none => rw [e1] at q1; exact False.elim q1
  | some env2 =>
    rw [e1] at q1
    exact tS_g s1 r1.strict e1 fun σ' s' => s'.end_ q1 σ' ow s'

theorem big_lt {n : Nat} (h : n < big) : n < sizeLine := by rw [← big_eq]; exact h
theorem line_le {n : Nat} (h : n ≤ big) : n ≤ sizeLine := by rw [← big_eq]; exact h
/-- two, three plain local names, exchanged -/
theorem tS_es {X : Cx} {E : XK} {ow0 ow : List Addr} {H0 H : Hp} {B : Bases} {env : Cv.Env} {c : Cup} {σ : L2.St} {es : Cv.Env → M (List PV)} {tg : Tg} {D : Ends} {Q : List V → Hp → Prop} (s : StS X.K g ow0 H0 B env c ow σ H)
    (q : Out g E H0 (bnd (bnd (es env) fun xs => lift (if xs.length ≤ big then some (PV.tup xs) else none)) (fun x => match tg.f.one x env with
      | some env2 => ret (Fl.nx env2)
      | none => badM) c) (FlK X.K g ow0 H0 B D))
    (w : ∀ xs vs env2 c1 H1, StS X.K g ow0 H0 B env c1 ow σ H1 → Reps X.K g (fz g ow H1) xs vs → tg.f.one (.tup xs) env = some env2 → (∀ σ', StS X.K g ow0 H0 B env2 c1 ow σ' H1 → D.nx σ' H1) → Q vs H1) : tL X.K g E es σ H Q := by
  rw [bnd_assoc] at q
  refine ⟨ow, env, c, s.st, (Out.base s.kp q).imp fun xs c1 H1 k1 hs1 q1 vs rv => ?_⟩
  obtain ⟨z, e, q2⟩ := Out.bndL q1
  split at e
  · cases e
    cases e1 : tg.f.one (.tup xs) env with
    | none => rw [e1] at q2; exact False.elim q2
    | some env2 =>
      rw [e1] at q2
      exact w xs vs env2 c1 H1 (s.kp' k1 hs1) rv e1 fun σ' s' => s'.end_ q2 σ' ow s'
  · cases e
theorem ps_swap2 {X : Cx} {E : XK} {cl : Calls} {tg : Tg} {es : T} {x y : Str} {px py pt p2 p : Pos} {k1 k2 : Nat} {a b : PySem.Expr} (G : GoodS X C g E cl) (ht : (tg.chk C).one X.env.scope X.env.scope (.Tuple [.Name x px, .Name y py] k1 pt) = true)
    (he : PA X [a, b] (tL X.K g E (sem es cl).es)) (h : swap2 X.env.scope (.Tuple [.Name x px, .Name y py] k1 pt) (.Tuple [a, b] k2 p2) = true) (ow0 : List Addr) (H0 : Hp) (B : Bases) :
    PS X (.Assign [.Tuple [.Name x px, .Name y py] k1 pt] (.Tuple [a, b] k2 p2) p) (tS X.K g E ow0 H0 B (sem (.set tg (.tup es)) cl).s) := by
  have hsw := swapped_two G.kind h
  have h' : (decide (X.env.scope.names.lookup x = some .local) && decide (X.env.scope.names.lookup y = some .local) && decide (x ≠ y) && (py.line == px.line) && notStar a && notStar b && !([a, b].all (foldedForSure 8)) && !([a, b].all (constantsAlone 8))) = true := h
  simp only [Bool.and_eq_true, decide_eq_true_eq] at h'
  obtain ⟨⟨⟨⟨⟨⟨⟨h1, h2⟩, h3⟩, _⟩, _⟩, _⟩, _⟩, _⟩ := h'
  cases tg with
  | tup ts =>
    have ht : ((ts.chk C).all X.env.scope X.env.scope [.Name x px, .Name y py] && _) = true := ht
    rw [Bool.and_eq_true] at ht
    have ht := ht.1
    cases ts with
    | cons t1 r1 =>
      have ht : ((t1.chk C).one X.env.scope X.env.scope (.Name x px) && (r1.chk C).all X.env.scope X.env.scope [.Name y py]) = true := ht
      rw [Bool.and_eq_true] at ht
      cases r1 with
      | cons t2 r2 =>
        have ht2 : ((t2.chk C).one X.env.scope X.env.scope (.Name y py) && (r2.chk C).all X.env.scope X.env.scope []) = true := ht.2
        rw [Bool.and_eq_true] at ht2
        cases r2 <;> try cases ht2.2
        obtain ⟨i, rfl⟩ : ∃ i, t1 = .v i := by cases t1 <;> first | exact ⟨_, rfl⟩ | cases ht.1
        obtain ⟨j, rfl⟩ : ∃ i, t2 = .v i := by cases t2 <;> first | exact ⟨_, rfl⟩ | cases ht2.1
        have q1 : (decide (C.N[i]? = some x) && locB X.env.scope x && locB X.env.scope x) = true := ht.1
        have q2 : (decide (C.N[j]? = some y) && locB X.env.scope y && locB X.env.scope y) = true := ht2.1
        simp only [Bool.and_eq_true, decide_eq_true_eq] at q1 q2
        have n1 := good_N G.g0 q1.1.1
        have n2 := good_N G.g0 q2.1.1
        have hij : i ≠ j := fun z => h3 (by rw [z, n2] at n1; exact (Option.some.inj n1).symm)
        refine PS.imp (ps_par G.g0.calm G.g0.nd n1 n2 hij h1 h2 he hsw) fun D σ H ⟨env, c, ow, s, q⟩ => ?_
        refine tS_es s q fun xs vs env2 c1 H1 s1 rv e2 fin => ?_
        match xs, rv, e2 with
        | [u, v], .cons ru (.cons rw' .nil), e2 =>
          cases e2
          exact ⟨_, _, rfl, fin _ ((s1.setVal ru).setVal rw')⟩
      | _ => cases ht.2
    | _ => cases ht
  | _ => cases ht
theorem ps_swap3 {X : Cx} {E : XK} {cl : Calls} {tg : Tg} {es : T} {x y z : Str} {px py pz pt p2 p : Pos} {k1 k2 : Nat} {a b d : PySem.Expr} (G : GoodS X C g E cl) (ht : (tg.chk C).one X.env.scope X.env.scope (.Tuple [.Name x px, .Name y py, .Name z pz] k1 pt) = true)
    (he : PA X [a, b, d] (tL X.K g E (sem es cl).es)) (h : swap3 X.env.scope (.Tuple [.Name x px, .Name y py, .Name z pz] k1 pt) (.Tuple [a, b, d] k2 p2) = true) (ow0 : List Addr) (H0 : Hp) (B : Bases) :
    PS X (.Assign [.Tuple [.Name x px, .Name y py, .Name z pz] k1 pt] (.Tuple [a, b, d] k2 p2) p) (tS X.K g E ow0 H0 B (sem (.set tg (.tup es)) cl).s) := by
  have hsw := swapped_three G.kind h
  have h' : (decide (X.env.scope.names.lookup x = some .local) && decide (X.env.scope.names.lookup y = some .local) && decide (X.env.scope.names.lookup z = some .local) && decide (x ≠ y) && decide (x ≠ z) && decide (y ≠ z) &&
    (py.line == px.line) && (pz.line == px.line) && notStar a && notStar b && notStar d && !([a, b, d].all (foldedForSure 8)) && !([a, b, d].all (constantsAlone 8))) = true := h
  simp only [Bool.and_eq_true, decide_eq_true_eq] at h'
  obtain ⟨⟨⟨⟨⟨⟨⟨⟨⟨⟨⟨⟨h1, h2⟩, h3⟩, h4⟩, h5⟩, h6⟩, _⟩, _⟩, _⟩, _⟩, _⟩, _⟩, _⟩ := h'
  cases tg with
  | tup ts =>
    have ht : ((ts.chk C).all X.env.scope X.env.scope [.Name x px, .Name y py, .Name z pz] && _) = true := ht
    rw [Bool.and_eq_true] at ht
    have ht := ht.1
    cases ts with
    | cons t1 r1 =>
      have ht : ((t1.chk C).one X.env.scope X.env.scope (.Name x px) && (r1.chk C).all X.env.scope X.env.scope [.Name y py, .Name z pz]) = true := ht
      rw [Bool.and_eq_true] at ht
      cases r1 with
      | cons t2 r2 =>
        have ht2 : ((t2.chk C).one X.env.scope X.env.scope (.Name y py) && (r2.chk C).all X.env.scope X.env.scope [.Name z pz]) = true := ht.2
        rw [Bool.and_eq_true] at ht2
        cases r2 with
        | cons t3 r3 =>
          have ht3 : ((t3.chk C).one X.env.scope X.env.scope (.Name z pz) && (r3.chk C).all X.env.scope X.env.scope []) = true := ht2.2
          rw [Bool.and_eq_true] at ht3
          cases r3 <;> try cases ht3.2
          obtain ⟨i, rfl⟩ : ∃ i, t1 = .v i := by cases t1 <;> first | exact ⟨_, rfl⟩ | cases ht.1
          obtain ⟨j, rfl⟩ : ∃ i, t2 = .v i := by cases t2 <;> first | exact ⟨_, rfl⟩ | cases ht2.1
          obtain ⟨l, rfl⟩ : ∃ i, t3 = .v i := by cases t3 <;> first | exact ⟨_, rfl⟩ | cases ht3.1
          have q1 : (decide (C.N[i]? = some x) && locB X.env.scope x && locB X.env.scope x) = true := ht.1
          have q2 : (decide (C.N[j]? = some y) && locB X.env.scope y && locB X.env.scope y) = true := ht2.1
          have q3 : (decide (C.N[l]? = some z) && locB X.env.scope z && locB X.env.scope z) = true := ht3.1
          simp only [Bool.and_eq_true, decide_eq_true_eq] at q1 q2 q3
          have n1 := good_N G.g0 q1.1.1
          have n2 := good_N G.g0 q2.1.1
          have n3 := good_N G.g0 q3.1.1
          have hij : i ≠ j := fun e => h4 (by rw [e, n2] at n1; exact (Option.some.inj n1).symm)
          have hil : i ≠ l := fun e => h5 (by rw [e, n3] at n1; exact (Option.some.inj n1).symm)
          have hjl : j ≠ l := fun e => h6 (by rw [e, n3] at n2; exact (Option.some.inj n2).symm)
          refine PS.imp (ps_par3 G.g0.calm G.g0.nd n1 n2 n3 hij hil hjl h1 h2 h3 he hsw) fun D σ H ⟨env, c, ow, s, q⟩ => ?_
          refine tS_es s q fun xs vs env2 c1 H1 s1 rv e2 fin => ?_
          match xs, rv, e2 with
          | [u, v, w], .cons ru (.cons rv (.cons rw' .nil)), e2 =>
            cases e2
            exact ⟨_, _, _, rfl, fin _ (((s1.setVal ru).setVal rv).setVal rw')⟩
        | _ => cases ht2.2
      | _ => cases ht.2
    | _ => cases ht
  | _ => cases ht

variable (hblk : ∀ (X : Cx) (cl : Calls) (s : Shared) (H : Hp) (scope : Scope) (D : Addr) (cells : List (Str × Addr)) (fp : List Addr), ErrP X cl → ErrP (X.blk s H scope (compEnvC scope cells D X.env) fp) cl)
  (hok : ∀ (X : Cx) (E : XK) (cl : Calls), Good0 X C g E cl → ErrP X cl → ErrOk X C g E cl)
include hblk hok
theorem sound_set (tg : Tg) (v : T) : SoundS C g ErrP (.set tg v) := by
  have hE := sound_all (C := C) (g := g) (ErrP := ErrP) hblk hok
  refine SoundS.ofS rfl fun X E cl st G Q q ow0 H0 B => ?_
  split at q
  · rename_i t e p
    rw [Bool.and_eq_true, Bool.and_eq_true] at q
    obtain ⟨⟨q1, q2⟩, q3⟩ := q
    have he := (hE v).e X E cl false e G.g0 Q q2
    cases t with
    | Name x px =>
      rcases swaps_dec (sc := X.env.scope) e x px p.line G.kind with h | ⟨h, hc, hl⟩
      · exact ps_setT G q1 he h (swapped_no (e := e) G.kind rfl) ow0 H0 B
      · have htg : ∃ k, tg = .v k := by cases tg <;> first | exact ⟨_, rfl⟩ | cases q1
        obtain ⟨k, rfl⟩ := htg
        have q1 : (decide (C.N[k]? = some x) && locB X.env.scope x && locB X.env.scope x) = true := q1
        simp only [Bool.and_eq_true, decide_eq_true_eq] at q1
        cases e with
        | ListComp el gs scope pos =>
          have hv : ∃ elt tg' it cond own, v = .lc elt tg' it cond own := by
            cases v <;> first | exact ⟨_, _, _, _, _, rfl⟩ | cases q2 | skip
            rename_i o a
            cases o <;> cases q2
          obtain ⟨elt, tg', it, cond, own, rfl⟩ := hv
          obtain ⟨h1, h2⟩ := lc_both hblk (hE elt) (hE it) (hE cond) G.g0 Q (raw := false) (pos := pos) q2
          have imp := pe_lcT (X := X) (E := E) (raw := false) (g := g) (t := tg') (own := ownOf X.N own) (mi := (sem it cl).i) (mc := (sem cond cl).t) (me := (sem elt cl).e) h2
          rw [own_snd] at imp
          have main := (h1 (tE X.K g E false (sem (.lc elt tg' it cond own) cl).e) imp).2 k x px p (good_N G.g0 q1.1.1) hl h
          refine PS.imp main fun D σ H ⟨env, c, ow, s, q⟩ => ?_
          refine tS_e s q fun y u c1 H1 s1 k1 r1 q4 => ?_
          have s2 := s1.setVal (k := k) r1.strict
          exact s2.end_ q4 _ ow s2
        | SetComp _ _ _ _ =>
          cases v <;> first | cases q2 | skip
          rename_i o a
          cases o <;> cases q2
        | DictComp _ _ _ _ _ =>
          cases v <;> first | cases q2 | skip
          rename_i o a
          cases o <;> cases q2
        | _ => cases hc
    | Tuple ts kt pt =>
      have q3 : (!isComp e && (noSwap X.env.scope (.Tuple ts kt pt) e || swap2 X.env.scope (.Tuple ts kt pt) e || swap3 X.env.scope (.Tuple ts kt pt) e)) = true := q3
      rw [Bool.and_eq_true, Bool.not_eq_true', Bool.or_eq_true, Bool.or_eq_true] at q3
      obtain ⟨hc, q3⟩ := q3
      rcases q3 with (q3 | q3) | q3
      · exact ps_setT G q1 he (swaps_no hc) (swapped_no G.kind q3) ow0 H0 B
      · unfold swap2 at q3
        split at q3
        · rename_i x px y py k1 p1 a b k2 p2 ht he2
          cases ht
          have hv : ∃ es, v = .tup es := by
            cases v <;> first | exact ⟨_, rfl⟩ | cases q2 | skip
            rename_i o a
            cases o <;> cases q2
          obtain ⟨es, rfl⟩ := hv
          exact ps_swap2 G q1 ((hE es).es X E cl _ G.g0 Q q2) (by unfold swap2; exact q3) ow0 H0 B
        · cases q3
      · unfold swap3 at q3
        split at q3
        · rename_i x px y py z pz k1 p1 a b d k2 p2 ht he2
          cases ht
          have hv : ∃ es, v = .tup es := by
            cases v <;> first | exact ⟨_, rfl⟩ | cases q2 | skip
            rename_i o a
            cases o <;> cases q2
          obtain ⟨es, rfl⟩ := hv
          exact ps_swap3 G q1 ((hE es).es X E cl _ G.g0 Q q2) (by unfold swap3; exact q3) ow0 H0 B
        · cases q3
    | _ => cases tg <;> cases q1
  · cases q
theorem sound_own (k : Nat) (v : T) : SoundS C g ErrP (.own k v) := by
  have hE := sound_all (C := C) (g := g) (ErrP := ErrP) hblk hok
  refine SoundS.ofS rfl fun X E cl st G Q q ow0 H0 B => ?_
  split at q
  · rename_i x px e p
    simp only [Bool.and_eq_true, decide_eq_true_eq] at q
    obtain ⟨⟨⟨⟨q1, q2⟩, q3⟩, q4⟩, q5⟩ := q
    cases v <;> try cases q5
    rename_i es
    have q4 : (match unw e with
      | .List l _ => (chk C es).es X.env.scope l
      | _ => false) = true := q4
    have hc : isComp e = false := by
      cases e <;> first | rfl | cases q4
    split at q4
    · rename_i l pl hu
      have he : PE X e (tF X.K g E (sem (.lst es) cl).e) := pe_unw (by rw [hu]; exact pe_lstF ((hE es).es X E cl l G.g0 Q q4))
      refine PS.imp (ps_set G.g0.nd (good_N G.g0 q1) (good_loc q2) he (swaps_no (l := p.line) (t := .Name x px) hc) (.inl (G.fn x))) fun D σ H ⟨env, c, ow, s, q⟩ => ?_
      refine ⟨ow, env, c, s.st, (Out.base s.kp q).imp fun r c1 H1 k1 hs1 qq a vs xs hr hn ha rs => ?_⟩
      subst hr
      have s2 := s.ownNew (k := k) k1 hs1 hn ha rs
      exact s2.end_ qq _ _ s2
    · cases q4
  · cases q
theorem sound_app (k : Nat) (v : T) : SoundS C g ErrP (.app k v) := by
  have hE := sound_all (C := C) (g := g) (ErrP := ErrP) hblk hok
  refine SoundS.ofS rfl fun X E cl st G Q q ow0 H0 B => ?_
  split at q
  · rename_i x px m ap e pos p
    simp only [Bool.and_eq_true, decide_eq_true_eq] at q
    obtain ⟨⟨⟨⟨⟨⟨q1, q2⟩, q3⟩, q4⟩, q5⟩, q6⟩, q7⟩ := q
    subst q2
    obtain ⟨v1, v2, v3⟩ := good_vis q4
    have he := (hE v).e X E cl false e G.g0 Q q6
    have hx : PE X (.Name x px) (tVar k) := pe_var (good_N G.g0 q3) v1 v2 v3
    have main := ps_expr (pos := p) (pe_bm (apos := ap) (cpos := pos) PySem.F.plainAttrs_list PySem.F.slot_list_append PySem.F.type_list_append mt_append hx (pa_cons he pa_nil (starEach_cons q7)) (by rfl) (by rw [starEach_cons q7]; rfl) q1 (starEach_cons q7) (by rfl)) (swaps_none (by rfl))
    refine PS.imp main fun D σ H ⟨env, c, ow, s, q⟩ => ?_
    have q : Out g E H0 ((match env[k]? with
      | some (some (.own xs)) => if xs.length < big then bnd ((sem v cl).e env) fun x => ret (Fl.nx (env.set k (some (.own (xs ++ [x]))))) else badM
      | _ => badM) c) (FlK X.K g ow0 H0 B D) := q
    cases e0 : env[k]? with
    | none => rw [e0] at q; exact False.elim q
    | some sl =>
      cases sl with
      | none => rw [e0] at q; exact False.elim q
      | some sl =>
        cases sl with
        | val _ => rw [e0] at q; exact False.elim q
        | own xs =>
          rw [e0] at q
          have q : Out g E H0 ((if xs.length < big then bnd ((sem v cl).e env) fun x => ret (Fl.nx (env.set k (some (.own (xs ++ [x]))))) else badM) c) (FlK X.K g ow0 H0 B D) := q
          split at q
          · rename_i hl
            obtain ⟨a, vs, h1, h2, h3, h4⟩ := s.st.env.own k xs e0
            refine ⟨.ref a, h1, .inl ⟨rfl, _, SqL.of h3⟩, ?_⟩
            refine tS_e s q fun y u c1 H1 s1 k1 r1 q4 => ?_
            obtain ⟨a', vs', h1', h2', h3', h4'⟩ := s1.st.env.own k xs e0
            rw [h1] at h1'
            cases h1'
            have hlen := h4'.length
            refine ⟨a, vs', u, rfl, rfl, h3', big_lt (by rw [← hlen]; exact hl), ?_⟩
            have s2 := s1.ownSet e0 h1 h2' h3' (h4'.app (.cons r1.strict .nil))
            exact s2.end_ q4 _ _ s2
          · exact False.elim q
  · cases q
end
end Cv

set_option Elab.async false
set_option linter.all false
set_option maxRecDepth 100000
/-! CvQ: every statement that the look lets through is read by the evaluator. -/
namespace Cv
open PySem PySem.Spec PyProof.Rows L2
section
variable {C : Ctx} {g : GI} {ErrP : Cx → Calls → Prop}
variable (hblk : ∀ (X : Cx) (cl : Calls) (s : Shared) (H : Hp) (scope : Scope) (D : Addr) (cells : List (Str × Addr)) (fp : List Addr), ErrP X cl → ErrP (X.blk s H scope (compEnvC scope cells D X.env) fp) cl)
  (hok : ∀ (X : Cx) (E : XK) (cl : Calls), Good0 X C g E cl → ErrP X cl → ErrOk X C g E cl)
include hblk hok
theorem sound_sidx (k : Nat) (i v : T) : SoundS C g ErrP (.sidx k i v) := by
  have hE := sound_all (C := C) (g := g) (ErrP := ErrP) hblk hok
  refine SoundS.ofS rfl fun X E cl st G Q q ow0 H0 B => ?_
  split at q
  · rename_i x px j pj e p
    simp only [Bool.and_eq_true, decide_eq_true_eq, Bool.not_eq_true'] at q
    obtain ⟨⟨⟨⟨⟨q1, q2⟩, q3⟩, q4⟩, q5⟩, q6⟩ := q
    obtain ⟨v1, v2, v3⟩ := good_vis q2
    have he := (hE v).e X E cl false e G.g0 Q q5
    have hi := (hE i).e X E cl true j G.g0 Q q3
    have hx : PE X (.Name x px) (tVar k) := pe_var (good_N G.g0 q1) v1 v2 v3
    have hg : PG X (.Subscript (.Name x px) j pj) (gSub (tVar k) (tE X.K g E true (sem i cl).e) rSetL) := pg_sub hx hi set_list (fun v => by cases j <;> first | rfl | cases q4)
    refine PS.imp (ps_asg (pos := p) he hg (swaps_no q6) (by cases e <;> rfl) (by rfl)) fun D σ H ⟨env, c, ow, s, q⟩ => ?_
    have q : Out g E H0 ((match env[k]? with
      | some (some (.val .cup)) => bnd ((sem v cl).e env) fun x => bnd ((sem i cl).e env) fun j => match j, x with
        | .int 0, .int n => fun c => .ok (Fl.nx env) (n, c.2)
        | .int 1, .int n => fun c => .ok (Fl.nx env) (c.1, n)
        | _, _ => badM
      | _ => badM : M Fl) c) (FlK X.K g ow0 H0 B D) := q
    have e0 : env[k]? = some (some (.val .cup)) := by
      cases h : env[k]? with
      | none => rw [h] at q; exact False.elim q
      | some sl =>
        cases sl with
        | none => rw [h] at q; exact False.elim q
        | some sl =>
          cases sl with
          | own _ => rw [h] at q; exact False.elim q
          | val v => cases v <;> first | rfl | (rw [h] at q; exact False.elim q)
    rw [e0] at q
    obtain ⟨u0, h1, h2⟩ := s.st.env.val k _ e0
    cases h2
    refine tS_e s q fun y u c1 H1 s1 k1 r1 q7 => ?_
    replace r1 := r1.strict
    refine ⟨.ref g.c, h1, ?_⟩
    refine tS_e s1 q7 fun z w c2 H2 s2 k2 r2 q8 => ?_
    have hc := s2.st.hs.1
    split at q8
    · rename_i n
      cases r1
      rw [r2.int]
      refine ⟨g.c, _, 0, 0, rfl, rfl, hc, rfl, ?_⟩
      have s3 := s2.cup (n := n) (m := c2.2)
      exact q8 _ s3.kp s3.st.hs _ _ s3
    · rename_i n
      cases r1
      rw [r2.int]
      refine ⟨g.c, _, 1, 1, rfl, rfl, hc, rfl, ?_⟩
      have s3 := s2.cup (n := c2.1) (m := n)
      exact q8 _ s3.kp s3.st.hs _ _ s3
    · exact False.elim q8
  · cases q
theorem sound_ret (v : T) : SoundS C g ErrP (.ret v) := by
  have hE := sound_all (C := C) (g := g) (ErrP := ErrP) hblk hok
  refine SoundS.ofS rfl fun X E cl st G Q q ow0 H0 B => ?_
  split at q
  · rename_i e p
    refine PS.imp (ps_ret ((hE v).e X E cl false e G.g0 Q q)) fun D σ H ⟨env, c, ow, s, q⟩ => ?_
    refine tS_e s q fun y u c1 H1 s1 k1 r1 q1 => ?_
    exact s1.end_ q1 u (r1.strict.sub (fz_less s1.sub))
  · cases q
omit hblk hok in
theorem sound_retN : SoundS C g ErrP .retN := by
  refine SoundS.ofS rfl fun X E cl st G Q q ow0 H0 B => ?_
  split at q
  · exact PS.imp ps_retN fun D σ H ⟨env, c, ow, s, q⟩ => s.end_ q .non .non
  · cases q
omit hblk hok in
theorem sound_brk : SoundS C g ErrP .brk := by
  refine SoundS.ofS rfl fun X E cl st G Q q ow0 H0 B => ?_
  split at q
  · exact PS.imp ps_break fun D σ H ⟨env, c, ow, s, q⟩ => s.end_ q σ ow s
  · cases q
omit hblk hok in
theorem sound_cnt : SoundS C g ErrP .cnt := by
  refine SoundS.ofS rfl fun X E cl st G Q q ow0 H0 B => ?_
  split at q
  · exact PS.imp ps_continue fun D σ H ⟨env, c, ow, s, q⟩ => s.end_ q σ ow s
  · cases q
theorem sound_ex (v : T) : SoundS C g ErrP (.ex v) := by
  have hE := sound_all (C := C) (g := g) (ErrP := ErrP) hblk hok
  refine SoundS.ofS rfl fun X E cl st G Q q ow0 H0 B => ?_
  split at q
  · rename_i e p
    rw [Bool.and_eq_true, Bool.not_eq_true'] at q
    refine PS.imp (ps_expr ((hE v).e X E cl true e G.g0 Q q.1) (swaps_none q.2)) fun D σ H ⟨env, c, ow, s, q⟩ => ?_
    refine tS_e s q fun y u c1 H1 s1 k1 r1 q1 => ?_
    exact s1.end_ q1 σ ow s1
  · cases q
omit hblk hok in
theorem sound_raise (i : Nat) : SoundS C g ErrP (.raise i) := by
  refine SoundS.ofS rfl fun X E cl st G Q q ow0 H0 B => ?_
  split at q
  · rename_i x px m j p2 pos p
    simp only [Bool.and_eq_true, decide_eq_true_eq] at q
    obtain ⟨a, e1, e2, e3, e4, e5⟩ := G.g0.excs x i q.2
    obtain ⟨h1, h2⟩ := good_gl q.1
    refine PS.imp (L2N.ps_raise G.g0.calm G.g0.tk (L2N.pmk_own PySem.F.excBase_ValueError e3 e2 e4 e5 h1 h2)) fun D σ H ⟨env, c, ow, s, q⟩ => ?_
    have q : Out g E H0 (Rs.exc i none c) (FlK X.K g ow0 H0 B D) := q
    have q := q H s.kp s.st.hs
    show E (.ref a) none H
    rw [← e1]
    exact q
  · cases q
end
end Cv

set_option Elab.async false
set_option linter.all false
set_option maxRecDepth 100000
/-! CvR: loops; the whole of the statements. -/
namespace Cv
open PySem PySem.Spec PyProof.Rows L2
section
variable {C : Ctx} {g : GI} {ErrP : Cx → Calls → Prop}
theorem SoundS.frz (k : Nat) : SoundS C g ErrP (.frz k) := by
  refine ⟨fun X E cl st G Q q => (by cases q), fun X E cl sts G Q q => (by cases q), fun _ K E cl ow0 ow H0 H B env c σ β f kk s q => ?_⟩
  have q : Out g E H0 (((match env[k]? with
    | some (some (.own xs)) => ret (.nx (env.set k (some (.val (.lst xs)))))
    | _ => ret (.nx env) : M Fl) c).then f) kk := q
  cases h : env[k]? with
  | none => rw [h] at q; exact ⟨env, ow, s, q⟩
  | some sl =>
    cases sl with
    | none => rw [h] at q; exact ⟨env, ow, s, q⟩
    | some sl =>
      cases sl with
      | val _ => rw [h] at q; exact ⟨env, ow, s, q⟩
      | own xs =>
        rw [h] at q
        obtain ⟨ow', s'⟩ := s.freeze h
        exact ⟨_, ow', s', q⟩
theorem SoundS.skip : SoundS C g ErrP .skip := by
  have fin : ∀ {K : PySem.W.Frag} {E : XK} {cl : Calls} {ow0 : List Addr} {H0 : Hp} {B : Bases} {D : Ends} {σ : L2.St} {H : Hp}, tS K g E ow0 H0 B (sem .skip cl).s D σ H → tNext D σ H := fun ⟨env, c, ow, s, q⟩ => s.end_ q _ ow s
  refine ⟨fun X E cl st G Q q => ?_, fun X E cl sts G Q q => ?_, fun q => (by cases q)⟩
  · intro ow0 H0 B
    have q : (match (generalizing := false) st with
      | .Pass _ => true
      | .Expr (.Constant (.str _) _ _) _ => true
      | _ => false) = true := q
    split at q
    · exact PS.imp ps_pass fun D σ H z => fin z
    · exact PS.imp ps_doc fun D σ H z => fin z
    · cases q
  · intro ow0 H0 B
    have q : (match (generalizing := false) sts with
      | [] => true
      | [.Pass _] => true
      | [.Expr (.Constant (.str _) _ _) _] => true
      | _ => false) = true := q
    split at q
    · exact PSs.imp pss_nil fun D σ H z => fin z
    · exact PSs.imp (pss_one ps_pass) fun D σ H z => fin z
    · exact PSs.imp (pss_one ps_doc) fun D σ H z => fin z
    · cases q
theorem SoundS.seq {a b : T} (ha : SoundS C g ErrP a) (hb : SoundS C g ErrP b) : SoundS C g ErrP (.seq a b) := by
  refine ⟨fun X E cl st G Q q => (by cases q), fun X E cl sts G Q q => ?_, fun q => (by cases q)⟩
  intro ow0 H0 B
  have q : (if (chk C a).fz then (chk C b).ss X.env.scope sts else match (generalizing := false) sts with
      | x :: r => (chk C a).s X.env.scope x && (chk C b).ss X.env.scope r
      | [] => false) = true := q
  split at q
  · rename_i hf
    refine PSs.imp (hb.ss X E cl sts G Q q ow0 H0 B) fun D σ H ⟨env, c, ow, s, q1⟩ => ?_
    obtain ⟨env', ow', s', q2⟩ := ha.fz hf X.K E cl ow0 ow H0 H B env c σ _ _ _ s q1
    exact ⟨env', c, ow', s', q2⟩
  · cases sts with
    | nil => cases q
    | cons x r =>
      have q : ((chk C a).s X.env.scope x && (chk C b).ss X.env.scope r) = true := q
      rw [Bool.and_eq_true] at q
      exact PSs.imp (pss_cons (ha.s X E cl x G Q q.1 ow0 H0 B) (hb.ss X E cl r G Q q.2 ow0 H0 B)) fun D σ H z => tS_seq z
variable (hblk : ∀ (X : Cx) (cl : Calls) (s : Shared) (H : Hp) (scope : Scope) (D : Addr) (cells : List (Str × Addr)) (fp : List Addr), ErrP X cl → ErrP (X.blk s H scope (compEnvC scope cells D X.env) fp) cl)
  (hok : ∀ (X : Cx) (E : XK) (cl : Calls), Good0 X C g E cl → ErrP X cl → ErrOk X C g E cl)
include hblk hok
theorem sound_ifs (d a b : T) (ha : SoundS C g ErrP a) (hb : SoundS C g ErrP b) : SoundS C g ErrP (.ifs d a b) := by
  have hE := sound_all (C := C) (g := g) (ErrP := ErrP) hblk hok
  refine SoundS.ofS rfl fun X E cl st G Q q ow0 H0 B => ?_
  split at q
  · rename_i t x y p
    simp only [Bool.and_eq_true] at q
    refine PS.imp (ps_if ((hE d).t X E cl t G.g0 Q q.1.1) (ha.ss X E cl x G Q q.1.2 ow0 H0 B) (hb.ss X E cl y G Q q.2 ow0 H0 B)) fun D σ H ⟨env, c, ow, s, q⟩ => ?_
    refine tS_t s q fun k c1 H1 s1 k1 q1 => ?_
    cases k with
    | true => exact ⟨env, c1, ow, s1, q1⟩
    | false => exact ⟨env, c1, ow, s1, q1⟩
  · cases q
theorem sound_whl (d a : T) (ha : SoundS C g ErrP a) : SoundS C g ErrP (.whl d a) := by
  have hE := sound_all (C := C) (g := g) (ErrP := ErrP) hblk hok
  refine SoundS.ofS rfl fun X E cl st G Q q ow0 H0 B => ?_
  split at q
  · rename_i t x p
    rw [Bool.and_eq_true] at q
    refine PS.imp (ps_while G.pass ((hE d).t X E cl t G.g0 Q q.1) (ha.ss X E cl x G Q q.2 ow0 H0 B)) fun D σ H ⟨env, c, ow, s, q⟩ => ?_
    have q : Out g E H0 (whlN (sem d cl).t (sem a cl).s fuel env c) (FlK X.K g ow0 H0 B D) := q
    refine ⟨fun n σ H => ∃ env c ow, StS X.K g ow0 H0 B env c ow σ H ∧ Out g E H0 (whlN (sem d cl).t (sem a cl).s n env c) (FlK X.K g ow0 H0 B D), ⟨fuel, env, c, ow, s, q⟩, ?_⟩
    rintro n σ H ⟨env, c, ow, s, q⟩
    cases n with
    | zero => exact False.elim q
    | succ n =>
      refine tS_t s (f := fun b => match b with
        | false => ret (Fl.nx env)
        | true => bnd ((sem a cl).s env) fun r => match r with
          | .nx env2 => whlN (sem d cl).t (sem a cl).s n env2
          | .ct env2 => whlN (sem d cl).t (sem a cl).s n env2
          | .bk env2 => ret (.nx env2)
          | .rt v => ret (.rt v)) q fun k c1 H1 s1 k1 q1 => ?_
      cases k with
      | false => exact s1.end_ q1 σ ow s1
      | true =>
        rw [if_pos rfl]
        refine ⟨fun σ' H' => ∃ env c ow, StS X.K g ow0 H0 B env c ow σ' H' ∧ Out g E H0 (whlN (sem d cl).t (sem a cl).s n env c) (FlK X.K g ow0 H0 B D), fun σ' H' z => ⟨n, Nat.lt_succ_self n, z⟩, ?_⟩
        refine ⟨env, c1, ow, s1, (Out.then q1).imp fun f c2 H2 k2 hs2 q2 => ?_⟩
        cases f with
        | nx env2 => exact fun σ' ow' s' => ⟨env2, c2, ow', s', q2⟩
        | ct env2 => exact fun σ' ow' s' => ⟨env2, c2, ow', s', q2⟩
        | bk env2 => exact fun σ' ow' s' => q2 H2 k2 hs2 σ' ow' s'
        | rt v => exact q2 H2 k2 hs2
  · cases q
theorem sound_for (tg : Tg) (it a : T) (ha : SoundS C g ErrP a) : SoundS C g ErrP (.for tg it a) := by
  have hE := sound_all (C := C) (g := g) (ErrP := ErrP) hblk hok
  refine SoundS.ofS rfl fun X E cl st G Q q ow0 H0 B => ?_
  split at q
  · rename_i t ie bd p
    simp only [Bool.and_eq_true, Bool.not_eq_true'] at q
    obtain ⟨⟨⟨q1, q2⟩, q3⟩, q4⟩ := q
    have hg := (pg_all (g := g) (st := X.env.scope) G.g0.N G.g0.nd G.g0.calm (fun x _ _ => .inl (G.fn x)) tg).1 t q1
    have hi := (hE it).i X E cl t ie G.g0 Q q2
    have hs : ∀ x, foldedSetIterable ie X.env x = pure x := fun x => by
      cases ie <;> first | rfl | cases q3
    have hb : PSs X bd (fun D σ H => ∃ p, tS X.K g E ow0 H0 (p :: B) (sem a cl).s D σ H) := ⟨fun pins s0 σ H D I ⟨p, z⟩ => (ha.ss X E cl bd G Q q4 ow0 H0 (p :: B)).run pins s0 σ H D I z⟩
    refine PS.imp (ps_for G.pass G.g0.calm hi hg hb hs) fun D σ H ⟨env, c, ow, s, q⟩ => ?_
    have q : Out g E H0 (bnd ((sem it cl).i env) (fun xs => forL tg.f (sem a cl).s xs env) c) (FlK X.K g ow0 H0 B D) := q
    refine ⟨ow, env, c, s.st, (Out.base s.kp q).imp fun xs c1 H1 k1 hs1 q1 J hJ => ?_⟩
    have s1 := s.kp' k1 hs1
    refine ⟨fun i m σ H => m = xs.length - i ∧ i ≤ xs.length ∧ ∃ env c ow', StS X.K g ow0 H0 ((ow, H1) :: B) env c ow' σ H ∧ Out g E H0 (forL tg.f (sem a cl).s (xs.drop i) env c) (FlK X.K g ow0 H0 B D), ⟨xs.length, by simp, Nat.zero_le _, env, c1, ow, s1.base, q1⟩, ?_⟩
    rintro i m σ2 H2 ⟨rfl, hi2, env2, c2, ow2, s2, q2⟩
    have b2 := s2.bs (ow, H1) (List.mem_cons_self ..)
    obtain ⟨go, stop⟩ := hJ i H2 b2.sub ⟨c2, s2.st.hs⟩
    by_cases hlt : i < xs.length
    · have hx : xs[i]? = some xs[i] := List.getElem?_eq_getElem hlt
      have hd : xs.drop i = xs[i] :: xs.drop (i + 1) := List.drop_eq_getElem_cons hlt
      generalize xs[i] = x at hx hd
      obtain ⟨go1, go2⟩ := go x hx
      rw [hd] at q2
      refine .inr ⟨go1, fun σ' H' => xs.length - (i + 1) = xs.length - (i + 1) ∧ i + 1 ≤ xs.length ∧ ∃ env c ow', StS X.K g ow0 H0 ((ow, H1) :: B) env c ow' σ' H' ∧ Out g E H0 (forL tg.f (sem a cl).s (xs.drop (i + 1)) env c) (FlK X.K g ow0 H0 B D), fun σ' H' z => ⟨xs.length - (i + 1), by omega, z⟩, fun v H3 y => ?_⟩
      obtain ⟨y1, y2, y3, y4⟩ := go2 v H3 y
      have s3 := s2.kp' y1 (y2 c2 s2.st.hs)
      have rv := y4 ow2 s2.st.live b2.new
      have q2 : Out g E H0 ((match tg.f.one x env2 with
        | none => badM
        | some env1 => bnd ((sem a cl).s env1) fun r => match r with
          | .nx env2 => forL tg.f (sem a cl).s (xs.drop (i + 1)) env2
          | .ct env2 => forL tg.f (sem a cl).s (xs.drop (i + 1)) env2
          | .bk env2 => ret (.nx env2)
          | .rt v => ret (.rt v) : M Fl) c2) (FlK X.K g ow0 H0 B D) := q2
      cases e1 : tg.f.one x env2 with
      | none => rw [e1] at q2; exact False.elim q2
      | some env3 =>
        rw [e1] at q2
        refine tS_g s3 rv e1 fun σ4 s4 => ?_
        refine ⟨(ow, H1), env3, c2, ow2, s4, (Out.then q2).imp fun f c5 H5 k5 hs5 q5 => ?_⟩
        cases f with
        | nx env4 => exact fun σ' ow' s' => ⟨rfl, hlt, env4, c5, ow', s', q5⟩
        | ct env4 => exact fun σ' ow' s' => ⟨rfl, hlt, env4, c5, ow', s', q5⟩
        | bk env4 => exact fun σ' ow' s' => q5 H5 k5 hs5 σ' ow' s'.drop
        | rt v => exact q5 H5 k5 hs5
    · refine .inl ⟨stop (by omega), ?_⟩
      rw [List.drop_eq_nil_of_le (by omega)] at q2
      exact s2.end_ q2 σ2 ow2 s2.drop
  · cases q
theorem sound_stm : ∀ t : T, SoundS C g ErrP t := by
  intro t
  induction t with
  | skip => exact .skip
  | seq a b iha ihb => exact .seq iha ihb
  | set tg e => exact sound_set hblk hok tg e
  | own k e => exact sound_own hblk hok k e
  | frz k => exact .frz k
  | app k e => exact sound_app hblk hok k e
  | sidx k i e => exact sound_sidx hblk hok k i e
  | ret e => exact sound_ret hblk hok e
  | retN => exact sound_retN
  | ifs d a b _ iha ihb => exact sound_ifs hblk hok d a b iha ihb
  | «for» tg it a _ ih => exact sound_for hblk hok tg it a ih
  | whl d a _ ih => exact sound_whl hblk hok d a ih
  | raise i => exact sound_raise i
  | ex e => exact sound_ex hblk hok e
  | brk => exact sound_brk
  | cnt => exact sound_cnt
  | un o a => cases o <;> exact SoundS.no rfl rfl rfl
  | _ => exact SoundS.no rfl rfl rfl
end
end Cv

set_option Elab.async false
set_option linter.all false
set_option maxRecDepth 100000
/-! CvS: defs. -/
namespace Cv
open PySem PySem.Spec PyProof.Rows L2

/-- a def: its text, its names by slot, its inner text -/
structure Df where
  x : Str
  qual : Str
  params : Arguments
  body : List Stmt
  scope : Scope
  N : List Str
  ps : List Str
  mu : List Nat
  t : T
abbrev Df.ctx (d : Df) (gl : List (Str × GK)) (bl : List Str) : Ctx := ⟨d.N, d.mu, gl, bl⟩
abbrev Df.fn (d : Df) : Fn := ⟨d.ps.length, d.N.length, d.t⟩
def Df.okB (gl : List (Str × GK)) (bl : List Str) (d : Df) : Bool :=
  (chk (d.ctx gl bl) d.t).ss d.scope d.body && decide (d.scope.kind = .function) && !d.scope.isCoroutine && !d.scope.isGenerator && decide d.N.Nodup && decide (d.N.take d.ps.length = d.ps) &&
    d.ps.all (fun x => decide (d.scope.names.lookup x = some .local) || decide (d.scope.names.lookup x = some .cell)) && d.scope.names.all (fun y => !decide (y.2 = .free))
theorem Df.scopeOk {gl : List (Str × GK)} {bl : List Str} {d : Df} (h : d.okB gl bl = true) : FnScope d.N d.ps d.scope ∧ (chk (d.ctx gl bl) d.t).ss d.scope d.body = true := by
  unfold Df.okB at h
  simp only [Bool.and_eq_true, Bool.or_eq_true, Bool.not_eq_true', decide_eq_true_eq, decide_eq_false_iff_not, List.all_eq_true] at h
  obtain ⟨⟨⟨⟨⟨⟨⟨h1, h2⟩, h3⟩, h4⟩, h5⟩, h6⟩, h7⟩, h8⟩ := h
  exact ⟨⟨h2, h3, h4, h5, h6, h7, h8⟩, h1⟩
/-- what is known of the heap behind the top -/
structure Wd (K : PySem.W.Frag) (mg : Str → Option Value) (g : GI) (gl : List (Str × GK)) (bl : List Str) (k : List PV) (L : List Df) : Prop where
  fn : ∀ i d, L[i]? = some d → ∃ fd, FunD K d.x d.qual d.params d.body d.scope [] [] (g.fa i) fd ∧ Binds K fd d.ps []
  bl : ∀ x, bl.contains x = true → mg x = none
  fns : ∀ x i, gl.lookup x = some (.fn i) → mg x = some (.ref (g.fa i)) ∧ i < L.length
  csts : ∀ x j, gl.lookup x = some (.cst j) → ∀ pv, k[j]? = some pv → ∃ v u, mg x = some u ∧ RelV v u ∧ ∀ G, Rep K g G pv v
  excs : ∀ x i, gl.lookup x = some (.exc i) → ∃ (a : Addr), g.ca i = .ref a ∧ mg x = some (.ref a) ∧ PySem.W.excIn K a [.type "ValueError", .type "Exception", .type "BaseException", .type "object"] "ValueError.__new__" = true ∧
    PySem.W.keepIn K (.ref a) = true ∧ PySem.W.subIn K (.ref a) (.type "BaseException") = some true ∧ PySem.W.typeIn K (.ref a) = some (.type "type")
  gcd : ∀ x, gl.lookup x = some .gcd → mg x = some (.builtin "math.gcd")

abbrev mkPg (L : List Df) (h : Nat → Option Int → Option PV) (k : List PV) : Pg := ⟨L.map Df.fn, h, k⟩
theorem callD_zero (P : Pg) (i : Nat) (xs : List PV) (c : Cup) : callD P 0 i xs c = .bad := rfl
abbrev callsAt (P : Pg) (d : Nat) : Calls := ⟨(tower P d).1, (tower P d).2.2, P.h, P.k, decide (2 ≤ d), P.fns.length⟩
theorem callD_succ (P : Pg) (d i : Nat) : callD P (d + 1) i = match P.fns[i]? with
  | some f => runFn (callsAt P d) f
  | none => fun _ => badM := by
  funext xs
  show (match P.fns[i]? with
    | some f => runFn (callsAt P d) f xs
    | none => badM) = _
  cases P.fns[i]? <;> rfl
theorem callD_len {L : List Df} {h : Nat → Option Int → Option PV} {k : List PV} {i : Nat} {df : Df} (hi : L[i]? = some df) : ∀ (d : Nat) (xs : List PV) (c : Cup), xs.length ≠ df.ps.length → callD (mkPg L h k) d i xs c = .bad
  | 0, xs, c, _ => rfl
  | d + 1, xs, c, hl => by
    have e : (mkPg L h k).fns[i]? = some df.fn := by
      show (L.map Df.fn)[i]? = _
      rw [List.getElem?_map, hi]
      rfl
    rw [callD_succ, e]
    show runFn _ df.fn xs c = .bad
    unfold runFn
    rw [if_neg hl]

theorem start_env {K : PySem.W.Frag} {g : GI} {ow : List Addr} {H : Hp} {N : List Str} {xs : List PV} {vs : List V} (n m : Nat) (r : Reps K g (fz g ow H) xs vs) (hn : n = N.length) (hm : m = vs.length) : EnvR K g ow (xs.map (fun x => some (.val x)) ++ List.replicate (n - m) none) (start N vs) H := by
  subst hn hm
  have hl := r.length
  have own0 : ∀ (k : Nat) (ys : List PV), (xs.map (fun x => some (Slot.val x)) ++ List.replicate (N.length - vs.length) none)[k]? ≠ some (some (Slot.own ys)) := fun k ys e => by
    by_cases hk : k < (xs.map (fun x => some (Slot.val x))).length
    · rw [List.getElem?_append_left hk, List.getElem?_map] at e
      cases q : xs[k]? with
      | none => rw [q] at e; cases e
      | some x => rw [q] at e; cases e
    · rw [List.getElem?_append_right (by omega), List.getElem?_replicate] at e
      split at e <;> cases e
  refine ⟨?_, fun k v e => ?_, fun k ys e => absurd e (own0 k ys), fun k j a ys zs _ e _ => absurd e (own0 k ys)⟩
  · unfold L2.start
    simp [hl]
  · unfold L2.start
    by_cases hk : k < xs.length
    · rw [List.getElem?_append_left (by simpa using hk), List.getElem?_map] at e
      rw [List.getElem?_append_left (by simpa [← hl] using hk), List.getElem?_map]
      cases q : xs[k]? with
      | none => rw [q] at e; cases e
      | some x =>
        rw [q] at e
        cases e
        obtain ⟨u, h1, h2⟩ := r.get q
        exact ⟨u, by rw [h1]; rfl, h2⟩
    · rw [List.getElem?_append_right (by simpa using hk), List.getElem?_replicate] at e
      split at e <;> cases e

section
variable {P : Program} {w : World} {K : PySem.W.Frag} {mg : Str → Option Value} {base : Heap} {g : GI} {gl : List (Str × GK)} {bl : List Str} {k : List PV} {L : List Df} {h : Nat → Option Int → Option PV}
def AllOk (P : Program) (w : World) (K : PySem.W.Frag) (mg : Str → Option Value) (base : Heap) (g : GI) (L : List Df) (h : Nat → Option Int → Option PV) (k : List PV) (d : Nat) : Prop :=
  ∀ i df fd, L[i]? = some df → FunD K df.x df.qual df.params df.body df.scope [] [] (g.fa i) fd → FnOk P w K mg base (L2N.CX P w) d (g.fa i) fd df.ps (spF K g (callD (mkPg L h k) d i) df.ps.length)
theorem good_of (W : Wd K mg g gl bl k L) {d : Nat} (A1 : AllOk P w K mg base g L h k d) {N : List Str} {qual : Str} {scope : Scope} {f : Addr} {cdv : Value} {A : Around} {outer : List PySem.Env} {s : Shared} {H : Hp} {E : XK} {mu : List Nat} {ps : List Str} (S : FnScope N ps scope)
    (hr : Room d (A.deeper (envOfC qual scope s.heap.objs.size f cdv))) : GoodS (cxOf (L2N.CX P w) P w K mg base N qual scope f cdv A outer s H E) ⟨N, mu, gl, bl⟩ g E (callsAt (mkPg L h k) d) := by
  refine ⟨⟨rfl, S.nd, rfl, L2N.takes_of rfl rfl rfl rfl, ?_, W.bl, fun x i e => ?_, W.csts, fun x i e => ?_, W.gcd, fun i hi => ?_⟩, passes_of rfl, fun _ => rfl, S.kind⟩
  · have := hr.un
    show (A.deeper (envOfC qual scope s.heap.objs.size f cdv)).units + 66 < cLine
    omega
  · obtain ⟨h1, h2⟩ := W.fns x i e
    exact ⟨h1, by show i < (L.map Df.fn).length; rw [List.length_map]; exact h2⟩
  · obtain ⟨a, e1, e2, e3, e4, e5, e6⟩ := W.excs x i e
    exact ⟨a, e1, e2, e3, e4, raises_own e5 e6⟩
  · have hi : i < L.length := by
      have : i < (L.map Df.fn).length := hi
      rwa [List.length_map] at this
    have hd : L[i]? = some L[i] := List.getElem?_eq_getElem hi
    obtain ⟨fd, F, B⟩ := W.fn i _ hd
    exact ⟨d, fd, L[i].ps, A1 i _ fd hd F, hr, B, F.kp, fun xs c hn => callD_len hd d xs c hn⟩
theorem all_ok (W : Wd K mg g gl bl k L) (hL : ∀ (i : Nat) (d : Df), L[i]? = some d → d.okB gl bl = true) {ErrP : Cx → Calls → Prop}
    (hblk : ∀ (X : Cx) (cl : Calls) (s : Shared) (H : Hp) (scope : Scope) (D : Addr) (cells : List (Str × Addr)) (fp : List Addr), ErrP X cl → ErrP (X.blk s H scope (compEnvC scope cells D X.env) fp) cl)
    (hok : ∀ (i : Nat) (df : Df), L[i]? = some df → ∀ (X : Cx) (E : XK) (cl : Calls), Good0 X (df.ctx gl bl) g E cl → ErrP X cl → ErrOk X (df.ctx gl bl) g E cl)
    (hEP : ∀ (d i : Nat) (df : Df), L[i]? = some df → AllOk P w K mg base g L h k d → ∀ (oc : Value) (od : Option Addr) (dV kV doc pm : Value) (an : Option Addr) (cdv ct : Value) (osl : Array (Option Value)),
      K.lookup (g.fa i) = some ⟨oc, od, .func (PySem.W.fnOf df.x df.qual df.params df.body df.scope dV kV doc pm an cdv ct), osl⟩ → ∀ (A : Around) (outer : List PySem.Env) (s : Shared) (H : Hp) (E : XK),
      Room (d + 2) (A.deeper (envOfC df.qual df.scope s.heap.objs.size (g.fa i) cdv)) → ErrP (cxOf (L2N.CX P w) P w K mg base df.N df.qual df.scope (g.fa i) cdv A outer s H E) (callsAt (mkPg L h k) (d + 2))) :
    ∀ d, AllOk P w K mg base g L h k d := by
  have step : ∀ d, AllOk P w K mg base g L h k d → (∀ e, d = e + 2 → AllOk P w K mg base g L h k e) → AllOk P w K mg base g L h k (d + 1) := by
    intro d A1 A2 i df fd hi F
    obtain ⟨S, hc⟩ := Df.scopeOk (hL i df hi)
    obtain ⟨oc, od, dV, kV, doc, pm, an, cdv, ct, osl, rfl, lk, hcd, _, _⟩ := F.ex
    refine fn_of lk hcd S (fun vs H Q E z => z.1) fun A outer s H vs Q E hr z => ?_
    have G := good_of (mu := df.mu) (outer := outer) (H := H) (E := E) W A1 S hr
    have Q1 : ErrQ ErrP (cxOf (L2N.CX P w) P w K mg base df.N df.qual df.scope (g.fa i) cdv A outer s H E) (callsAt (mkPg L h k) d) := by
      by_cases h2 : 2 ≤ d
      · obtain ⟨e, rfl⟩ : ∃ e, d = e + 2 := ⟨d - 2, by omega⟩
        exact .inr (hEP e i df hi (A2 e rfl) oc od dV kV doc pm an cdv ct osl lk A outer s H E hr)
      · exact .inl (decide_eq_false h2)
    obtain ⟨hlen, ow, xs, c, nc, live, hs, rv, q⟩ := z
    refine ⟨_, (sound_stm (C := df.ctx gl bl) (g := g) hblk (hok i df hi) df.t).ss _ E _ df.body G Q1 hc ow H [], ?_⟩
    have e : (mkPg L h k).fns[i]? = some df.fn := by
      show (L.map Df.fn)[i]? = _
      rw [List.getElem?_map, hi]
      rfl
    rw [callD_succ, e] at q
    have q : Out g E H (runFn (callsAt (mkPg L h k) d) df.fn xs c) _ := q
    unfold runFn at q
    have hx : xs.length = df.fn.np := by rw [rv.length]; exact hlen
    rw [if_pos hx] at q
    refine ⟨_, c, ow, ⟨⟨nc, live, hs, start_env (N := df.N) df.fn.ns df.fn.np rv rfl hlen.symm⟩, fun a ha => ha, Kp.refl, fun a ha => .inl ha, fun k ys a e1 _ => ?_, fun p hp => (by cases hp), live⟩, (Out.then q).imp fun f c1 H1 k1 hs1 q1 => ?_⟩
    · exfalso
      by_cases hk : k < (xs.map (fun x => some (Slot.val x))).length
      · rw [List.getElem?_append_left hk, List.getElem?_map] at e1
        cases q : xs[k]? with
        | none => rw [q] at e1; cases e1
        | some x => rw [q] at e1; cases e1
      · rw [List.getElem?_append_right (by omega), List.getElem?_replicate] at e1
        split at e1 <;> cases e1
    · cases f with
      | nx env2 => exact fun σ' ow' s' => q1 H1 k1 hs1 .non .non
      | bk env2 => exact False.elim q1
      | ct env2 => exact False.elim q1
      | rt v => exact fun u ru => q1 H1 k1 hs1 u ru
  intro d
  induction d using Nat.strongRecOn with
  | _ d ih =>
    cases d with
    | zero =>
      intro i df fd hi F
      refine ⟨fun vs H Q E z => z.1, fun A outer s H args us vs Q E hr e0 hb r z => ?_⟩
      obtain ⟨_, ow, xs, c, _, _, _, _, q⟩ := z
      exact False.elim q
    | succ d => exact step d (ih d (by omega)) fun e he => ih e (by omega)
end
end Cv

set_option Elab.async false
set_option linter.all false
set_option maxRecDepth 100000
/-! CvT: the cup, the law. -/
namespace Cv
open PySem PySem.Spec PyProof.Rows L2

/-! ### the cup is made -/
def cellOf (ns : List Int) : Int := let x := (ns ++ [0]).headD 0; if x < 0 then -x else x
def cupOf (ns : List Int) : Cup := (if cellOf ns ≥ 1000000000000000000 then Int.fdiv (cellOf ns) 307 else 0, Int.fmod (cellOf ns * 1087 + 93607) 1048576)
def spCup (K : PySem.W.Frag) : Sp := fun vs H Q _ => ∃ (a : Addr) (ns : List Int), vs = [.ref a] ∧ SqL K H a (ns.map V.int) ∧ ns.length < 1000 ∧
  ∀ p H', (∀ b o, H b = some o → H' b = some o) → H p = none → H' p = some (.lst [.int (cupOf ns).1, .int (cupOf ns).2]) → Q (.ref p) H'
def isCupBody (sc : Scope) : List Stmt → Bool
  | [.Assign [.Name x0 _] (.Call (.Name x1 _) [.Subscript (.BinOp (.Call (.Name x2 _) [.Name x3 _] [] _) .Add (.List [.Constant (.int i1) _ _] _) _) (.Constant (.int i2) _ _) _] [] _) _,
     .Return (some (.List [.IfExp (.Compare (.Name y1 _) [.GtE] [.BinOp (.Constant (.int j1) _ _) .Pow (.Constant (.int j2) _ _) _] _) (.BinOp (.Name y2 _) .FloorDiv (.Constant (.int j3) _ _) _) (.Constant (.int j4) _ _) _,
       .BinOp (.Call (.Name y3 _) [.BinOp (.BinOp (.Name y4 _) .Mult (.Constant (.int j5) _ _) _) .Add (.Constant (.int j6) _ _) _] [] _) .Mod (.Constant (.int j7) _ _) _] _)) _] =>
    decide (x0 = ("cell" : Str)) && decide (x1 = ("abs" : Str)) && decide (x2 = ("list" : Str)) && decide (x3 = ("script" : Str)) && decide (y1 = ("cell" : Str)) && decide (y2 = ("cell" : Str)) && decide (y3 = ("int" : Str)) && decide (y4 = ("cell" : Str)) &&
    decide (i1 = 0) && decide (i2 = 0) && decide (j1 = 10) && decide (j2 = 18) && decide (j3 = 307) && decide (j4 = 0) && decide (j5 = 1087) && decide (j6 = 93607) && decide (j7 = 1048576) &&
    decide (sc.names.lookup ("cell" : Str) = some .local) && decide (sc.names.lookup ("script" : Str) = some .local) && decide (sc.names.lookup ("abs" : Str) = some .globalImplicit) && decide (sc.names.lookup ("list" : Str) = some .globalImplicit) && decide (sc.names.lookup ("int" : Str) = some .globalImplicit)
  | _ => false
section
variable {P : Program} {w : World} {K : PySem.W.Frag} {mg : Str → Option Value} {base : Heap} {f : Addr} {fd : FuncData} {qual : Str} {params : Arguments} {body : List Stmt} {scope : Scope}
theorem cup_ok (F : FunD K "_law_cup" qual params body scope [] [] f fd) (S : FnScope ["script", "cell"] ["script"] scope) (hb : isCupBody scope body = true) (g1 : mg "abs" = none) (g2 : mg "list" = none) (g3 : mg "int" = none) :
    FnOk P w K mg base (L2N.CX P w) 1 f fd ["script"] (spCup K) := by
  refine F.ok S (fun vs H Q E z => by obtain ⟨a, ns, rfl, _⟩ := z; rfl) fun cdv A outer s H vs Q E hr z => ?_
  unfold isCupBody at hb
  split at hb
  · rename_i x0 p0 x1 p1 x2 p2 x3 p3 p4 i1 k1 p5 p6 p7 i2 k2 p8 p9 p10 p11 y1 p12 j1 k3 p13 j2 k4 p14 p15 p16 y2 p17 j3 k5 p18 p19 j4 k6 p20 p21 y3 p22 y4 p23 j5 k7 p24 p25 j6 k8 p26 p27 p28 j7 k9 p29 p30 p31 p32
    simp only [Bool.and_eq_true, decide_eq_true_eq] at hb
    obtain ⟨⟨⟨⟨⟨⟨⟨⟨⟨⟨⟨⟨⟨⟨⟨⟨⟨⟨⟨⟨⟨rfl, rfl⟩, rfl⟩, rfl⟩, rfl⟩, rfl⟩, rfl⟩, rfl⟩, rfl⟩, rfl⟩, rfl⟩, rfl⟩, rfl⟩, rfl⟩, rfl⟩, rfl⟩, rfl⟩, c1⟩, c2⟩, c3⟩, c4⟩, c5⟩ := hb
    generalize hX : cxOf (L2N.CX P w) P w K mg base (["script", "cell"] : List Str) qual scope f cdv A outer s H E = X
    have hN : X.N = (["script", "cell"] : List Str) := by rw [← hX]; rfl
    have nd : X.N.Nodup := by rw [← hX]; exact S.nd
    have d1 : X.env.scope.names.lookup ("cell" : Str) = some .local := by rw [← hX]; exact c1
    have d2 : X.env.scope.names.lookup ("script" : Str) = some .local := by rw [← hX]; exact c2
    have d3 : Gl X ("abs" : Str) := by rw [← hX]; exact c3
    have d4 : Gl X ("list" : Str) := by rw [← hX]; exact c4
    have d5 : Gl X ("int" : Str) := by rw [← hX]; exact c5
    have e1 : X.mg ("abs" : Str) = none := by rw [← hX]; exact g1
    have e2 : X.mg ("list" : Str) = none := by rw [← hX]; exact g2
    have e3 : X.mg ("int" : Str) = none := by rw [← hX]; exact g3
    have hK : X.K = K := by rw [← hX]; rfl
    have vs0 : ∀ p, PE X (.Name ("script" : Str) p) (tVar 0) := fun p => pe_var (i := 0) (by rw [hN]; rfl) (.inl d2)
    have vc : ∀ p, PE X (.Name ("cell" : Str) p) (tVar 1) := fun p => pe_var (i := 1) (by rw [hN]; rfl) (.inl d1)
    have main := pss_cons (ps_set (i := 1) (pos := p11) (pos' := p0) nd (by rw [hN]; rfl) (.inl d1) (pe_callB (pos := p10) (p := p1) call_abs d3 e1 (by decide +kernel)
        (pa_cons (pe_ix (pos := p9) ix_seq (pe_op (pos := p7) op_cat (pe_callTy (pos := p4) (p := p2) call_list_of d4 e2 (by decide +kernel) (pa_cons (vs0 p3) pa_nil)) (pe_lst (pos := p6) (pa_cons (pe_int (i := 0) (j := k1) (pos := p5)) pa_nil))) (pe_int (i := 0) (j := k2) (pos := p8)) (fun _ _ => rfl)) pa_nil)) (by rfl) (.inr d1))
      (pss_one (ps_ret (pos := p32) (pe_lst (pos := p31) (pa_cons (pe_ifExp (pos := p21) (pt_cmpR (pos := p16) op_ge (vc p12) (pe_op (pos := p15) op_pow (pe_int (i := 10) (j := k3) (pos := p13)) (pe_int (i := 18) (j := k4) (pos := p14))) (by rfl))
          (pe_op (pos := p19) op_fdivN (vc p17) (pe_int (i := 307) (j := k5) (pos := p18))) (pe_int (i := 0) (j := k6) (pos := p20)))
        (pa_cons (pe_op (pos := p30) op_modN (pe_callTy (pos := p28) (p := p22) call_int1 d5 e3 (by decide +kernel) (pa_cons (pe_op (pos := p27) op_add (pe_op (pos := p25) op_mul (vc p23) (pe_int (i := 1087) (j := k7) (pos := p24))) (pe_int (i := 93607) (j := k8) (pos := p26))) pa_nil)) (pe_int (i := 1048576) (j := k9) (pos := p29))) pa_nil)))))
    refine ⟨_, main, ?_⟩
    obtain ⟨a, ns, rfl, hS, hlen, hQ⟩ := z
    have hb := big_eq
    have hbv : big = 16777216 := rfl
    refine ⟨.ref a, rfl, a, ns.map V.int, rfl, .inl (by rw [hK]; exact hS), fun l hl => ?_⟩
    refine ⟨by show 1 ≤ sizeLine; omega, fun q hq => ?_⟩
    have hql : q ≠ l := fun e => by rw [e, upd_same] at hq; cases hq
    refine ⟨l, q, ns.map V.int, [.int 0], rfl, rfl, by rw [upd_ne hql.symm]; exact upd_same, upd_same, by rw [List.length_map]; show ns.length + 1 ≤ sizeLine; omega, fun m hm => ?_⟩
    have hat : atI (ns.map V.int ++ [V.int 0]) 0 = some (V.int ((ns ++ [0]).headD 0)) := by
      cases ns with
      | nil => rfl
      | cons n ns => 
        exact atI_nat (xs := V.int n :: (ns.map V.int ++ [V.int 0])) (j := 0) rfl
    refine .inl ⟨m, _, 0, _, rfl, rfl, SqL.of upd_same, hat, ?_⟩
    refine ⟨_, rfl, ?_⟩
    refine ⟨.int (cellOf ns), rfl, 10, 18, rfl, rfl, ⟨by decide, by decide, by decide⟩, cellOf ns, _, rfl, rfl, _, rfl, ?_⟩
    have hfin : ∀ (u : Int), u = (cupOf ns).1 → ∀ H5 : Hp, (∀ b o, H b = some o → H5 b = some o) → ∀ p, H5 p = none → Q (.ref p) (upd H5 p (.lst [.int u, .int (cupOf ns).2])) := fun u hu H5 hk p hp => by
      subst hu
      refine hQ p _ (fun b o e => ?_) ?_ upd_same
      · rw [upd_ne fun z => by have := hk b o e; rw [z, hp] at this; cases this]
        exact hk b o e
      · cases e : H p with
        | none => rfl
        | some o => rw [hk p o e] at hp; cases hp
    have hold : ∀ b o, H b = some o → (upd (upd (upd H l (HO.lst (List.map V.int ns))) q (HO.lst [V.int 0])) m (HO.lst (List.map V.int ns ++ [V.int 0]))) b = some o := fun b o e => by
      have hbl : b ≠ l := fun z => by rw [z, hl] at e; cases e
      have hbq : b ≠ q := fun z => by rw [z] at e; rw [upd_ne hql] at hq; rw [hq] at e; cases e
      have hbm : b ≠ m := fun z => by rw [← z, upd_ne hbq, upd_ne hbl, e] at hm; cases hm
      rw [upd_ne hbm, upd_ne hbq, upd_ne hbl]
      exact e
    have h10 : (10 : Int) ^ (18 : Int).toNat = 1000000000000000000 := by decide
    rw [h10]
    dsimp only
    by_cases hc : (1000000000000000000 : Int) ≤ cellOf ns
    · rw [if_pos (decide_eq_true hc)]
      refine ⟨.int (cellOf ns), rfl, cellOf ns, 307, rfl, rfl, ⟨by decide, by decide⟩, ?_⟩
      refine ⟨.int (cellOf ns), rfl, cellOf ns, 1087, rfl, rfl, .inr ⟨by decide, by decide⟩, _, 93607, rfl, rfl, .inl ⟨_, rfl, _, 1048576, rfl, rfl, (by decide : (1048576 : Int) ≠ 0), ?_⟩⟩
      refine ⟨by show 2 ≤ sizeLine; omega, fun p hp => hfin _ ?_ _ hold p hp⟩
      unfold cupOf
      rw [if_pos hc]
    · rw [if_neg (fun z => hc (of_decide_eq_true z))]
      refine ⟨.int (cellOf ns), rfl, cellOf ns, 1087, rfl, rfl, .inr ⟨by decide, by decide⟩, _, 93607, rfl, rfl, .inl ⟨_, rfl, _, 1048576, rfl, rfl, (by decide : (1048576 : Int) ≠ 0), ?_⟩⟩
      refine ⟨by show 2 ≤ sizeLine; omega, fun p hp => hfin _ ?_ _ hold p hp⟩
      unfold cupOf
      rw [if_neg hc]
  · cases hb

/-! ### the law -/
def isLawBody (sc : Scope) : List Stmt → Option (List Stmt)
  | .Assign [.Name x0 _] (.Call (.Name x1 _) [.Name x2 _] [] _) _ :: rest =>
    if decide (x0 = ("cup" : Str)) && decide (x1 = ("_law_cup" : Str)) && decide (x2 = ("script" : Str)) && locB sc x0 && glB sc x1 && visB sc x2 then some rest else none
  | _ => none
def Df.lawB (gl : List (Str × GK)) (bl : List Str) (d : Df) : Bool :=
  (match isLawBody d.scope d.body with
    | some rest => (chk (d.ctx gl bl) d.t).ss d.scope rest
    | none => false) && decide (d.N.take 2 = (["script", "cup"] : List Str)) && decide (d.ps = (["script"] : List Str)) && decide (d.scope.kind = .function) && !d.scope.isCoroutine && !d.scope.isGenerator && decide d.N.Nodup &&
    d.ps.all (fun x => decide (d.scope.names.lookup x = some .local) || decide (d.scope.names.lookup x = some .cell)) && d.scope.names.all (fun y => !decide (y.2 = .free))
abbrev GI.at (g : GI) (c : Addr) : GI := ⟨c, g.fa, g.ca, g.fld, g.T⟩
def lawEnv (n : Nat) : Cv.Env := none :: some (.val .cup) :: List.replicate (n - 2) none
theorem lawEnv_get {n i : Nat} {sl : Slot} (e : (lawEnv n)[i]? = some (some sl)) : i = 1 ∧ sl = .val .cup := by
  unfold lawEnv at e
  match i, e with
  | 0, e => cases e
  | 1, e => cases e; exact ⟨rfl, rfl⟩
  | i + 2, e =>
    have e : (List.replicate (n - 2) (none : Option Slot))[i]? = some (some sl) := e
    rw [List.getElem?_replicate] at e
    split at e <;> cases e
def spLaw (K : PySem.W.Frag) (g : GI) (m : List Int → Rs Fl) : Sp := fun vs H Q _ => ∃ (a : Addr) (ns : List Int), vs = [.ref a] ∧ SqL K H a (ns.map V.int) ∧ ns.length < 1000 ∧ LamX.Tabs g.T H ∧ (∃ c, m ns = .ok (.rt (.bl true)) c) ∧ ∀ H', Q (.bl true) H'
variable {g : GI} {gl : List (Str × GK)} {bl : List Str} {k : List PV} {L : List Df} {h : Nat → Option Int → Option PV} {fc : Addr} {fdc : FuncData}
theorem law_ok (W : ∀ c, Wd K mg (g.at c) gl bl k L) {d : Nat} (A1 : ∀ c, AllOk P w K mg base (g.at c) L h k (d + 1)) {df : Df} (F : FunD K df.x df.qual df.params df.body df.scope [] [] f fd) (hb : df.lawB gl bl = true)
    {ErrP : GI → Cx → Calls → Prop}
    (hblk : ∀ (g : GI) (X : Cx) (cl : Calls) (s : Shared) (H : Hp) (scope : Scope) (D : Addr) (cells : List (Str × Addr)) (fp : List Addr), ErrP g X cl → ErrP g (X.blk s H scope (compEnvC scope cells D X.env) fp) cl)
    (hok : ∀ (c : Addr) (X : Cx) (E : XK) (cl : Calls), Good0 X (df.ctx gl bl) (g.at c) E cl → ErrP (g.at c) X cl → ErrOk X (df.ctx gl bl) (g.at c) E cl)
    (hEP : ∀ (oc : Value) (od : Option Addr) (dV kV doc pm : Value) (an : Option Addr) (cdv ct : Value) (osl : Array (Option Value)),
      K.lookup f = some ⟨oc, od, .func (PySem.W.fnOf df.x df.qual df.params df.body df.scope dV kV doc pm an cdv ct), osl⟩ → ∀ (c : Addr) (A : Around) (outer : List PySem.Env) (s : Shared) (H : Hp) (E : XK),
      Room (d + 1) (A.deeper (envOfC df.qual df.scope s.heap.objs.size f cdv)) → ErrQ (ErrP (g.at c)) (cxOf (L2N.CX P w) P w K mg base df.N df.qual df.scope f cdv A outer s H E) (callsAt (mkPg L h k) (d + 1)))
    (Fc : FnOk P w K mg base (L2N.CX P w) 1 fc fdc ["script"] (spCup K)) (Bc : Binds K fdc ["script"] []) (kc : PySem.W.keepIn K (.ref fc) = true) (gc : mg "_law_cup" = some (.ref fc)) :
    FnOk P w K mg base (L2N.CX P w) (d + 2) f fd df.ps (spLaw K g fun ns => (sem df.t (callsAt (mkPg L h k) (d + 1))).s (lawEnv df.N.length) (cupOf ns)) := by
  unfold Df.lawB at hb
  simp only [Bool.and_eq_true, Bool.or_eq_true, Bool.not_eq_true', decide_eq_true_eq, decide_eq_false_iff_not, List.all_eq_true] at hb
  obtain ⟨⟨⟨⟨⟨⟨⟨⟨h1, h2⟩, h3⟩, h4⟩, h5⟩, h6⟩, h7⟩, h8⟩, h9⟩ := hb
  have S : FnScope df.N df.ps df.scope := ⟨h4, h5, h6, h7, by
    rw [h3]
    have e : df.N.take 1 = (df.N.take 2).take 1 := by rw [List.take_take]; rfl
    show df.N.take 1 = _
    rw [e, h2]
    rfl, h8, h9⟩
  have hN0 : df.N[0]? = some ("script" : Str) := by
    have e : (df.N.take 2)[0]? = df.N[0]? := by rw [List.getElem?_take]; rfl
    rw [← e, h2]; rfl
  have hN1 : df.N[1]? = some ("cup" : Str) := by
    have e : (df.N.take 2)[1]? = df.N[1]? := by rw [List.getElem?_take]; rfl
    rw [← e, h2]; rfl
  have G0nd := h7
  have hlen2 : 2 ≤ df.N.length := by
    have := (List.getElem?_eq_some_iff.mp hN1).1
    omega
  obtain ⟨oc, od, dV, kV, doc, pm, an, cdv, ct, osl, rfl, lk, hcd, _, _⟩ := F.ex
  refine fn_of lk hcd S (fun vs H Q E z => by obtain ⟨a, ns, rfl, _⟩ := z; rw [h3]; rfl) fun A outer s H vs Q E hr z => ?_
  have G := fun c => good_of (mu := df.mu) (outer := outer) (H := H) (E := E) (W c) (A1 c) S hr
  obtain ⟨rest, hrest, hck⟩ : ∃ rest, isLawBody df.scope df.body = some rest ∧ (chk (df.ctx gl bl) df.t).ss df.scope rest = true := by
    cases e : isLawBody df.scope df.body with
    | none => rw [e] at h1; cases h1
    | some rest => rw [e] at h1; exact ⟨rest, rfl, h1⟩
  obtain ⟨a, ns, rfl, hS, hl, hT, ⟨cc, hrun⟩, hQ⟩ := z
  have hread : PSs (cxOf (L2N.CX P w) P w K mg base df.N df.qual df.scope f cdv A outer s H E) rest (fun D σ H1 => ∃ c ow0 H0, tS K (g.at c) E ow0 H0 [] (sem df.t (callsAt (mkPg L h k) (d + 1))).s D σ H1) :=
    ⟨fun pins s' σ H1 D I ⟨c, ow0, H0, z⟩ => ((sound_stm (C := df.ctx gl bl) (g := g.at c) (hblk (g.at c)) (hok c) df.t).ss _ E _ rest (G c) (hEP oc od dV kV doc pm an cdv ct osl lk c A outer s H E hr) hck ow0 H0 []).run pins s' σ H1 D I z⟩
  unfold isLawBody at hrest
  split at hrest
  · rename_i x0 q0 x1 q1 x2 q2 q3 q4 rest2 hbody
    split at hrest
    · rename_i hx
      simp only [Bool.and_eq_true, decide_eq_true_eq] at hx
      obtain ⟨⟨⟨⟨⟨rfl, rfl⟩, rfl⟩, l0⟩, l1⟩, l2⟩ := hx
      cases hrest
      rw [hbody]
      have Gc := (G (g.c)).g0
      have hst0 : (L2.start df.N [V.ref a])[0]? = some (some (V.ref a)) := rfl
      obtain ⟨v1, v2, v3⟩ := good_vis (X := cxOf (L2N.CX P w) P w K mg base df.N df.qual df.scope f cdv A outer s H E) l2
      obtain ⟨w1, w2⟩ := good_gl (X := cxOf (L2N.CX P w) P w K mg base df.N df.qual df.scope f cdv A outer s H E) l1
      have hx : PE (cxOf (L2N.CX P w) P w K mg base df.N df.qual df.scope f cdv A outer s H E) (.Name ("script" : Str) q2) (tVar 0) := pe_var hN0 v1 v2 v3
      have he := pe_call (pos := q3) (p := q1) Fc (hr.mono (by omega)) w1 gc kc Bc .nil (L2N.passes_call Gc.tk fun _ _ _ _ z => z) (pa_cons hx pa_nil) w2 (by rfl) (by rfl)
      refine ⟨_, pss_cons (ps_set (pos := q4) (pos' := q0) G0nd hN1 (good_loc l0) he (by rfl) (.inl rfl)) hread, ?_⟩
      refine ⟨.ref a, hst0, a, ns, rfl, hS, hl, fun p H' ext hp hcup => ?_⟩
      refine ⟨p, [], H', lawEnv df.N.length, cupOf ns, [], ⟨⟨by simp, by simp, ⟨hcup, hT.ext ext⟩, ?_, fun i v e => ?_, fun i ys e => ?_, fun i j b ys zs _ e => ?_⟩, fun _ z => z, Kp.refl, by simp, fun i ys b e => ?_, by simp, by simp⟩, ?_⟩
      · unfold L2.start lawEnv
        simp
        omega
      · obtain ⟨rfl, hv⟩ := lawEnv_get e
        cases hv
        refine ⟨.ref p, List.getElem?_set_self (by unfold L2.start; simp; omega), .cup⟩
      · obtain ⟨_, hv⟩ := lawEnv_get e
        cases hv
      · obtain ⟨_, hv⟩ := lawEnv_get e
        cases hv
      · obtain ⟨_, hv⟩ := lawEnv_get e
        cases hv
      · have hrun : (sem df.t (callsAt (mkPg L h k) (d + 1))).s (lawEnv df.N.length) (cupOf ns) = .ok (.rt (.bl true)) cc := hrun
        rw [hrun]
        intro H'' _ _ u ru
        cases ru
        exact hQ H''
    · cases hrest
  · cases hrest
end
end Cv

set_option Elab.async false
set_option linter.all false
set_option maxRecDepth 100000
/-! CvU: from the head's facts to the defs' world. -/
namespace Cv
open PySem PySem.Spec PyProof.Rows L2

/-! ### constants of the top -/
mutual
def repB (K : PySem.W.Frag) : PV → Value → Bool
  | .non, .none => true
  | .bl b, .bool c => decide (b = c)
  | .int i, .int j _ => decide (i = j)
  | .str s, .str y _ => decide (y = ⟨s.toArray⟩)
  | .tup xs, .ref a => match K.lookup a with
    | some ⟨.type c, _, .seq its _, _⟩ => decide (c = "tuple") && decide (its.size ≤ sizeLine) && repsB K xs its.toList
    | _ => false
  | _, _ => false
def repsB (K : PySem.W.Frag) : List PV → List Value → Bool
  | [], [] => true
  | x :: xs, u :: us => repB K x u && repsB K xs us
  | _, _ => false
end
section
variable {K : PySem.W.Frag} {g : GI}
mutual
theorem repB_ok : ∀ (x : PV) (u : Value), repB K x u = true → ∃ v, RelV v u ∧ ∀ G, Rep K g G x v
  | .non, u, h => by cases u <;> first | exact ⟨.non, rfl, fun _ => .non⟩ | (unfold repB at h; cases h)
  | .bl b, u, h => by
    cases u <;> unfold repB at h <;> try cases h
    rename_i c
    rw [of_decide_eq_true h]
    exact ⟨.bl c, rfl, fun _ => .bl c⟩
  | .int b, u, h => by
    cases u <;> unfold repB at h <;> try cases h
    rename_i c t
    rw [of_decide_eq_true h]
    exact ⟨.int c, ⟨t, rfl⟩, fun _ => .int c⟩
  | .str s, u, h => by
    cases u <;> unfold repB at h <;> try cases h
    rename_i c t
    rw [of_decide_eq_true h]
    exact ⟨.str ⟨s.toArray⟩, ⟨t, rfl⟩, fun _ => .str s⟩
  | .tup xs, u, h => by
    cases u <;> unfold repB at h <;> try cases h
    rename_i a
    split at h
    · rename_i oc od its m osl e
      simp only [Bool.and_eq_true, decide_eq_true_eq] at h
      obtain ⟨vs, h1, h2⟩ := repsB_ok xs its.toList h.2
      refine ⟨.ref a, rfl, fun G => .tup (vs := vs) (.inr ⟨_, its, m, e, by rw [h.1.1], rfl, h.1.2, h1⟩) (h2 G)⟩
    · cases h
  | .lst xs, u, h => by cases u <;> unfold repB at h <;> cases h
  | .fn i, u, h => by cases u <;> unfold repB at h <;> cases h
  | .cup, u, h => by cases u <;> unfold repB at h <;> cases h
theorem repsB_ok : ∀ (xs : List PV) (us : List Value), repsB K xs us = true → ∃ vs, Vals vs us ∧ ∀ G, Reps K g G xs vs
  | [], us, h => by cases us <;> first | exact ⟨[], .nil, fun _ => .nil⟩ | (unfold repsB at h; cases h)
  | x :: xs, us, h => by
    cases us <;> unfold repsB at h <;> try cases h
    rename_i u us
    rw [Bool.and_eq_true] at h
    obtain ⟨v, h1, h2⟩ := repB_ok x u h.1
    obtain ⟨vs, h3, h4⟩ := repsB_ok xs us h.2
    exact ⟨v :: vs, .cons h1 h3, fun G => .cons (h2 G) (h4 G)⟩
end
end

/-! ### what a law's text holds -/
structure Pd where
  gl : List (Str × GK)
  bl : List Str
  k : List PV
  L : List Df
  cup : Df
  err : Df
  law : Df
  exn : List Str
  /-- the defs that make lambdas -/
  tf : List Str
  h : Nat → Option Int → Option PV
def BindOk (d : Df) : Prop := ∀ (kV doc pm : Value) (an : Option Addr) (cdv ct : Value) (us : List Value), us.length = d.ps.length → bindArgs (PySem.W.fnOf d.x d.qual d.params d.body d.scope .none kV doc pm an cdv ct) ⟨us, []⟩ = pure (d.ps.zip us)
def AllP (p : Df → Prop) : List Df → Prop
  | [] => True
  | d :: r => p d ∧ AllP p r
theorem AllP.get {p : Df → Prop} : ∀ {l : List Df}, AllP p l → ∀ (i : Nat) (d : Df), l[i]? = some d → p d
  | _ :: _, h, 0, d, e => by cases e; exact h.1
  | _ :: r, h, i + 1, d, e => AllP.get (l := r) h.2 i d e
abbrev Df.dd (d : Df) : He.DefD := ⟨(d.x, none), d.x, d.qual, d.params, d.body, d.scope, [], []⟩
def Pd.fa (p : Pd) : List He.Fa := p.L.map (fun d => .glo d.x) ++ [.glo "_law_cup", .glo "_law_error", .glo "law", .free "abs", .free "list", .free "int"] ++ p.bl.map .free ++ p.exn.map .glo ++ p.exn.map .exc
def Pd.fn (p : Pd) : List He.DefD := p.L.map Df.dd ++ [p.cup.dd, p.err.dd, p.law.dd]
def Pd.ex (p : Pd) (K : PySem.W.Frag) : Bool := p.gl.all fun q => match q.2 with
  | .cst j => (match p.k[j]?, PySem.W.nsIn K mainGlobals q.1 with
    | some pv, some (some u) => repB K pv u
    | _, _ => false)
  | .gcd => decide (PySem.W.nsIn K mainGlobals q.1 = some (some (.builtin "math.gcd")))
  | _ => true
abbrev Pd.defn (p : Pd) : List He.Defn := p.tf.map fun x => (x, none)
/-- the text's tables fit one another -/
def Pd.okB (p : Pd) : Bool := (p.gl.all fun q => match q.2 with
  | .fn i => (match p.L[i]? with
    | some d => decide (d.x = q.1)
    | none => false)
  | .exc i => decide (p.exn[i]? = some q.1)
  | .err => decide (q.1 = "_law_error")
  | _ => true)
abbrev Pd.gi (p : Pd) (K : PySem.W.Frag) (fld : Nat → Str) (T : List (Addr × Str)) (c : Addr) : GI := ⟨c, fun i => match p.L[i]? with | some d => He.ga K d.x | none => 0, fun i => match p.exn[i]? with | some x => .ref (He.ga K x) | none => .none, fld, T⟩
theorem mem_look {α : Type} {x : Str} {e : α} : ∀ {l : List (Str × α)}, l.lookup x = some e → (x, e) ∈ l
  | (y, f) :: r, h => by
    rw [List.lookup_cons] at h
    split at h
    · rename_i q
      cases h
      rw [eq_of_beq q]
      exact List.mem_cons_self ..
    · exact List.mem_cons_of_mem _ (mem_look h)
section
variable {p : Pd} {K : PySem.W.Frag} {h : Heap} {mg : Str → Option Value} {fld : Nat → Str} {T : List (Addr × Str)}
theorem wd_of (hp : p.okB = true) (hb : AllP BindOk p.L) (X : K.In h) (G : h.Ns mainGlobals mg) (S : He.SaysD p.fa p.fn K) (ex : p.ex K = true) (c : Addr) : Wd K mg (p.gi K fld T c) p.gl p.bl p.k p.L := by
  unfold Pd.okB at hp
  rw [List.all_eq_true] at hp
  unfold Pd.ex at ex
  rw [List.all_eq_true] at ex
  have fact : ∀ {f : He.Fa}, f ∈ p.fa → f.ok K = true := fun hf => S.facts hf
  have gloL : ∀ {i : Nat} {d : Df}, p.L[i]? = some d → He.Fa.glo d.x ∈ p.fa := fun {i d} e => by
    unfold Pd.fa
    simp only [List.mem_append]
    exact .inl (.inl (.inl (.inl (List.mem_map.mpr ⟨d, List.mem_of_getElem? e, rfl⟩))))
  refine ⟨fun i d e => ?_, fun x hx => ?_, fun x i e => ?_, fun x j e pv hpv => ?_, fun x i e => ?_, fun x e => ?_⟩
  · have hmem : d.dd ∈ p.fn := by
      unfold Pd.fn
      exact List.mem_append_left _ (List.mem_map.mpr ⟨d, List.mem_of_getElem? e, rfl⟩)
    obtain ⟨fd, F⟩ := S.defs hmem
    have ef : (p.gi K fld T c).fa i = He.fAd K (d.x, none) := by
      show (match p.L[i]? with | some d => He.ga K d.x | none => 0) = _
      rw [e]
      rfl
    rw [ef]
    exact ⟨fd, F, FunD.bindsN F (hb.get i d e)⟩
  · refine He.free_ok X G (fact ?_)
    unfold Pd.fa
    simp only [List.mem_append]
    exact .inl (.inl (.inr (List.mem_map.mpr ⟨x, by simpa using hx, rfl⟩)))
  · have h1 := hp _ (mem_look e)
    cases q : p.L[i]? with
    | none => simp only [q] at h1; cases h1
    | some d =>
      simp only [q, decide_eq_true_eq] at h1
      refine ⟨?_, (List.getElem?_eq_some_iff.mp q).1⟩
      show mg x = some (.ref (match p.L[i]? with | some d => He.ga K d.x | none => 0))
      rw [q, ← h1]
      exact He.glo_ok X G (fact (gloL q))
  · have h1 := ex _ (mem_look e)
    simp only [hpv] at h1
    cases q : PySem.W.nsIn K mainGlobals x with
    | none => rw [q] at h1; cases h1
    | some o =>
      cases o with
      | none => rw [q] at h1; cases h1
      | some u =>
        rw [q] at h1
        obtain ⟨v, h2, h3⟩ := repB_ok (g := p.gi K fld T c) pv u h1
        exact ⟨v, u, PySem.W.mg_of X G q, h2, h3⟩
  · have h1 := hp _ (mem_look e)
    simp only [decide_eq_true_eq] at h1
    have hm := List.mem_of_getElem? h1
    have e1 : He.Fa.glo x ∈ p.fa := by
      unfold Pd.fa
      simp only [List.mem_append]
      exact .inl (.inr (List.mem_map.mpr ⟨x, hm, rfl⟩))
    have e2 : He.Fa.exc x ∈ p.fa := by
      unfold Pd.fa
      simp only [List.mem_append]
      exact .inr (List.mem_map.mpr ⟨x, hm, rfl⟩)
    obtain ⟨k1, k2, k3, k4⟩ := He.exc_ok (fact e2)
    refine ⟨He.ga K x, ?_, He.glo_ok X G (fact e1), k1, k2, k3, k4⟩
    show (match p.exn[i]? with | some x => Value.ref (He.ga K x) | none => .none) = _
    rw [h1]
  · have h1 := ex _ (mem_look e)
    simp only [decide_eq_true_eq] at h1
    exact PySem.W.mg_of X G h1
end
end Cv

set_option Elab.async false
set_option linter.all false
set_option maxRecDepth 100000
set_option maxHeartbeats 2000000
/-! CvV: a lambda given to a def that calls it; its exceptions bear no context. -/
namespace Cv
open PySem PySem.Spec PyProof.Rows L2

/-- the lambda's context, its exceptions told with their context -/
abbrev lamN (X : Cx) (A : Around) (outer : List PySem.Env) (s : Shared) (H : Hp) (E : XK) (scope : Scope) (f c' : Addr) : Cx :=
  (LamX.lamCx X A outer s H E scope f c').wish fun e s' => wpAny (model X.prog X.w) (A.deeper (LamX.lamEnv X scope s.heap.objs.size f c')) (leaving (LamX.lamEnv X scope s.heap.objs.size f c') e)
    (fun _ t => L2N.CX X.prog X.w outer H s E e t) (fun e' t => L2N.CX X.prog X.w outer H s E e' t) s'
/-- the def that takes the lambda: its context -/
abbrev takerCx (CXg : CXT) (X : Cx) (Ng : List Str) (qg : Str) (sg : Scope) (g : Addr) (cdg : Value) (s : Shared) (H : Hp) (Eg : XK) : Cx := cxOf CXg X.prog X.w X.K X.mg X.base Ng qg sg g cdg X.A X.stack s H Eg
/-- what the taker's name a does when it is called -/
abbrev actT (i : Nat) (f c' : Addr) (q : Str) (tl : Hp → VK → Prop) : TE := fun σZ HZ Q => σZ[i]? = some (some (.ref f)) ∧ HZ c' = some (LamX.CodeO c' q) ∧ tl HZ Q
section
variable {X : Cx} {pins : List (Addr × Obj)} {σ : L2.St} {H : Hp} {s : Shared}
theorem act_lam {CXg : CXT} {Eg : XK} {Ng : List Str} {qg : Str} {sg : Scope} {g f c' : Addr} {cdg pm ctv : Value} {params : Arguments} {body : PySem.Expr} {scope : Scope} {k i : Nat} {a : Str} {pn : List (Addr × Obj)} {xe : Value → Shared → Prop} {W : WX} {E : XK} {tb : TE} {p1 p2 : Pos}
    (I : Inv X pins σ H s) (L : LamX.LamS X.env.scope scope) (hf : s.heap.get? f = some (PySem.W.kla_obj "<lambda>" (X.env.qual ++ "<lambda>") params body scope (cloFrom X.env.cells scope.names []) pm c' ctv)) (hfn : H f = none) (hfr : f ∉ frs X.stack)
    (hbind : bindArgs (PySem.W.kla_fn "<lambda>" (X.env.qual ++ "<lambda>") params body scope (cloFrom X.env.cells scope.names []) pm (.ref c') ctv) ⟨[], []⟩ = pure [])
    (tk : L2N.Takes ((takerCx CXg X Ng qg sg g cdg s H Eg).tr pn xe) W) (hW : ∀ cls d σ' H', E cls d H' → W cls d σ' H') (hr : Room (k + 1) (X.A.deeper (envOfC qg sg s.heap.objs.size g cdg)))
    (hbody : ∀ (A : Around) (outer : List PySem.Env) (s : Shared) (H : Hp), Room k (A.deeper (LamX.lamEnv X scope s.heap.objs.size f c')) → PE (lamN X A outer s H E scope f c') body tb)
    (hN : Ng[i]? = some a) (hv : Vis sg a) (hd : (a == ("__debug__" : Str)) = false) (hcd : (a == ("__classdict__" : Str)) = false) :
    PE ((takerCx CXg X Ng qg sg g cdg s H Eg).tr pn xe) (.Call (.Name a p1) [] [] p2) (actT i f c' (X.env.qual ++ "<lambda>") (tb σ)) := by
  refine ⟨fun pinsZ sZ σZ HZ Q IZ ⟨hs, hc, ht⟩ => ?_⟩
  have hname := (pe_var (X := (takerCx CXg X Ng qg sg g cdg s H Eg).tr pn xe) (pos := p1) (i := i) hN hv hd hcd).run pinsZ sZ σZ HZ (fun v H1 => v = .ref f ∧ H1 = HZ) IZ ⟨.ref f, hs, rfl, rfl⟩
  refine wpAny_Call_Name_kw (thn hname fun u s1 hu => ?_)
  obtain ⟨v, H1, I1, r1, rfl, rfl⟩ := hu
  have hu : u = Value.ref f := r1
  subst hu
  have un : L2.Un (frs X.stack) [] H H1 s.heap s1.heap := I1.base
  have of1 := I1.base.keep f _ hf hfn hfr fun z => nomatch (show f ∈ ([] : List Addr) from z)
  refine PySem.W.callWith_F0 ⟨_, _, _, _, of1⟩ ?_
  obtain ⟨⟨oc, vs, t, hoc, hdc, hvc⟩, _, _⟩ := I1.hok c' _ hc
  have run : codeAny (model X.prog X.w) (X.A.deeper (envOfC qg sg s.heap.objs.size g cdg)) (.call (.ref f) ⟨[], []⟩) (CR (L2N.CX X.prog X.w) (envOfC qg sg s.heap.objs.size g cdg :: X.stack) X.prog X.w H1 s1 Q E) s1 := by
    refine PySem.W.kla_callFunE hr.depth of1 rfl L.co L.gen rfl ⟨c', oc, vs, t, rfl, hoc, hdc, hvc⟩ ?_
    rw [hbind]
    refine wpAny_pure (wpAny_newFunctionEnv (fun y hy => (L.own y hy).2) (fun y hy => absurd hy (by simp)) (fun h₁ hns hsb => ⟨I1.nolimit.fresh _ hsb, ?_⟩) L.kind)
    show codeAny _ _ (.expr body (LamX.lamEnv X scope s1.heap.objs.size f c')) _ _
    have kp : ∀ b o, s1.heap.get? b = some o → h₁.get? b = some o := fun b o e => hsb.extBut b o (Nat.ne_of_lt (Heap.lt_size e)) (Heap.get?_push_of_some _ e)
    have J := (LamX.lam_start2 (E := E) (f := f) (c' := c') (tk := s1.toks + ([] : List (Str × Value)).length) I L I1.env0 hr.hd un hns kp).wish fun e s' => wpAny (model X.prog X.w) ((X.A.deeper (envOfC qg sg s.heap.objs.size g cdg)).deeper (LamX.lamEnv X scope s1.heap.objs.size f c')) (leaving (LamX.lamEnv X scope s1.heap.objs.size f c') e)
      (fun _ t => L2N.CX X.prog X.w (envOfC qg sg s.heap.objs.size g cdg :: X.stack) H1 s1 E e t) (fun e' t => L2N.CX X.prog X.w (envOfC qg sg s.heap.objs.size g cdg :: X.stack) H1 s1 E e' t) s'
    refine PySem.W.kla_codeExpr (wpAny_mono ((hbody _ _ s1 H1 (hr.deeper _)).run [] _ _ H1 Q J ht) (fun v s' hq => ?_) fun e s' hq => hq)
    obtain ⟨w', H', J', rv, q⟩ := hq
    exact ⟨w', H', J'.os, J'.bare, J'.base, J'.hok, rv, q⟩
  refine wpAny_call (codeAny_mono run fun r s' hq => ?_)
  match r, hq with
  | .error e, hq => exact L2N.passes_call tk hW pinsZ σZ H1 s1 e s' I1 hq
  | .ok (.ret u), hq => exact I1.after hq
/-- the taker's promise: tl is the lambda's reading by the wish about exceptions -/
def Taken (X : Cx) (Ng : List Str) (x : Str) (sg : Scope) (g : Addr) (cdg : Value) (bg : List Stmt) (a : Str) (q : Str) (TT : (XK → Hp → VK → Prop) → Hp → VK → Prop) : Prop :=
  ∀ (f c' : Addr) (s : Shared) (H : Hp) (Q : VK) (tl : XK → Hp → VK → Prop), Room 0 (X.A.deeper (envOfC x sg s.heap.objs.size g cdg)) →
    (∀ (W : WX) (pn : List (Addr × Obj)) (xe : Value → Shared → Prop) (E : XK) (p1 p2 : Pos), L2N.Takes ((takerCx C8.CX0 X Ng x sg g cdg s H C8.E0).tr pn xe) W → (∀ cls d σ' H', E cls d H' → W cls d σ' H') →
      PE ((takerCx C8.CX0 X Ng x sg g cdg s H C8.E0).tr pn xe) (.Call (.Name a p1) [] [] p2) (actT 0 f c' q (tl E))) →
    H c' = some (LamX.CodeO c' q) → TT tl H Q →
    ∃ t, PSs (takerCx C8.CX0 X Ng x sg g cdg s H C8.E0).nox bg t ∧ t { nx := fun _ H' => Q .non H', rt := Q } (L2.start Ng [.ref f]) H
/-- x(lambda: body) -/
theorem pe_lamN {T : List (Addr × Str)} {TT : (XK → Hp → VK → Prop) → Hp → VK → Prop} {x a : Str} {g c P : Addr} {k : Nat} {pg : Arguments} {bg : List Stmt} {sg : Scope} {dV kV doc pm cdv ct oc : Value} {an od : Option Addr} {osl : Array (Option Value)} {Ng : List Str}
    {params : Arguments} {body : PySem.Expr} {scope : Scope} {t : XK → TE} {p lpos pos : Pos} (hg : Gl X x) (hm : X.mg x = some (.ref g)) (hk : PySem.W.keepIn X.K (.ref g) = true)
    (lk : X.K.lookup g = some ⟨oc, od, .func (PySem.W.fnOf x x pg bg sg dV kV doc pm an cdv ct), osl⟩) (hcg : PySem.W.codeIn X.K cdv x = true) (hb : Binds X.K (PySem.W.fnOf x x pg bg sg dV kV doc pm an cdv ct) [a] []) (Sg : FnScope Ng [a] sg) (hNg : Ng[0]? = some a) (hva : Vis sg a)
    (hG : Taken X Ng x sg g cdv bg a (X.env.qual ++ "<lambda>") TT) (TB : LamX.TabB X.base X.mg c P) (hcode : X.env.code = .ref c) (hmT : (P, X.env.qual ++ "<lambda>") ∈ T) (hu : ∀ p ∈ T, p.1 = P → p.2 = X.env.qual ++ "<lambda>")
    (hr : Room (k + 2) X.A) (L : LamX.LamS X.env.scope scope) (hdef : defaultsOf params X.env = ([], [])) (hbind : ∀ (q : Str) (cl : List (Str × Addr)) (pm cv ctv : Value), bindArgs (PySem.W.kla_fn "<lambda>" q params body scope cl pm cv ctv) ⟨[], []⟩ = pure [])
    (hbody : ∀ (A : Around) (outer : List PySem.Env) (s : Shared) (H : Hp) (E : XK) (f c' : Addr), Room k (A.deeper (LamX.lamEnv X scope s.heap.objs.size f c')) → PE (lamN X A outer s H E scope f c') body (t E))
    (hdb : (x == ("__debug__" : Str)) = false) (hd : (a == ("__debug__" : Str)) = false) (hcd : (a == ("__classdict__" : Str)) = false) : PE X (.Call (.Name x p) [.Lambda params body scope lpos] [] pos) (LamX.tLam T TT t) := by
  refine ⟨fun pins s σ H Q I ⟨hT, h⟩ => ?_⟩
  refine wpAny_Call_Name_kw (ld_glob I hg hm (PySem.W.callWith_K (h₀ := X.base) I.ok.mod.kin hk ?_ (by rfl) (by rfl)) hdb)
  show wpAny _ _ (spliced ((false, eval (.Lambda params body scope lpos) X.env) :: backTo pos (starEach [] X.env))) _ _ s
  refine Calls.spliced_cons (LamX.lam_make2 I TB hcode hmT hu hT hdef (L.has I.ok) fun f c' pm' ctv H1 s' I1 eN T1 hf hfn hfr hco => ?_)
  refine Calls.spliced_nil ⟨I1.kIn, ?_⟩
  have rc : codeAny (model X.prog X.w) X.A (.call (.ref g) ⟨[.ref f], []⟩) (CR C8.CX0 X.stack X.prog X.w H1 s' Q C8.E0) s' :=
    LamX.run_ofS (N := Ng) (ps := [a]) (us := [.ref f]) (vs := [.ref f]) lk hcg Sg hr I1.env0 (hb s' [.ref f] I1.kIn rfl) (.cons rfl .nil) rfl fun hr' => by
      obtain ⟨t', h1, h2⟩ := hG f c' s' H1 Q (fun E H' Q' => t E σ H' Q') (hr'.mono (Nat.zero_le _))
        (fun W pn xe E p1 p2 tk hW => act_lam (i := 0) I1 L hf hfn hfr (hbind _ _ _ _ _) tk hW hr' (fun A outer s H hr2 => hbody A outer s H E f c' hr2) hNg hva hd hcd) hco (h H1 eN T1)
      exact ⟨t', h1.nox, h2⟩
  refine wpAny_call (codeAny_mono rc fun r s2 hq => ?_)
  match r, hq with
  | .error e, hq => exact (show False from hq).elim
  | .ok (.ret u), hq => exact I1.after hq
end
end Cv

set_option Elab.async false
set_option linter.all false
set_option maxRecDepth 100000
set_option maxHeartbeats 2000000
/-! CvW: walking lists and taking tuples apart while an exception is handled. -/
namespace Cv
open PySem PySem.Spec PyProof.Rows L2 HotX

section
variable {prog : Program} {w : World} {A : Around} {E : Value → Shared → Prop} {s : Shared}
theorem list_end_hot {it l x1 : Addr} {i : Nat} {items : Array Value} {Q : Option Value → Shared → Prop} (hot : HotAt A x1 s.heap) (hne : x1 ≠ it) (hit : s.heap.IsListIter it l i) (hl : s.heap.IsList l items) (hx : items[i]? = none)
    (hQ : ∀ h', Heap.ExtBut it s.heap h' → Q none { s with heap := h' }) : wpAny (model prog w) A (pyNext (.ref it)) Q E s := by
  obtain ⟨o, ho, hc, hd⟩ := id hit
  obtain ⟨ol, hol, _, nl, hdl⟩ := hl
  obtain ⟨hh, o1, vs1, h1, d1, c1⟩ := hot
  unfold pyNext
  refine wpAny_bind (wpAny_attempt (wpAny_callSpecial?_slot (name := Str.ofString "__next__") hit.typeIs slot_listiter_next (wpAny_call_entry slot_listiter_next hit.typeIs entry_listiter_next ?_ (args_listiter_next _))))
  show wpAny _ _ (field (.ref it) 0 >>= _) _ _ s; refine wpAny_bind (wpAny_field ho hd (x := .ref l) rfl ?_)
  show wpAny _ _ (if (Value.ref l == Value.none) = true then _ else _) _ _ s; rw [if_neg (show ¬ ((Value.ref l == Value.none) = true) from Bool.false_ne_true)]
  show wpAny _ _ (field (.ref it) 1 >>= _) _ _ s; refine wpAny_bind (wpAny_field ho hd (x := .int i 0) rfl ?_)
  show wpAny _ _ (seqItems? (.ref l) >>= _) _ _ s; refine wpAny_bind (wpAny_seqItems hol hdl ?_)
  simp only [Int.toNat_natCast, hx]
  refine wpAny_bind (wpAny_rule (wpAny_bind (wpAny_setField ho hd (by simp) ?_)))
  show wpAny _ _ (newExc (.type "StopIteration") [] >>= _) _ _ _; refine wpAny_bind ?_
  simp only [newExc, newTuple]
  refine wpAny_bind (wpAny_newObj_type ?_ (by size_fits)); refine wpAny_bind (m := firstArgMember _ _) (wpAny_of_eq (a := Value.none) (by first | rfl | (simp only [firstArgMember]; rfl)) ?_)
  refine wpAny_newObj_type ?_ (by size_fits)
  have k1 : ∀ (b : Addr) (u : Obj), b ≠ it → s.heap.get? b = some u → (((s.heap.update it (Obj.mapFields (·.setIfInBounds 0 .none))).push { cls := .type "tuple", data := .seq #[] })).get? b = some u := fun b u hb e =>
    Heap.get?_push_of_some _ ((Heap.get?_update_other _ _ (Ne.symm hb)).trans e)
  refine raiseNew_hot ⟨hh, o1, vs1, Heap.get?_push_of_some _ (k1 x1 o1 hne h1), d1, c1⟩ (Nat.ne_of_lt (Heap.lt_size (k1 x1 o1 hne h1))) (Heap.get?_push_size _ rfl) rfl (by first | (simp; done) | (simp; omega) | (simp only [Array.size_append]; simp; omega)) ?_
  refine wpAny_bind (wpAny_isInstance (T := "StopIteration") (b := true) ⟨_, Heap.get?_update_self _ (Heap.get?_push_size _ rfl) rfl, rfl⟩ isSubtype_stop ?_)
  refine wpAny_pure (hQ _ fun b u hb e => ?_)
  rw [Heap.get?_update_other _ _ (Nat.ne_of_gt (Heap.lt_size (k1 b u hb e)))]
  exact Heap.get?_push_of_some _ (k1 b u hb e)
theorem tup_end_hot {it t x1 : Addr} {i : Nat} {items : Array Value} {Q : Option Value → Shared → Prop} (hot : HotAt A x1 s.heap) (hne : x1 ≠ it) (hit : IsTupIter s.heap it t i) (ht : IsTup s.heap t items) (hx : items[i]? = none)
    (hQ : ∀ h', Heap.ExtBut it s.heap h' → Q none { s with heap := h' }) : wpAny (model prog w) A (pyNext (.ref it)) Q E s := by
  obtain ⟨o, ho, hc, hd⟩ := id hit
  obtain ⟨ol, hol, _, nl, hdl⟩ := ht
  obtain ⟨hh, o1, vs1, h1, d1, c1⟩ := hot
  unfold pyNext
  refine wpAny_bind (wpAny_attempt (wpAny_callSpecial?_slot (name := Str.ofString "__next__") hit.typeIs slot_tupleiter_next (wpAny_call_entry slot_tupleiter_next hit.typeIs entry_tupleiter_next ?_ (args_tupleiter_next _))))
  show wpAny _ _ (field (.ref it) 0 >>= _) _ _ s; refine wpAny_bind (wpAny_field ho hd (x := .ref t) rfl ?_)
  show wpAny _ _ (if (Value.ref t == Value.none) = true then _ else _) _ _ s; rw [if_neg (show ¬ ((Value.ref t == Value.none) = true) from Bool.false_ne_true)]
  show wpAny _ _ (field (.ref it) 1 >>= _) _ _ s; refine wpAny_bind (wpAny_field ho hd (x := .int i 0) rfl ?_)
  show wpAny _ _ (seqItems? (.ref t) >>= _) _ _ s; refine wpAny_bind (wpAny_seqItems hol hdl ?_)
  simp only [Int.toNat_natCast, hx]
  refine wpAny_bind (wpAny_rule (wpAny_bind (wpAny_setField ho hd (by simp) ?_)))
  show wpAny _ _ (newExc (.type "StopIteration") [] >>= _) _ _ _; refine wpAny_bind ?_
  simp only [newExc, newTuple]
  refine wpAny_bind (wpAny_newObj_type ?_ (by size_fits)); refine wpAny_bind (m := firstArgMember _ _) (wpAny_of_eq (a := Value.none) (by first | rfl | (simp only [firstArgMember]; rfl)) ?_)
  refine wpAny_newObj_type ?_ (by size_fits)
  have k1 : ∀ (b : Addr) (u : Obj), b ≠ it → s.heap.get? b = some u → (((s.heap.update it (Obj.mapFields (·.setIfInBounds 0 .none))).push { cls := .type "tuple", data := .seq #[] })).get? b = some u := fun b u hb e =>
    Heap.get?_push_of_some _ ((Heap.get?_update_other _ _ (Ne.symm hb)).trans e)
  refine raiseNew_hot ⟨hh, o1, vs1, Heap.get?_push_of_some _ (k1 x1 o1 hne h1), d1, c1⟩ (Nat.ne_of_lt (Heap.lt_size (k1 x1 o1 hne h1))) (Heap.get?_push_size _ rfl) rfl (by first | (simp; done) | (simp; omega) | (simp only [Array.size_append]; simp; omega)) ?_
  refine wpAny_bind (wpAny_isInstance (T := "StopIteration") (b := true) ⟨_, Heap.get?_update_self _ (Heap.get?_push_size _ rfl) rfl, rfl⟩ isSubtype_stop ?_)
  refine wpAny_pure (hQ _ fun b u hb e => ?_)
  rw [Heap.get?_update_other _ _ (Nat.ne_of_gt (Heap.lt_size (k1 b u hb e)))]
  exact Heap.get?_push_of_some _ (k1 b u hb e)
theorem assign_tup_hot {env : PySem.Env} {elts : List PySem.Expr} {k : Nat} {pos : Pos} {t x1 : Addr} {items : Array Value} {Q : Unit → Shared → Prop} (hot : HotAt A x1 s.heap) (ht : IsTup s.heap t items) (hn : (assignEach elts env).length = items.size) (hstar : (assignEach elts env).findIdx? (·.1) = none)
    (h : ∀ h', Heap.ExtBut s.heap.objs.size s.heap h' → wpAny (model prog w) A (assignInOrder ((assignEach elts env).map (·.2)) items.toList) Q E { s with heap := h' }) : wpAny (model prog w) A (assign (.Tuple elts k pos) env (.ref t)) Q E s := by
  have hlt : t ≠ s.heap.objs.size := by obtain ⟨o, ho, _⟩ := ht; exact Nat.ne_of_lt (Heap.lt_size ho)
  obtain ⟨hh, o1, vs1, h1, d1, c1⟩ := hot
  have h1lt : x1 ≠ s.heap.objs.size := Nat.ne_of_lt (Heap.lt_size h1)
  rw [assign_Tuple]
  refine wpAny_bind (wpAny_standAt ?_)
  unfold unpack
  rw [hn, hstar]
  refine wpAny_bind (wpAny_holding ?_)
  unfold unpackItems
  refine wpAny_bind ?_
  unfold notIterableAtAll
  refine wpAny_bind (wpAny_specialOf ht.typeIs slot_tuple_iter.lookup (wpAny_pure ?_))
  simp only [Bool.false_eq_true, if_false]
  refine wpAny_bind (wpAny_holding (iter_tuple ht (wpAny_bind (wpAny_holding (draw_tuple hlt items.size 0 _ _ ⟨_, Heap.get?_push_size _ rfl, rfl, rfl⟩ (ht.push _) (by omega) fun g1 hit₁ hs₁ => ?_)))))
  have hall : List.take items.size (List.drop 0 items.toList) = items.toList := by rw [List.drop_zero]; exact List.take_of_length_le (by simp)
  rw [hall, if_neg (by simp)]
  have hot1 : HotAt A x1 g1 := ⟨hh, o1, vs1, hs₁.extBut x1 o1 h1lt (Heap.get?_push_of_some _ h1), d1, c1⟩
  refine wpAny_bind (wpAny_holding (tup_end_hot (s := { s with heap := g1 }) hot1 h1lt hit₁ ((ht.push _).extBut hs₁.extBut hlt) (by simp) fun g2 he₂ => ?_))
  simp only [Option.isSome_none, Bool.false_eq_true, if_false]
  exact wpAny_pure (h g2 fun b o hb e => he₂ b o hb (hs₁.extBut b o hb (Heap.get?_push_of_some _ e)))
end

/-! ### the layer's rules there -/
/-- the context bears a handled exception whose context is None, out of reach -/
def HotE (X : Cx) : Prop := ∀ (pins : List (Addr × Obj)) (σ : L2.St) (H : Hp) (s : Shared), Inv X pins σ H s → ∃ x1, HotAt X.A x1 s.heap ∧ ∀ b, FpOk X pins H b → x1 ≠ b
theorem hotE_suite {X : Cx} {a : Addr} {oe : Obj} {pn : List (Addr × Obj)} {cls : Value} {d : Option Addr} (hz : L2N.Zn cls d oe) (hf : ∃ vs, oe.data = .fields vs) : HotE (X.suite a ((a, oe) :: pn)) := fun pins σ H s I => by
  obtain ⟨vs, hf⟩ := hf
  have P1 := I.pin (a, oe) (List.mem_append_left _ (List.mem_cons_self ..))
  exact ⟨a, ⟨rfl, oe, vs, P1.1, hf, hz.2.2 vs hf⟩, fun b hb => hb.2.2.2.2.2 (a, oe) (List.mem_append_left _ (List.mem_cons_self ..))⟩
section
variable {X : Cx}
theorem pg_tupH {es : List PySem.Expr} {k : Nat} {t : TGs} {n : Nat} {pos : Pos} (hc : HotE X) (h : PGs X es t) (hn : (assignEach es X.env).length = n) (hst : (assignEach es X.env).findIdx? (·.1) = none) : PG X (.Tuple es k pos) (gTup X.K n t) := by
  refine ⟨fun pins s σ H v u Q I r ⟨a, xs, e1, hq, hl, hw⟩ => ?_⟩
  subst e1
  cases r
  obtain ⟨its, rv, ht, hz⟩ := I.tuple hq
  obtain ⟨x1, hot, _⟩ := hc pins σ H s I
  refine assign_tup_hot hot ht (by simp [hn, ← hl, rv.length]) hst fun h' hx => ?_
  exact h.run pins _ σ H xs _ Q (I.kept (t' := s.toks) fun b o e => hx b o (Nat.ne_of_lt (Heap.lt_size e)) e) (by simpa using rv) hw
theorem list_item_h {tg : PySem.Expr} {a it : Addr} {i : Nat} {pins : List (Addr × Obj)} {s : Shared} {σ : L2.St} {H : Hp} {E : Value → Shared → Prop} (I : Inv X pins σ H s) (hf : FpOk X pins H it) (st : s.heap.IsListIter it a i) (hg : (Itl X.K a).go i H) :
    wpAny (model X.prog X.w) X.A (pyNext (.ref it)) (fun r s1 => ∃ u, r = some u ∧ wpAny (model X.prog X.w) X.A (letOwnedTupleGo tg (.ref it) u) (fun _ s2 => ∃ x, Inv X pins σ H s2 ∧ RelV x u ∧ (Itl X.K a).yld i H x H ∧ s2.heap.IsListIter it a (i + 1)) E s1) E s := by
  obtain ⟨xs, x, hq, hx⟩ := hg
  obtain ⟨its, rv, p, hz⟩ := I.list hq
  obtain ⟨u, hu, ru⟩ := rv.get hx
  obtain ⟨f0, f1, f2, f3, f4, f5⟩ := hf
  refine wpAny_pyNext_list_item st p.isList (x := u) (by simpa using hu) fun h' st' sb => ?_
  obtain ⟨o, e, c, d⟩ := id st'
  exact ⟨u, rfl, go_of (s := { s with heap := h' }) e c d (by decide) ⟨x, I.turned (t' := s.toks) (fun b o hb e => (sb.2 b hb).trans e) f0 f1 f3 f4 f5, ru, ⟨rfl, fun ys hy => by rw [I.list_inj hy hq]; exact hx⟩, st'⟩⟩
theorem list_done_h {a it : Addr} {i : Nat} {pins : List (Addr × Obj)} {s : Shared} {σ : L2.St} {H : Hp} {E : Value → Shared → Prop} (hc : HotE X) (I : Inv X pins σ H s) (hf : FpOk X pins H it) (st : s.heap.IsListIter it a i) (hg : (Itl X.K a).stop i H) :
    wpAny (model X.prog X.w) X.A (pyNext (.ref it)) (fun r s1 => r = none ∧ Inv X pins σ H s1) E s := by
  obtain ⟨xs, hq, hx⟩ := hg
  obtain ⟨its, rv, p, hz⟩ := I.list hq
  obtain ⟨x1, hot, hne⟩ := hc pins σ H s I
  have h1 := hne it hf
  obtain ⟨f0, f1, f2, f3, f4, f5⟩ := hf
  have hl := rv.length
  exact list_end_hot hot h1 st p.isList (by simp; omega) fun h' eb => ⟨rfl, I.turned (t' := s.toks) (fun b o hb e => eb b o hb e) f0 f1 f3 f4 f5⟩
end
end Cv

set_option Elab.async false
set_option linter.all false
set_option maxRecDepth 100000
set_option maxHeartbeats 2000000
/-! CvX: a comprehension over a list while an exception is handled. -/
namespace Cv
open PySem PySem.Spec PyProof.Rows L2 HotX
section
variable {X : Cx}
theorem hotE_blk {pins : List (Addr × Obj)} {σ : L2.St} {H0 : Hp} {s0 : Shared} {scope : Scope} {ce : PySem.Env} {fp : List Addr} (hc : L2H.HotC X) (I : Inv X pins σ H0 s0) (hfp : ∀ b ∈ fp, FpOk X pins H0 b) : HotE (X.blk s0 H0 scope ce fp) := by
  intro pins' σ' H' s' J
  obtain ⟨p, ⟨hh, vs, e1, c1⟩, hp⟩ := hc
  obtain ⟨q1, q2, q3, q4, q5⟩ := I.pin p (List.mem_append_left _ hp)
  have nfp : p.1 ∉ fp := fun z => (hfp p.1 z).2.2.2.2.2 p (List.mem_append_left _ hp) rfl
  have nfr : p.1 ∉ frs X.stack := fun z => (List.mem_cons.mp (I.stkSub p.1 z)).elim q3 q4
  have un : L2.Un (frs X.stack) fp H0 H' s0.heap s'.heap := J.base
  refine ⟨p.1, ⟨hh, p.2, vs, un.keep p.1 p.2 q1 q2 nfr nfp, e1, c1⟩, fun b hb z => ?_⟩
  rcases hb.2.2.2.1 with k | k
  · exact nfp (z ▸ (show b ∈ fp from k))
  · have k : s0.heap.objs.size ≤ b := k
    have := Heap.lt_size q1
    rw [z] at this
    exact absurd this (Nat.not_lt.mpr k)
theorem pe_lcHot {elt tg iter : PySem.Expr} {ifs : List PySem.Expr} {scope : Scope} {own : List (Str × Nat)} {pos : Pos} {ti : TE} {g : TG} {tt : TT} {te : TE} (hc : L2H.HotC X) (hN : X.N.Nodup) (hi : PE X iter ti) (ok : BlkOk X.N X.env.scope scope own)
    (hg : ∀ (s : Shared) (H : Hp) (C : Addr) (cl : List (Str × Addr)) (fp : List Addr), HotE (X.blk s H scope (compEnvC scope cl C X.env) fp) → PG (X.blk s H scope (compEnvC scope cl C X.env) fp) tg g)
    (ht : ∀ (s : Shared) (H : Hp) (C : Addr) (cl : List (Str × Addr)) (fp : List Addr), PTs (X.blk s H scope (compEnvC scope cl C X.env) fp) ifs tt)
    (he : ∀ (s : Shared) (H : Hp) (C : Addr) (cl : List (Str × Addr)) (fp : List Addr), PE (X.blk s H scope (compEnvC scope cl C X.env) fp) elt te) (hs : ∀ x, foldedSetIterable iter X.env x = pure x) :
    PE X (.ListComp elt [⟨tg, iter, ifs, 0⟩] scope pos) (tLc (iList X.K ti) g tt te (own.map (·.2))) := by
  refine ⟨fun pins s σ H Q I h => ?_⟩
  rw [eval_ListComp]
  have hfree : ∀ y ∈ scope.names, y.2 = .free → ∃ c, X.env.cells.lookup y.1 = some c := fun y hy e => (ok.free y hy e).elim (fun k => I.ok.has _ (.inl k)) fun k => I.ok.has _ (.inr k)
  refine wpAny_comprehension_free (use := none) rfl hs (closure_ok hfree) ok.kind (fun y hy e => by rw [ok.uniq y hy, e]) (thn (hi.run pins s σ H _ I h) fun v s1 hv => ?_)
  obtain ⟨x0, H1, I1, r1, a, rfl, ⟨xs0, hq0⟩, hread⟩ := hv
  cases r1
  obtain ⟨its, rv, pl, hz⟩ := I1.list hq0
  refine wpAny_pyIter_list pl.isList ?_
  generalize hit : s1.heap.objs.size = it
  have hitn : H1 it = none := I1.hok.fresh (Nat.le_of_eq hit)
  have fpi : FpOk X pins H1 it := I1.fpOk (Nat.le_of_eq hit) hitn
  have st0 : (s1.heap.push { cls := .type "list_iterator", data := .fields #[.ref a, .int 0 0] }).IsListIter it a 0 := ⟨_, by rw [← hit]; exact Heap.get?_push_size _ rfl, rfl, rfl⟩
  have I2 : Inv X pins σ H1 { s1 with heap := s1.heap.push { cls := .type "list_iterator", data := .fields #[.ref a, .int 0 0] } } := I1.kept (t' := s1.toks) fun b o e => Heap.get?_push_of_some _ e
  generalize hs2 : ({ s1 with heap := s1.heap.push { cls := .type "list_iterator", data := .fields #[.ref a, .int 0 0] } } : Shared) = s2 at I2
  have st2 : s2.heap.IsListIter it a 0 := by rw [← hs2]; exact st0
  have hlt : it < s2.heap.objs.size := by obtain ⟨o, e, _⟩ := id st2; exact Heap.lt_size e
  try rw [hs2]
  refine wpAny_newObj_type (newEnv_comp ?_) (by show 0 ≤ sizeLine; decide)
  generalize hD : s2.heap.objs.size = D
  have hDn : H1 D = none := I2.hok.fresh (Nat.le_of_eq hD)
  obtain ⟨W, ⟨m0, w0⟩, turn⟩ := hread D hDn
  have I3 : Inv X pins σ (upd H1 D (.lst [])) { s2 with heap := s2.heap.push { cls := .type "list", data := .seq ([] : List Value).toArray } } := by
    refine I2.laid (t' := s2.toks) (fun b o e => Heap.get?_push_of_some _ e) (Nat.le_of_eq hD) ⟨Nat.zero_le _, [], 0, .nil, ?_⟩
    rw [← hD]; exact Heap.get?_push_size _ rfl
  have st3 : (s2.heap.push { cls := .type "list", data := .seq ([] : List Value).toArray }).IsListIter it a 0 := st2.at fun o e => Heap.get?_push_of_some _ e
  have hlt3 : it < (s2.heap.push { cls := .type "list", data := .seq ([] : List Value).toArray }).objs.size := by rw [Heap.size_push]; exact Nat.lt_succ_of_lt hlt
  have f3 : FpOk X pins (upd H1 D (.lst [])) it := ⟨by rw [upd_ne (by rw [← hD]; exact Nat.ne_of_lt hlt)]; exact hitn, fpi.2⟩
  generalize hs3 : ({ s2 with heap := s2.heap.push { cls := .type "list", data := .seq ([] : List Value).toArray } } : Shared) = s3 at I3
  have st3 : s3.heap.IsListIter it a 0 := by rw [← hs3]; exact st3
  have hlt3 : it < s3.heap.objs.size := by rw [← hs3]; exact hlt3
  try rw [hs3]
  generalize hH3 : upd H1 D (.lst []) = H3 at I3 f3 w0
  have fps : ∀ b ∈ [it], FpOk X pins H3 b ∧ b < s3.heap.objs.size := fun b hb => by
    obtain rfl : b = it := by simpa using hb
    exact ⟨f3, hlt3⟩
  have I4 := block_start I3 ok hN fps
  have hotb := fun ce => hotE_blk (scope := scope) (ce := ce) hc I3 fun b hb => (fps b hb).1
  have pg := hg s3 H3 s3.heap.objs.size (cellsFrom (s3.heap.objs.size + 1) scope.names (cloFrom X.env.cells scope.names [])) [it] (hotb _)
  have pt := ht s3 H3 s3.heap.objs.size (cellsFrom (s3.heap.objs.size + 1) scope.names (cloFrom X.env.cells scope.names [])) [it]
  have pe := he s3 H3 s3.heap.objs.size (cellsFrom (s3.heap.objs.size + 1) scope.names (cloFrom X.env.cells scope.names [])) [it]
  have hot4 := hotb (compEnvC scope (cellsFrom (s3.heap.objs.size + 1) scope.names (cloFrom X.env.cells scope.names [])) s3.heap.objs.size X.env)
  have fin0 : ∀ s' m H', Inv X pins σ H' s' → Q (.ref D) H' → s'.heap.Ns s3.heap.objs.size m → FpOk X pins H' s3.heap.objs.size → compPost (model X.prog X.w) X.A X.xe none (EP X pins σ Q) (.ref D) s3.heap.objs.size (.ok .next) s' := fun s' m H' J q hn f => ⟨m, hn, fun h'' sb => by
    obtain ⟨f0, f1, f2, f3, f4, f5⟩ := f
    exact ⟨.ref D, H', J.turned (t' := s'.toks) (fun b o hb e => (sb.2 b hb).trans e) f0 f1 f3 f4 f5, rfl, q⟩⟩
  show codeAny _ _ (.compStart (.ListComp elt [⟨tg, iter, ifs, 0⟩] scope pos) 0 (.ref it) (.ref D) (compEnvC scope (cellsFrom (s3.heap.objs.size + 1) scope.names (cloFrom X.env.cells scope.names [])) s3.heap.objs.size X.env)) (compPost (model X.prog X.w) X.A X.xe none (EP X pins σ Q) (.ref D) s3.heap.objs.size)
    { s3 with heap := pushCells (s3.heap.push { cls := .type "dict", data := .dict #[] }) scope.names }
  generalize hce : compEnvC scope (cellsFrom (s3.heap.objs.size + 1) scope.names (cloFrom X.env.cells scope.names [])) s3.heap.objs.size X.env = ce at I4 pg pt pe hot4 ⊢
  have cL : ce.locals = s3.heap.objs.size := by subst hce; rfl
  generalize hs4 : ({ s3 with heap := pushCells (s3.heap.push { cls := .type "dict", data := .dict #[] }) scope.names } : Shared) = s4 at I4 ⊢
  have st4 : s4.heap.IsListIter it a 0 := st3.at fun o e => by rw [← hs4]; exact pushCells_keeps _ _ _ _ (Heap.get?_push_of_some _ e)
  have stat : ∀ {σ' : L2.St} {H' : Hp} {s' : Shared}, Inv (X.blk s3 H3 scope ce [it]) [] σ' H' s' → H' it = none → FpOk (X.blk s3 H3 scope ce [it]) [] H' it := fun {σ' H' s'} J hn =>
    ⟨hn, (J.ok.exf it (List.mem_singleton_self _)).1, J.ok.exfs it (List.mem_singleton_self _), .inl (List.mem_singleton_self _), fun x c e => (J.ok.exf it (List.mem_singleton_self _)).2 x c e, fun p hp => absurd (show p ∈ ([] : List (Addr × Obj)) ++ [] from hp) (by simp)⟩
  have loop : codeAny (model X.prog X.w) X.A (.compLoop (.ListComp elt [⟨tg, iter, ifs, 0⟩] scope pos) 0 (.ref it) (.ref D) ce) (compPost (model X.prog X.w) X.A X.xe none (EP X pins σ Q) (.ref D) s3.heap.objs.size) s4 := by
    refine compLoop_any (fun n s' => ∃ i H', Inv (X.blk s3 H3 scope ce [it]) [] (wipe σ (own.map (·.2))) H' s' ∧ s'.heap.IsListIter it a i ∧ H' it = none ∧ W i n H') ?_ m0 ⟨0, H3, I4, st4, f3.1, w0⟩
    rintro n s5 ⟨i, H5, I5, st5, n5, w5⟩
    rcases turn i n H5 w5 with ⟨stop, qq⟩ | ⟨go, Nx, hNx, step⟩
    · refine thnF (list_done_h (X := X.blk s3 H3 scope ce [it]) (E := fun _ _ => False) hot4 I5 (stat I5 n5) st5 stop) fun r s6 ⟨hr, I6⟩ => ?_
      subst hr
      have I7 : Inv X pins σ H5 s6 := I3.call' (ch := [it]) I6.os I6.base I6.hok I6.bare fun b hb => ⟨(fps b hb).1.2.2.2.1, (fps b hb).1.2.1, (fps b hb).1.2.2.2.2.1, (fps b hb).1.2.2.2.2.2⟩
      have nC : H5 s3.heap.objs.size = none := by rw [← cL]; exact I6.free
      obtain ⟨m, hn, _⟩ := I6.loc
      have hn : s6.heap.Ns ce.locals m := hn
      exact fin0 s6 m H5 I7 qq (by rw [← cL]; exact hn) (I3.fpOk (Nat.le_refl _) nC)
    · refine thnF (list_item_h (X := X.blk s3 H3 scope ce [it]) (tg := tg) (E := fun _ _ => False) I5 (stat I5 n5) st5 go) fun r s6 ⟨u, hr, h6⟩ => ?_
      subst hr
      refine thnF h6 fun _ s7 ⟨x, I7, r7, y7, st7⟩ => ?_
      have obj7 : ∀ b ∈ [it], ∃ o, s7.heap.get? b = some o ∧ ∀ v, o.data ≠ .cell v := fun b hb => by
        obtain rfl : b = it := by simpa using hb
        obtain ⟨o, e, _, d⟩ := id st7
        exact ⟨o, e, fun v z => by rw [d] at z; cases z⟩
      have I7' := I7.pinned (fp := [it]) (fun b hb => by obtain rfl : b = it := by simpa using hb
                                                         exact stat I7 n5) obj7
      refine thnF (pg.run _ s7 _ H5 x u _ I7' r7 (step x H5 y7)) fun _ s8 ⟨σ8, H8, I8, hw8, q8⟩ => ?_
      refine thnF (pt.run _ s8 σ8 H8 _ I8 q8) fun b s9 ⟨H9, I9, q9⟩ => ?_
      have fin : ∀ {s' : Shared} {H' : Hp}, Inv (X.blk s3 H3 scope ce [it]) ([] ++ pinsAt [it] s7.heap) σ8 H' s' → Nx H' → ∃ m, m < n ∧ ∃ i H', Inv (X.blk s3 H3 scope ce [it]) [] (wipe σ (own.map (·.2))) H' s' ∧ s'.heap.IsListIter it a i ∧ H' it = none ∧ W i m H' := fun {s' H'} J nx => by
        obtain ⟨m', hm, w'⟩ := hNx H' nx
        have pin' : ∀ o, s7.heap.get? it = some o → s'.heap.get? it = some o ∧ H' it = none := fun o e =>
          have z := J.pin (it, o) (List.mem_append_right _ (List.mem_append_right _ (mem_pinsAt (List.mem_singleton_self _) e)))
          ⟨z.1, z.2.1⟩
        have hl : (wipe σ (own.map (·.2))).length = σ8.length := by rw [← hw8, wipe_length]
        obtain ⟨o7, e7, _⟩ := id st7
        exact ⟨m', hm, i + 1, H', (J.unpinned (pins := [])).weak hl (fun j v e => by rw [← hw8] at e; exact (wipe_some e).1), st7.at fun o e => (pin' o e).1, (pin' o7 e7).2, w'⟩
      cases b with
      | false =>
        simp only [Bool.false_eq_true, if_false] at q9 ⊢
        exact fin I9 q9
      | true =>
        simp only [if_true] at q9 ⊢
        refine thnF (pe.run _ s9 σ8 H9 _ I9 q9) fun z s10 ⟨yv, H10, I10, r10, acc, hD10, hz10, nx⟩ => ?_
        exact app_ok (X := X.blk s3 H3 scope ce [it]) I10 hD10 hz10 r10 fun s11 I11 => fin I11 nx
  exact codeAny_compStart_list loop (wpAny_pyIter_listiter st4 loop)
end
end Cv

set_option Elab.async false
set_option linter.all false
set_option maxRecDepth 100000
set_option maxHeartbeats 2000000
/-! CvY: the def that tells which error came. -/
namespace Cv
open PySem PySem.Spec PyProof.Rows L2 HotX

/-! ### the pairs -/
inductive PairsAt (H : Hp) : List Addr → List (List Nat) → List Bool → Prop
  | nil : PairsAt H [] [] []
  | cons {a : Addr} {w : List Nat} {b : Bool} {as : List Addr} {ws : List (List Nat)} {bs : List Bool} (h : H a = some (.tup [.str ⟨w.toArray⟩, .bl b])) (r : PairsAt H as ws bs) : PairsAt H (a :: as) (w :: ws) (b :: bs)
theorem PairsAt.ext {H H' : Hp} {as : List Addr} {ws : List (List Nat)} {bs : List Bool} (e : ∀ b o, H b = some o → H' b = some o) (p : PairsAt H as ws bs) : PairsAt H' as ws bs := by
  induction p with
  | nil => exact .nil
  | cons h r ih => exact .cons (e _ _ h) ih
/-- the words that fit -/
def filt : List (List Nat) → List Bool → List (List Nat)
  | w :: ws, b :: bs => if b then w :: filt ws bs else filt ws bs
  | _, _ => []
theorem PairsAt.at {H : Hp} {as : List Addr} {ws : List (List Nat)} {bs : List Bool} (p : PairsAt H as ws bs) : ∀ i, i < as.length → ∃ a w b, as[i]? = some a ∧ H a = some (.tup [.str ⟨w.toArray⟩, .bl b]) ∧ filt (ws.drop i) (bs.drop i) = (if b then w :: filt (ws.drop (i + 1)) (bs.drop (i + 1)) else filt (ws.drop (i + 1)) (bs.drop (i + 1))) := by
  induction p with
  | nil => intro i hi; cases hi
  | cons h r ih =>
    intro i hi
    cases i with
    | zero => exact ⟨_, _, _, rfl, h, rfl⟩
    | succ i =>
      obtain ⟨a, w, b, h1, h2, h3⟩ := ih i (by simpa using hi)
      exact ⟨a, w, b, by simpa using h1, h2, h3⟩
theorem PairsAt.len {H : Hp} {as : List Addr} {ws : List (List Nat)} {bs : List Bool} (p : PairsAt H as ws bs) : ws.length = as.length ∧ bs.length = as.length := by
  induction p with
  | nil => exact ⟨rfl, rfl⟩
  | cons h r ih => exact ⟨congrArg Nat.succ ih.1, congrArg Nat.succ ih.2⟩
/-- which of the classes' tests hold of the class at D0 -/
inductive Fits (K : PySem.W.Frag) (mg : Str → Option Value) (D0 : Addr) : List (List Nat × Str) → List Bool → Prop
  | nil : Fits K mg D0 [] []
  | cons {w : List Nat × Str} {b : Bool} {ws : List (List Nat × Str)} {bs : List Bool} {cA : Addr} (h1 : mg w.2 = some (.ref cA)) (h2 : PySem.W.kitOne K (.ref D0) (.ref cA) = some b) (r : Fits K mg D0 ws bs) : Fits K mg D0 (w :: ws) (b :: bs)
def pairB (sc : Scope) (w : List Nat × Str) : PySem.Expr → Bool
  | .Tuple [.Constant (.str z) _ _, .Call (.Name f _) [.Name v _, .Name c _] [] _] _ _ => decide (z = ⟨w.1.toArray⟩) && decide (f = ("isinstance" : Str)) && decide (v = ("e" : Str)) && decide (c = w.2) && glB sc f && glB sc c
  | _ => false
def pairsB (sc : Scope) : List (List Nat × Str) → List PySem.Expr → Bool
  | [], [] => true
  | w :: ws, e :: es => pairB sc w e && pairsB sc ws es
  | _, _ => false
section
variable {X0 : Cx} {a D0 : Addr} {oe : Obj} {pn : List (Addr × Obj)}
/-- one pair's reading: a new tuple -/
theorem pe_pair (CE : ExcC X0.K D0) (hz : Zc (.ref D0) none oe) (hf : ∃ vs, oe.data = .fields vs) (hN : X0.N[1]? = some ("e" : Str)) (hl : X0.env.scope.names.lookup ("e" : Str) = some .local) (hm : X0.mg ("isinstance" : Str) = none)
    {w : List Nat × Str} {b : Bool} {cA : Addr} (h1 : X0.mg w.2 = some (.ref cA)) (h2 : PySem.W.kitOne X0.K (.ref D0) (.ref cA) = some b) {e : PySem.Expr} (he : pairB X0.env.scope w e = true) :
    PE (X0.suite a ((a, oe) :: pn)) e (fun σ H Q => σ[1]? = some (some (.ref a)) ∧ ∀ p, H p = none → Q (.ref p) (upd H p (.tup [.str ⟨w.1.toArray⟩, .bl b]))) := by
  unfold pairB at he
  split at he
  · rename_i z k1 p1 f p2 v p3 c p4 p5 k2 p6
    simp only [Bool.and_eq_true, decide_eq_true_eq] at he
    obtain ⟨⟨⟨⟨⟨rfl, rfl⟩, rfl⟩, rfl⟩, g1⟩, g2⟩ := he
    obtain ⟨l1, l2⟩ := good_gl (X := X0.suite a ((a, oe) :: pn)) g1
    obtain ⟨m1, m2⟩ := good_gl (X := X0.suite a ((a, oe) :: pn)) g2
    have pv : PE (X0.suite a ((a, oe) :: pn)) (.Name ("e" : Str) p3) (tVar 1) := pe_var hN (.inl hl)
    have pc : PE (X0.suite a ((a, oe) :: pn)) (.Name w.2 p4) (tC (.ref cA)) := pe_glob m1 h1 rfl m2
    refine PE.imp (pe_tup (pa_cons (pe_str (x := ⟨w.1.toArray⟩) (j := k1) (pos := p1)) (pa_cons (pe_callB (pos := p5) (p := p2) (call_isE CE hz hf) l1 hm (by decide +kernel) (pa_cons pv (pa_cons pc pa_nil))) pa_nil))) fun σ H Q ⟨q1, q2⟩ => ?_
    have hb := big_eq
    have hbv : big = 16777216 := rfl
    exact ⟨.ref a, q1, .ref cA, .ref cA, b, rfl, fun u r => r, h2, by show 2 ≤ sizeLine; omega, q2⟩
  · cases he
theorem pa_pairs (CE : ExcC X0.K D0) (hz : Zc (.ref D0) none oe) (hf : ∃ vs, oe.data = .fields vs) (hN : X0.N[1]? = some ("e" : Str)) (hl : X0.env.scope.names.lookup ("e" : Str) = some .local) (hm : X0.mg ("isinstance" : Str) = none)
    {ws : List (List Nat × Str)} {bs : List Bool} (ft : Fits X0.K X0.mg D0 ws bs) : ∀ {es : List PySem.Expr}, pairsB X0.env.scope ws es = true →
    PA (X0.suite a ((a, oe) :: pn)) es (fun σ H Q => σ[1]? = some (some (.ref a)) ∧ ∀ (as : List Addr) (H' : Hp), (∀ b o, H b = some o → H' b = some o) → PairsAt H' as (ws.map (·.1)) bs → Q (as.map V.ref) H') := by
  induction ft with
  | nil =>
    intro es he
    cases es with
    | nil => exact PA.imp pa_nil fun σ H Q ⟨q1, q2⟩ => q2 [] H (fun _ _ e => e) .nil
    | cons _ _ => cases he
  | cons h1 h2 r ih =>
    intro es he
    cases es with
    | nil => cases he
    | cons e es =>
      have he : (pairB X0.env.scope _ e && pairsB X0.env.scope _ es) = true := he
      rw [Bool.and_eq_true] at he
      have ns : notStar e = true := by
        cases e <;> first | rfl | (exfalso; exact Bool.noConfusion he.1)
      refine PA.imp (pa_cons (pe_pair CE hz hf hN hl hm h1 h2 he.1) (ih he.2) (starEach_cons ns)) fun σ H Q ⟨q1, q2⟩ => ?_
      refine ⟨q1, fun p hp => ⟨q1, fun as H' ext ps => ?_⟩⟩
      exact q2 (p :: as) H' (fun b o e => ext b o (by rw [upd_ne (ne_of_none e hp)]; exact e)) (.cons (ext p _ upd_same) ps)

/-! ### the except suite -/
def suiteB (sc : Scope) (ws : List (List Nat × Str)) (sep : List Nat) : List Stmt → Bool
  | [.Assign [.Name x0 _] (.List es _) _, .Return (some (.Call (.Attribute (.Constant (.str z) _ _) m ap) [.ListComp (.Name y0 _) [⟨.Tuple [.Name y1 _, .Name y2 _] _ _, .Name x1 _, [.Name y3 _], 0⟩] scope _] [] cp)) _] =>
    decide (x0 = ("pairs" : Str)) && decide (x1 = ("pairs" : Str)) && decide (y0 = ("word" : Str)) && decide (y1 = ("word" : Str)) && decide (y2 = ("is_so" : Str)) && decide (y3 = ("is_so" : Str)) && decide (m = ("join" : Str)) && decide (z = ⟨sep.toArray⟩) && (ap.endLine == cp.line) &&
    pairsB sc ws es && decide (sc.names.lookup ("pairs" : Str) = some .local) && blkC ["call", "e", "pairs", "word", "is_so"] sc scope [("word", 3), ("is_so", 4)] &&
    decide ((relS scope sc).names.lookup ("word" : Str) = some .local) && decide ((relS scope sc).names.lookup ("is_so" : Str) = some .local)
  | _ => false
/-- the told text -/
def toldW (sep : List Nat) : List (List Nat) → List Nat
  | [] => []
  | [w] => w
  | w :: ws => w ++ sep ++ toldW sep ws
theorem told_join (sep : List Nat) : ∀ ws : List (List Nat), Txt.join ⟨sep.toArray⟩ (ws.map fun w => ⟨w.toArray⟩) = ⟨(toldW sep ws).toArray⟩ := by
  intro ws
  rw [TL.join_eq]
  induction ws with
  | nil => rfl
  | cons w ws ih =>
    cases ws with
    | nil => rfl
    | cons v ws =>
      show (⟨w.toArray⟩ : Str) ++ ⟨sep.toArray⟩ ++ Str.join ⟨sep.toArray⟩ ((v :: ws).map fun w => ⟨w.toArray⟩) = _
      rw [ih, str_app, str_app]
      rfl
theorem filt_sum (n : Nat) : ∀ (ws : List (List Nat)) (bs : List Bool), (∀ w ∈ ws, w.length ≤ n) → ((filt ws bs).map List.length).sum ≤ (filt ws bs).length * n ∧ (filt ws bs).length ≤ ws.length
  | [], bs, _ => by cases bs <;> exact ⟨Nat.le_of_eq (by simp [filt]), Nat.zero_le _⟩
  | w :: ws, [], _ => ⟨by simp [filt], Nat.zero_le _⟩
  | w :: ws, b :: bs, h => by
    obtain ⟨h1, h2⟩ := filt_sum n ws bs fun v hv => h v (List.mem_cons_of_mem _ hv)
    have h3 := h w (List.mem_cons_self ..)
    cases b with
    | true =>
      show ((w :: filt ws bs).map List.length).sum ≤ (w :: filt ws bs).length * n ∧ (w :: filt ws bs).length ≤ (w :: ws).length
      simp only [List.map_cons, List.sum_cons, List.length_cons, Nat.add_mul, Nat.one_mul]
      omega
    | false =>
      show ((filt ws bs).map List.length).sum ≤ (filt ws bs).length * n ∧ (filt ws bs).length ≤ (w :: ws).length
      exact ⟨h1, Nat.le_succ_of_le h2⟩
abbrev NE : List Str := ["call", "e", "pairs", "word", "is_so"]
/-- what the suite makes of the error -/
def tSuite (a : Addr) (out : List Nat) : TS := fun D σ H => σ.length = 5 ∧ σ[1]? = some (some (.ref a)) ∧ ∀ H', (∀ b o, H b = some o → H' b = some o) → D.rt (.str ⟨out.toArray⟩) H'
theorem pss_suite (CE : ExcC X0.K D0) (hz : L2N.Zn (.ref D0) none oe) (hf : ∃ vs, oe.data = .fields vs) (hN : X0.N = NE) (hnd : X0.N.Nodup) (hl : X0.env.scope.names.lookup ("e" : Str) = some .local) (hm : X0.mg ("isinstance" : Str) = none)
    {ws : List (List Nat × Str)} {bs : List Bool} {sep : List Nat} (ft : Fits X0.K X0.mg D0 ws bs) (hw : ∀ w ∈ ws.map (·.1), w.length ≤ 1000) (hws : ws.length ≤ 1000) (hsep : sep.length ≤ 1000) {sts : List Stmt} (hs : suiteB X0.env.scope ws sep sts = true) :
    PSs (X0.suite a ((a, oe) :: pn)) sts (tSuite a (toldW sep (filt (ws.map (·.1)) bs))) := by
  unfold suiteB at hs
  split at hs
  · rename_i x0 p0 es p1 p2 z k1 p3 m ap y0 p4 y1 p5 y2 p6 k2 p7 x1 p8 y3 p9 scope p10 cp p11
    simp only [Bool.and_eq_true, decide_eq_true_eq] at hs
    obtain ⟨⟨⟨⟨⟨⟨⟨⟨⟨⟨⟨⟨⟨rfl, rfl⟩, rfl⟩, rfl⟩, rfl⟩, rfl⟩, rfl⟩, rfl⟩, hap⟩, hes⟩, hlp⟩, hblk⟩, hlw⟩, hli⟩ := hs
    have hN1 : ∀ (i : Nat) (x : Str), NE[i]? = some x → (X0.suite a ((a, oe) :: pn)).N[i]? = some x := fun i x e => by
      show X0.N[i]? = some x
      rw [hN]; exact e
    have hot : L2H.HotC (X0.suite a ((a, oe) :: pn)) := by
      obtain ⟨vs, hv⟩ := hf
      exact ⟨(a, oe), ⟨rfl, vs, hv, hz.2.2 vs hv⟩, List.mem_cons_self ..⟩
    have e1 := pe_lst (pos := p1) (pa_pairs (a := a) (pn := pn) CE hz.zc hf (hN1 1 _ rfl) hl hm ft hes)
    have hok : BlkOk (X0.suite a ((a, oe) :: pn)).N (X0.suite a ((a, oe) :: pn)).env.scope scope [(("word" : Str), 3), ("is_so", 4)] := by
      show BlkOk X0.N X0.env.scope scope _
      rw [hN]
      exact blkOk_by hblk
    have pw : ∀ (s : Shared) (H : Hp) (C : Addr) (cl : List (Str × Addr)) (fp : List Addr), PE ((X0.suite a ((a, oe) :: pn)).blk s H scope (compEnvC scope cl C (X0.suite a ((a, oe) :: pn)).env) fp) (.Name ("word" : Str) p4) (tVar 3) := fun s H C cl fp => pe_var (hN1 3 _ rfl) (.inl hlw)
    have pi : ∀ (s : Shared) (H : Hp) (C : Addr) (cl : List (Str × Addr)) (fp : List Addr), PE ((X0.suite a ((a, oe) :: pn)).blk s H scope (compEnvC scope cl C (X0.suite a ((a, oe) :: pn)).env) fp) (.Name ("is_so" : Str) p9) (tVar 4) := fun s H C cl fp => pe_var (hN1 4 _ rfl) (.inl hli)
    have hv2 : PE (X0.suite a ((a, oe) :: pn)) (.Name ("pairs" : Str) p8) (tVar 2) := pe_var (hN1 2 _ rfl) (.inl hlp)
    have e2 := pe_lcHot (pos := p10) (elt := .Name ("word" : Str) p4) (tg := .Tuple [.Name ("word" : Str) p5, .Name ("is_so" : Str) p6] k2 p7) (ifs := [.Name ("is_so" : Str) p9]) (g := gTup X0.K 2 (gCons (gName 3) (gCons (gName 4) gNil))) hot hnd hv2 hok
      (fun s H C cl fp hE => pg_tupH hE (pgs_cons (pg_name hnd (hN1 3 _ rfl) (.inl hlw) (.inr hlw)) (pgs_cons (pg_name hnd (hN1 4 _ rfl) (.inl hli) (.inr hli)) pgs_nil)) rfl rfl)
      (fun s H C cl fp => pts_one (pt_val (pi s H C cl fp))) pw (fun x => rfl)
    refine PSs.imp (pss_cons (ps_set (i := 2) (pos := p2) (pos' := p0) hnd (hN1 2 _ rfl) (.inl hlp) e1 (by rfl) (.inr hlp)) (pss_one (ps_ret (pos := p11) (pe_join (pos := cp) (apos := ap) (pe_str (x := ⟨sep.toArray⟩) (j := k1) (pos := p3)) e2 (by rfl) (by rfl) hap)))) fun D σ H ⟨hl5, h1, hQ⟩ => ?_
    have hb := big_eq
    have hbv : big = 16777216 := rfl
    refine ⟨h1, fun as H1 ext1 ps => ?_⟩
    obtain ⟨hn1, hn2⟩ := ps.len
    have hn3 : as.length ≤ 1000 := by rw [← hn1, List.length_map]; exact hws
    refine ⟨by rw [List.length_map]; omega, fun L hL => ?_⟩
    refine ⟨⟨_, rfl⟩, ?_⟩
    refine ⟨.ref L, List.getElem?_set_self (by omega), L, rfl, ⟨_, SqL.of upd_same⟩, fun D' hD' => ?_⟩
    have hLD : L ≠ D' := fun z => by rw [← z, upd_same] at hD'; cases hD'
    generalize hH2 : upd H1 L (.lst (as.map V.ref)) = H2 at hD'
    have hL2 : H2 L = some (.lst (as.map V.ref)) := by rw [← hH2]; exact upd_same
    have ps2 : PairsAt H2 as (ws.map (·.1)) bs := ps.ext fun b o e => by rw [← hH2, upd_ne (ne_of_none e hL)]; exact e
    refine ⟨fun i m H => m = as.length - i ∧ i ≤ as.length ∧ ∃ acc : List (List Nat), H D' = some (.lst (acc.map fun w => V.str ⟨w.toArray⟩)) ∧ acc ++ filt ((ws.map (·.1)).drop i) (bs.drop i) = filt (ws.map (·.1)) bs ∧ acc.length ≤ i ∧ (∀ b o, b ≠ D' → H2 b = some o → H b = some o),
      ⟨as.length, by simp, Nat.zero_le _, [], upd_same, rfl, Nat.le_refl _, fun b o hb e => by rw [upd_ne hb]; exact e⟩, ?_⟩
    rintro i m H3 ⟨rfl, hi, acc, hD3, hacc, hal, hext⟩
    have hL3 : H3 L = some (.lst (as.map V.ref)) := hext L _ hLD hL2
    by_cases hlt : i < as.length
    · refine .inr ⟨⟨as.map V.ref, V.ref as[i], SqL.of hL3, by rw [List.getElem?_map, List.getElem?_eq_getElem hlt]; rfl⟩, ?_⟩
      refine ⟨fun H' => as.length - (i + 1) = as.length - (i + 1) ∧ i + 1 ≤ as.length ∧ ∃ acc : List (List Nat), H' D' = some (.lst (acc.map fun w => V.str ⟨w.toArray⟩)) ∧ acc ++ filt ((ws.map (·.1)).drop (i + 1)) (bs.drop (i + 1)) = filt (ws.map (·.1)) bs ∧ acc.length ≤ i + 1 ∧ (∀ b o, b ≠ D' → H2 b = some o → H' b = some o),
        fun H' z => ⟨as.length - (i + 1), by omega, z⟩, fun x H' y => ?_⟩
      obtain ⟨rfl, hx⟩ := y
      obtain ⟨ai, w, b, g1, g2, g3⟩ := ps2.at i hlt
      have hxa : x = V.ref ai := by
        have := hx _ (SqL.of hL3)
        rw [List.getElem?_map, g1] at this
        exact (Option.some.inj this).symm
      subst hxa
      have haD : ai ≠ D' := fun z => by rw [z, hD'] at g2; cases g2
      refine ⟨ai, _, rfl, SqT.of (hext ai _ haD g2), rfl, _, _, rfl, _, _, rfl, rfl, ?_⟩
      have hwl : ∀ vs, (L2.wipe (σ.set 2 (some (V.ref L))) vs).length = 5 := fun vs => by rw [wipe_length, List.length_set]; exact hl5
      refine ⟨wipe_same (by rw [List.length_set, List.length_set, hwl, List.length_set]; exact hl5.symm) fun j hj => ?_, ?_⟩
      · rw [List.getElem?_set_ne (fun z => hj (by rw [← z]; simp)), List.getElem?_set_ne (fun z => hj (by rw [← z]; simp))]
      · refine ⟨.bl b, List.getElem?_set_self (by rw [List.length_set, hwl]; decide), b, rfl, ?_⟩
        cases b with
        | true =>
          rw [if_pos rfl]
          rw [if_pos rfl] at g3
          refine ⟨.str ⟨w.toArray⟩, ?_, _, hD3, by rw [List.length_map]; omega, rfl, hlt, acc ++ [w], ?_, ?_, ?_, fun b o hb e => ?_⟩
          · rw [List.getElem?_set_ne (by decide), List.getElem?_set_self (by rw [hwl]; decide)]
          · rw [upd_same, List.map_append]; rfl
          · rw [List.append_assoc, ← hacc, g3]; rfl
          · rw [List.length_append]; simp; omega
          · rw [upd_ne hb]; exact hext b o hb e
        | false =>
          rw [if_neg Bool.false_ne_true]
          rw [if_neg Bool.false_ne_true] at g3
          exact ⟨rfl, hlt, acc, hD3, by rw [← g3]; exact hacc, Nat.le_succ_of_le hal, hext⟩
    · refine .inl ⟨⟨as.map V.ref, SqL.of hL3, by rw [List.length_map]; omega⟩, ?_⟩
      have hd0 : filt ((ws.map (·.1)).drop i) (bs.drop i) = [] := by
        rw [List.drop_eq_nil_of_le (by omega)]
        cases bs.drop i <;> rfl
      rw [hd0, List.append_nil] at hacc
      obtain ⟨f1, f2⟩ := filt_sum 1000 (ws.map (·.1)) bs hw
      rw [List.length_map] at f2
      refine ⟨_, D', acc.map fun w => ⟨w.toArray⟩, rfl, rfl, .inl (SqL.of (by rw [hD3, List.map_map]; rfl)), ?_, ?_⟩
      · rw [hacc, List.map_map, List.length_map]
        have e : (List.map (Str.length ∘ fun w : List Nat => (⟨w.toArray⟩ : Str)) (filt (ws.map (·.1)) bs)) = (filt (ws.map (·.1)) bs).map List.length := List.map_congr_left fun w _ => str_len w
        rw [e, str_len]
        have m1 : (filt (ws.map (·.1)) bs).length * 1000 ≤ 1000 * 1000 := Nat.mul_le_mul_right 1000 (by omega)
        have m2 : (filt (ws.map (·.1)) bs).length * sep.length ≤ 1000 * 1000 := Nat.mul_le_mul (by omega) hsep
        omega
      · rw [told_join, hacc]
        refine hQ H3 fun b o e => ?_
        have e2 : H2 b = some o := by rw [← hH2, upd_ne (ne_of_none (ext1 b o e) hL)]; exact ext1 b o e
        exact hext b o (fun z => by rw [z, hD'] at e2; cases e2) e2
  · cases hs
end
end Cv

set_option Elab.async false
set_option linter.all false
set_option maxRecDepth 100000
set_option maxHeartbeats 2000000
/-! CvZ: errors told. -/
namespace Cv
open PySem PySem.Spec PyProof.Rows L2 HotX

def strNone : List Nat := [110, 111, 110, 101]
def errB (sc : Scope) (ws : List (List Nat × Str)) (sep : List Nat) : List Stmt → Bool
  | [.Try [.Expr (.Call (.Name x0 _) [] [] _) _] [.ExceptHandler (some (.Name x1 _)) (some x2) (b0 :: su) _] [] [] _, .Return (some (.Constant (.str z) _ _)) _] =>
    decide (x0 = ("call" : Str)) && decide (x1 = ("TripleError" : Str)) && decide (x2 = ("e" : Str)) && decide (z = ⟨strNone.toArray⟩) && suiteB sc ws sep (b0 :: su) && decide (sc.names.lookup ("e" : Str) = some .local) && glB sc "TripleError" && visB sc "call"
  | _ => false
/-- the classes' errors, as the taker tells them -/
def EH (K : PySem.W.Frag) (mg : Str → Option Value) (ws : List (List Nat × Str)) (sep : List Nat) (cT : Addr) (Q : VK) : XK := fun cls d H' => ∃ (D0 : Addr) (bs : List Bool), cls = .ref D0 ∧ d = none ∧ ExcC K D0 ∧ Fits K mg D0 ws bs ∧ PySem.W.exmOne K (.ref D0) (.ref cT) = some true ∧
  ∀ H'', (∀ b o, H' b = some o → H'' b = some o) → Q (.str ⟨(toldW sep (filt (ws.map (·.1)) bs)).toArray⟩) H''
abbrev TTe (K : PySem.W.Frag) (mg : Str → Option Value) (ws : List (List Nat × Str)) (sep : List Nat) (cT : Addr) : (XK → Hp → VK → Prop) → Hp → VK → Prop := fun tl H Q => tl (EH K mg ws sep cT Q) H fun _ H' => Q (.str ⟨strNone.toArray⟩) H'
theorem takes_len {X : Cx} {W : WX} (t : L2N.Takes X W) : L2N.Takes X fun cls d σ H => σ.length = X.N.length → W cls d σ H := fun u s' ⟨a, B, sI, pins, σ, H, cls, d, e, I, nb, up, sky, na, os, ag, w⟩ => t u s' ⟨a, B, sI, pins, σ, H, cls, d, e, I, nb, up, sky, na, os, ag, w I.len⟩
theorem taken_err {X : Cx} {g : Addr} {cdg : Value} {sg : Scope} {bg : List Stmt} {q : Str} {ws : List (List Nat × Str)} {sep : List Nat} {cT : Addr} (hb : errB sg ws sep bg = true) (hT : X.mg ("TripleError" : Str) = some (.ref cT)) (hm : X.mg ("isinstance" : Str) = none)
    (hw : ∀ w ∈ ws.map (·.1), w.length ≤ 1000) (hws : ws.length ≤ 1000) (hsep : sep.length ≤ 1000) : Taken X NE "_law_error" sg g cdg bg "call" q (TTe X.K X.mg ws sep cT) := by
  intro f c' s H Q tl _ hact hco htl
  unfold errB at hb
  split at hb
  · rename_i x0 p0 p1 p2 x1 p3 x2 b0 su p4 p5 z k1 p6 p7
    simp only [Bool.and_eq_true, decide_eq_true_eq] at hb
    obtain ⟨⟨⟨⟨⟨⟨⟨rfl, rfl⟩, rfl⟩, rfl⟩, hsu⟩, hle⟩, hgt⟩, hvc⟩ := hb
    generalize hX0 : (takerCx C8.CX0 X NE "_law_error" sg g cdg s H C8.E0).nox = X0
    have hnd : X0.N.Nodup := by rw [← hX0]; show NE.Nodup; decide
    have hN : X0.N = NE := by rw [← hX0]; rfl
    have hsc : X0.env.scope = sg := by rw [← hX0]; rfl
    have hmg : X0.mg = X.mg := by rw [← hX0]; rfl
    have hK : X0.K = X.K := by rw [← hX0]; rfl
    have hstk : X0.stack = X0.env :: X0.outer := by rw [← hX0]; rfl
    have hfr : X0.env.frame = some X0.env.locals := by rw [← hX0]; rfl
    have hgl := good_gl (X := X0) (x := ("TripleError" : Str)) (by rw [hsc]; exact hgt)
    have body : ∀ (W : WX) (pn : List (Addr × Obj)) (xe : Value → Shared → Prop), L2N.Takes (X0.tr pn xe) W → PassesOwn (model X0.prog X0.w) X0.A X0.env xe → PSs (X0.tr pn xe) [.Expr (.Call (.Name ("call" : Str) p0) [] [] p1) p2]
        (fun D σ H1 => ∃ E : XK, (∀ cls d σ' H', σ'.length = 5 → E cls d H' → W cls d σ' H') ∧ actT 0 f c' q (tl E) σ H1 (fun _ H2 => D.nx σ H2)) := by
      subst hX0
      intro W pn xe tk _
      refine ⟨fun pins t σ H1 D I ⟨E, hE, z⟩ => ?_⟩
      have pe := hact (fun cls d σ H => σ.length = 5 → W cls d σ H) pn xe E p0 p1 (takes_len tk) fun cls d σ' H' e l => hE cls d σ' H' l e
      exact (pss_one (ps_expr (pos := p2) pe (by rfl))).run pins t σ H1 D I z
    have main := L2N.ps_try_as (X := X0) (x := ("TripleError" : Str)) (n := ("e" : Str)) (c := .ref cT) (i := 1) (np := p3) (pos' := p4) (pos := p5) (Wout := fun _ _ _ _ => False)
      (ts := fun a cls d D σ H1 => ∃ (D0 : Addr) (bs : List Bool), cls = .ref D0 ∧ d = none ∧ ExcC X0.K D0 ∧ Fits X0.K X0.mg D0 ws bs ∧ tSuite a (toldW sep (filt (ws.map (·.1)) bs)) D σ H1)
      hstk hfr hnd (by rw [hN]; rfl) (by show X0.env.scope.names.lookup _ = _; rw [hsc]; exact hle) ⟨hgl.1, hgl.2, .inl (by rw [hmg]; exact hT)⟩ takesNone body
      (fun a oe cls d pn hz hf => ⟨fun pins t σ H1 D I ⟨D0, bs, e1, e2, CE, ft, z⟩ => by
        subst e1 e2
        exact (pss_suite CE hz hf hN hnd (by rw [hsc]; exact hle) (by rw [hmg]; exact hm) ft hw hws hsep (by rw [hsc]; exact hsu)).run pins t σ H1 D I z⟩)
    refine ⟨_, pss_cons main (pss_one (ps_ret (pos := p7) (pe_str (x := ⟨strNone.toArray⟩) (j := k1) (pos := p6)))), ?_⟩
    refine ⟨EH X.K X.mg ws sep cT Q, fun cls d σ' H' hl ⟨D0, bs, e1, e2, CE, ft, ex, hQ⟩ => ?_, rfl, hco, htl⟩
    subst e1 e2
    refine ⟨true, by rw [hK]; exact ex, fun _ a ha => ⟨D0, bs, rfl, rfl, by rw [hK]; exact CE, by rw [hK, hmg]; exact ft, by rw [List.length_set]; exact hl, List.getElem?_set_self (by omega), fun H'' ext => hQ H'' ext⟩, fun z => by cases z⟩
  · cases hb
end Cv

set_option Elab.async false
set_option linter.all false
set_option maxRecDepth 100000
set_option maxHeartbeats 2000000
/-! CwA: the error's node is sound. -/
namespace Cv
open PySem PySem.Spec PyProof.Rows L2 HotX

/-- what is known of the def that tells errors, and of the classes -/
structure ErF (K : PySem.W.Frag) (mg : Str → Option Value) (ca : Nat → Value) (h : Nat → Option Int → Option PV) (ge : Addr) (params : Arguments) (body : List Stmt) (scope : Scope) (ws : List (List Nat × Str)) (sep : List Nat) (cT : Addr) : Prop where
  gm : mg "_law_error" = some (.ref ge)
  fn : ∃ fd, FunD K "_law_error" "_law_error" params body scope [] [] ge fd ∧ Binds K fd ["call"] []
  sc : FnScope NE ["call"] scope
  ok : errB scope ws sep body = true
  tr : mg "TripleError" = some (.ref cT)
  is : mg "isinstance" = none
  w1 : ∀ w ∈ ws.map (·.1), w.length ≤ 1000
  w2 : ws.length ≤ 1000
  w3 : sep.length ≤ 1000
  hs : ∀ i p s, h i p = some s → ∃ (D0 : Addr) (bs : List Bool), ca i = .ref D0 ∧ p = none ∧ ExcC K D0 ∧ Fits K mg D0 ws bs ∧ PySem.W.exmOne K (.ref D0) (.ref cT) = some true ∧ s = .str (toldW sep (filt (ws.map (·.1)) bs))
/-- where an error may be told -/
structure ErP (P : Program) (w : World) (K : PySem.W.Frag) (mg : Str → Option Value) (base : Heap) (h : Nat → Option Int → Option PV) (g : GI) (X : Cx) (cl : Calls) : Prop where
  pr : X.prog = P
  wd : X.w = w
  k : X.K = K
  m : X.mg = mg
  bs : X.base = base
  hh : cl.h = h
  room : ∃ k, Room (k + 2) X.A ∧ ∀ i, i < cl.n → ∃ (fd : FuncData) (ps : List Str), FnOk P w K mg base (L2N.CX P w) k (g.fa i) fd ps (spF K g (cl.d i) ps.length) ∧ Binds K fd ps [] ∧ PySem.W.keepIn K (.ref (g.fa i)) = true ∧ ∀ xs c, xs.length ≠ ps.length → cl.d i xs c = .bad
  code : ∃ c T, X.env.code = .ref c ∧ LamX.TabB base mg c T ∧ (T, X.env.qual ++ "<lambda>") ∈ g.T ∧ ∀ p ∈ g.T, p.1 = T → p.2 = X.env.qual ++ "<lambda>"
section
variable {P : Program} {w : World} {K : PySem.W.Frag} {mg : Str → Option Value} {base : Heap} {h : Nat → Option Int → Option PV} {g : GI} {ge : Addr} {params : Arguments} {body : List Stmt} {scope : Scope} {ws : List (List Nat × Str)} {sep : List Nat} {cT : Addr}
theorem erP_blk (X : Cx) (cl : Calls) (s : Shared) (H : Hp) (scope : Scope) (D : Addr) (cells : List (Str × Addr)) (fp : List Addr) (e : ErP P w K mg base h g X cl) : ErP P w K mg base h g (X.blk s H scope (compEnvC scope cells D X.env) fp) cl :=
  ⟨e.pr, e.wd, e.k, e.m, e.bs, e.hh, e.room, e.code⟩
theorem Good0.lamN {X : Cx} {C : Ctx} {E E' : XK} {cl : Calls} {A : Around} {outer : List PySem.Env} {s : Shared} {H : Hp} {sc : Scope} {f c' : Addr} {k : Nat} (G : Good0 X C g E cl) (e : ErP P w K mg base h g X cl)
    (hd : ∀ i, i < cl.n → ∃ (fd : FuncData) (ps : List Str), FnOk P w K mg base (L2N.CX P w) k (g.fa i) fd ps (spF K g (cl.d i) ps.length) ∧ Binds K fd ps [] ∧ PySem.W.keepIn K (.ref (g.fa i)) = true ∧ ∀ xs c, xs.length ≠ ps.length → cl.d i xs c = .bad)
    (hr : Room k (A.deeper (LamX.lamEnv X sc s.heap.objs.size f c'))) : Good0 (Cv.lamN X A outer s H E' sc f c') C g E' cl.lam := by
  obtain ⟨rfl, rfl, rfl, rfl, rfl, _, _, _⟩ := e
  refine ⟨G.N, G.nd, rfl, L2N.takes_of (X := Cv.lamN X A outer s H E' sc f c') rfl rfl rfl rfl, ?_, G.bl, G.fns, G.csts, G.excs, G.gcd, fun i hi => ?_⟩
  · have := hr.un
    show (A.deeper (LamX.lamEnv X sc s.heap.objs.size f c')).units + 66 < cLine
    omega
  · obtain ⟨fd, ps, h1, h2, h3, h4⟩ := hd i hi
    exact ⟨k, fd, ps, h1, hr, h2, h3, h4⟩
theorem err_ok (F : ErF K mg g.ca h ge params body scope ws sep cT) {C : Ctx} (hgx : ∀ x, C.gl.lookup x = some .err → x = "_law_error") : ∀ (X : Cx) (E : XK) (cl : Calls), Good0 X C g E cl → ErP P w K mg base h g X cl → ErrOk X C g E cl := by
  intro X E cl G e b x p lpos pos ps lb lscope raw hgl hdb hx hpe hlam hb
  have e0 := e
  obtain ⟨rfl, rfl, rfl, rfl, rfl, rfl, ⟨k, hr, hd⟩, ⟨c, T, hcode, TB, hmT, hu⟩⟩ := e
  obtain ⟨fd, FD, Bd⟩ := F.fn
  obtain ⟨oc, od, dV, kV, doc, pm, an, cdv, ct, osl, rfl, lk, hcd, _, _⟩ := FD.ex
  have hxe := hgx x hx
  subst hxe
  obtain ⟨pa, aa, va, ka, kd, kw, df⟩ := ps
  unfold emptyArgs at hpe
  simp only [Bool.and_eq_true, List.isEmpty_iff, Option.isNone_iff_eq_none] at hpe
  obtain ⟨⟨⟨⟨⟨⟨rfl, rfl⟩, rfl⟩, rfl⟩, rfl⟩, rfl⟩, rfl⟩ := hpe
  have hcl : (F.sc.par "call" (List.mem_singleton_self _)) = F.sc.par "call" (List.mem_singleton_self _) := rfl
  have hva : Vis scope ("call" : Str) := (F.sc.par "call" (List.mem_singleton_self _)).elim (fun z => .inl z) fun z => .inr (.inl z)
  have main := pe_lamN (X := X) (params := ⟨[], [], none, [], [], none, []⟩) (body := lb) (scope := lscope) (T := g.T) (p := p) (lpos := lpos) (pos := pos) (k := k) (t := fun E' => tE X.K g E' true (sem b cl.lam).e) hgl F.gm FD.kp lk hcd Bd F.sc rfl hva (taken_err F.ok F.tr F.is F.w1 F.w2 F.w3) TB hcode hmT hu hr (LamX.lamS_by hlam) (by rfl) (fun q cl pm cv ctv => by rfl)
    (fun A outer s H E' f c' hr2 => hb (lamN X A outer s H E' lscope f c') E' (Good0.lamN G e0 hd hr2) rfl rfl) hdb (by decide) (by decide)
  refine PE.imp main fun σ H Q ⟨ow, env, cc, st, q⟩ => ⟨st.hs.2, fun H1 ext tb => ?_⟩
  have k1 : Kp g H H1 := fun b o e1 _ n => ext b o e1 n
  have hs1 : Hs g cc H1 := ⟨ext _ _ st.hs.1 (fun ps z => by cases z), tb⟩
  refine ⟨ow, env, cc, st.kp k1 hs1, ?_⟩
  have q : Out g E H (if cl.r then (match (sem b cl.lam).e env cc with
    | .ok _ c' => .ok (.str strNone) c'
    | .exc i p c' => (match cl.h i p with
      | some s => .ok s c'
      | none => .bad)
    | .bad => .bad) else .bad) (fun r _ H' => ∀ v, RepM X.K g raw ow H' r v → Q v H') := q
  split at q
  · cases em : (sem b cl.lam).e env cc with
    | ok r c' =>
      rw [em] at q
      exact fun H' k2 hs2 v _ => q H' (k1.trans k2) hs2 _ (.inl (.str _))
    | exc i p c' =>
      rw [em] at q
      intro H' k2 hs2
      have q : Out g E H (match cl.h i p with
        | some s => .ok s c'
        | none => .bad) (fun r _ H' => ∀ v, RepM X.K g raw ow H' r v → Q v H') := q
      cases eh : cl.h i p with
      | none => rw [eh] at q; exact False.elim q
      | some s =>
        rw [eh] at q
        obtain ⟨D0, bs, h1, rfl, h3, h4, h5, rfl⟩ := F.hs i p s eh
        show EH X.K X.mg ws sep cT Q (g.ca i) none H'
        refine ⟨D0, bs, h1, rfl, h3, h4, h5, fun H'' ext2 => ?_⟩
        have k3 : Kp g H' H'' := fun b o e1 _ _ => ext2 b o e1
        exact q H'' ((k1.trans k2).trans k3) ⟨ext2 _ _ hs2.1, hs2.2.ext ext2⟩ _ (.inl (.str _))
    | bad => rw [em] at q; exact False.elim q
  · exact False.elim q
end
end Cv

set_option Elab.async false
set_option linter.all false
set_option maxRecDepth 100000
set_option maxHeartbeats 2000000
/-! CwB: from the head's facts to the law's promise. -/
namespace Cv
open PySem PySem.Spec PyProof.Rows L2 HotX

/-- how the law's errors are told: words by classes, which fit by class -/
structure Er where
  ws : List (List Nat × Str)
  sep : List Nat
  bs : List (List Bool)
def Er.h (e : Er) : Nat → Option Int → Option PV := fun i p => match p with
  | some _ => none
  | none => (e.bs[i]?).map fun b => .str (toldW e.sep (filt (e.ws.map (·.1)) b))
def excCB (K : PySem.W.Frag) (D : Addr) : Bool :=
  decide (PySem.W.findIn K (.ref D) "__getattribute__" = some (some (.builtin "BaseException.__getattribute__"))) && decide (PySem.W.findIn K (.ref D) "__getattr__" = some none) && decide (PySem.W.subIn K (.ref D) (.type "BaseException") = some true) && PySem.W.hasDictIn K D &&
  decide (PySem.W.findIn K (.ref D) "__class__" = some (some (.builtin "object.__class__"))) && decide (PySem.W.specialIn K (.builtin "object.__class__") "__get__" = some (some (.builtin "getset_descriptor.__get__"))) && decide (PySem.W.takesIn K (.builtin "object.__class__") = some true) && decide (PySem.W.mroIn K D (.type "object") = some true)
theorem excCB_ok {K : PySem.W.Frag} {D : Addr} (h : excCB K D = true) : ExcC K D := by
  unfold excCB at h
  simp only [Bool.and_eq_true, decide_eq_true_eq] at h
  obtain ⟨⟨⟨⟨⟨⟨⟨h1, h2⟩, h3⟩, h4⟩, h5⟩, h6⟩, h7⟩, h8⟩ := h
  exact ⟨h1, h2, h3, h4, h5, h6, h7, h8⟩
def fitsB (K : PySem.W.Frag) (D : Addr) : List (List Nat × Str) → List Bool → Bool
  | [], [] => true
  | w :: ws, b :: bs => decide (PySem.W.kitOne K (.ref D) (.ref (He.ga K w.2)) = some b) && fitsB K D ws bs
  | _, _ => false
theorem fitsB_ok {K : PySem.W.Frag} {mg : Str → Option Value} {D : Addr} : ∀ {ws : List (List Nat × Str)} {bs : List Bool}, (∀ w ∈ ws, mg w.2 = some (.ref (He.ga K w.2))) → fitsB K D ws bs = true → Fits K mg D ws bs
  | [], [], _, _ => .nil
  | w :: ws, b :: bs, hm, h => by
    have h : (decide (PySem.W.kitOne K (.ref D) (.ref (He.ga K w.2)) = some b) && fitsB K D ws bs) = true := h
    rw [Bool.and_eq_true, decide_eq_true_eq] at h
    exact .cons (hm w (List.mem_cons_self ..)) h.1 (fitsB_ok (fun v hv => hm v (List.mem_cons_of_mem _ hv)) h.2)
def clsB (K : PySem.W.Frag) (ws : List (List Nat × Str)) : List Str → List (List Bool) → Bool
  | [], [] => true
  | x :: xs, b :: bs => excCB K (He.ga K x) && decide (PySem.W.exmOne K (.ref (He.ga K x)) (.ref (He.ga K "TripleError")) = some true) && fitsB K (He.ga K x) ws b && clsB K ws xs bs
  | _, _ => false
theorem clsB_ok {K : PySem.W.Frag} {ws : List (List Nat × Str)} : ∀ {xs : List Str} {bs : List (List Bool)}, clsB K ws xs bs = true → ∀ (i : Nat) (b : List Bool), bs[i]? = some b → ∃ x, xs[i]? = some x ∧ excCB K (He.ga K x) = true ∧ PySem.W.exmOne K (.ref (He.ga K x)) (.ref (He.ga K "TripleError")) = some true ∧ fitsB K (He.ga K x) ws b = true
  | [], [], _, i, b, e => by cases e
  | x :: xs, c :: bs, h, i, b, e => by
    have h : (excCB K (He.ga K x) && decide (PySem.W.exmOne K (.ref (He.ga K x)) (.ref (He.ga K "TripleError")) = some true) && fitsB K (He.ga K x) ws c && clsB K ws xs bs) = true := h
    simp only [Bool.and_eq_true, decide_eq_true_eq] at h
    obtain ⟨⟨⟨h1, h2⟩, h3⟩, h4⟩ := h
    cases i with
    | zero => cases e; exact ⟨x, rfl, h1, h2, h3⟩
    | succ i => exact clsB_ok h4 i b e
/-- all defs that may make lambdas -/
def Pd.all (p : Pd) : List Df := p.L ++ [p.law]
def Pd.tfs (p : Pd) : List He.Defn := p.all.map fun d => (d.x, none)
def Pd.fa2 (p : Pd) : List He.Fa := p.fa ++ [.free "isinstance"]
def Pd.ex2 (p : Pd) (e : Er) (K : PySem.W.Frag) : Bool := p.ex K && clsB K e.ws p.exn e.bs && decide ((p.tfs.map fun x => (He.cT K x).2).Nodup)
def Pd.T (p : Pd) (K : PySem.W.Frag) : List (Addr × Str) := p.all.map fun d => ((He.cT K (d.x, none)).2, d.qual ++ ".<locals>." ++ "<lambda>")
def Pd.ok2 (p : Pd) (e : Er) : Bool := p.okB && (e.ws.all fun w => p.exn.contains w.2 && decide (w.1.length ≤ 1000)) && decide (e.ws.length ≤ 1000) && decide (e.sep.length ≤ 1000) && p.exn.contains "TripleError" &&
  decide (p.cup.x = "_law_cup") && decide (p.cup.N = (["script", "cell"] : List Str)) && decide (p.cup.ps = (["script"] : List Str)) && decide (p.err.x = "_law_error") && decide (p.err.qual = "_law_error") && decide (p.err.N = NE) && decide (p.err.ps = (["call"] : List Str)) && decide (p.law.x = "law") &&
  isCupBody p.cup.scope p.cup.body && errB p.err.scope e.ws e.sep p.err.body
def scopeB (d : Df) : Bool := decide (d.scope.kind = .function) && !d.scope.isCoroutine && !d.scope.isGenerator && decide d.N.Nodup && decide (d.N.take d.ps.length = d.ps) &&
    d.ps.all (fun x => decide (d.scope.names.lookup x = some .local) || decide (d.scope.names.lookup x = some .cell)) && d.scope.names.all (fun y => !decide (y.2 = .free))
theorem scopeB_ok {d : Df} (h : scopeB d = true) : FnScope d.N d.ps d.scope := by
  unfold scopeB at h
  simp only [Bool.and_eq_true, Bool.or_eq_true, Bool.not_eq_true', decide_eq_true_eq, decide_eq_false_iff_not, List.all_eq_true] at h
  obtain ⟨⟨⟨⟨⟨⟨h2, h3⟩, h4⟩, h5⟩, h6⟩, h7⟩, h8⟩ := h
  exact ⟨h2, h3, h4, h5, h6, h7, h8⟩
end Cv

set_option Elab.async false
set_option linter.all false
set_option maxRecDepth 100000
set_option maxHeartbeats 2000000
/-! CwC: the law's promise at the head's heap. -/
namespace Cv
open PySem PySem.Spec PyProof.Rows L2 HotX

theorem inj_on {α β : Type} {f : α → β} : ∀ {l : List α}, (l.map f).Nodup → ∀ {x y : α}, x ∈ l → y ∈ l → f x = f y → x = y
  | [], _, _, _, hx, _, _ => by cases hx
  | a :: l, hn, x, y, hx, hy, hxy => by
    have hn : (f a :: l.map f).Nodup := hn
    rw [List.nodup_cons] at hn
    rcases List.mem_cons.mp hx with h1 | h1
    · rcases List.mem_cons.mp hy with h2 | h2
      · rw [h1, h2]
      · exact absurd (List.mem_map.mpr ⟨y, h2, by rw [← hxy, h1]⟩) hn.1
    · rcases List.mem_cons.mp hy with h2 | h2
      · exact absurd (List.mem_map.mpr ⟨x, h1, by rw [hxy, h2]⟩) hn.1
      · exact inj_on hn.2 h1 h2 hxy
section
variable {p : Pd} {e : Er} {P : Program} {w : World} {K : PySem.W.Frag} {mg : Str → Option Value} {h base : Heap}
theorem code_at (S : He.SaysX p.fa2 p.fn [] p.tfs (p.ex2 e) w h K) (TB : ∀ q ∈ p.tfs.map (He.cT K), LamX.TabB base mg q.1 q.2) {d : Df} (hd : d ∈ p.all) {cdv : Value} {f : Addr} (hf : f = He.ga K d.x) {oc : Value} {od : Option Addr} {dV kV doc pm : Value} {an : Option Addr} {ct : Value} {osl : Array (Option Value)}
    (lk : K.lookup f = some ⟨oc, od, .func (PySem.W.fnOf d.x d.qual d.params d.body d.scope dV kV doc pm an cdv ct), osl⟩) (hmem : d.dd ∈ p.fn) (hnd : ((p.tfs.map fun x => (He.cT K x).2).Nodup)) :
    ∃ c T, cdv = .ref c ∧ LamX.TabB base mg c T ∧ (T, (d.qual ++ ".<locals>.") ++ "<lambda>") ∈ p.T K ∧ ∀ q ∈ p.T K, q.1 = T → q.2 = (d.qual ++ ".<locals>.") ++ "<lambda>" := by
  subst hf
  obtain ⟨fd, F⟩ := S.t.d.defs hmem
  obtain ⟨oc2, od2, dV2, kV2, doc2, pm2, an2, cdv2, ct2, osl2, rfl, lk2, hcd, _, _⟩ := F.ex
  have lk2 : K.lookup (He.ga K d.x) = some ⟨oc2, od2, .func (PySem.W.fnOf d.x d.qual d.params d.body d.scope dV2 kV2 doc2 pm2 an2 cdv2 ct2), osl2⟩ := lk2
  rw [lk] at lk2
  have hc : cdv = cdv2 := by
    have z := Option.some.inj lk2
    have z2 : Data.func (PySem.W.fnOf d.x d.qual d.params d.body d.scope dV kV doc pm an cdv ct) = Data.func (PySem.W.fnOf d.x d.qual d.params d.body d.scope dV2 kV2 doc2 pm2 an2 cdv2 ct2) := congrArg Obj.data z
    have z3 := Data.func.inj z2
    exact congrArg FuncData.code z3
  obtain ⟨c, hcr⟩ := He.codeIn_ref hcd
  rw [← hc] at hcr
  have e1 : He.codeOf K (d.x, none) = c := He.codeOf_eq (p := (d.x, none)) lk hcr
  have hm : (d.x, (none : Option Str)) ∈ p.tfs := List.mem_map.mpr ⟨d, hd, rfl⟩
  refine ⟨c, (He.cT K (d.x, none)).2, hcr, ?_, List.mem_map.mpr ⟨d, hd, rfl⟩, fun q hq hqT => ?_⟩
  · have := TB _ (List.mem_map.mpr ⟨_, hm, rfl⟩)
    rw [← e1]
    exact this
  · obtain ⟨d', hd', rfl⟩ := List.mem_map.mp hq
    have hT : (He.cT K (d'.x, none)).2 = (He.cT K (d.x, none)).2 := hqT
    have hdd : d' = d := by
      unfold Pd.tfs at hnd
      rw [List.map_map] at hnd
      exact inj_on hnd hd' hd hT
    rw [hdd]
theorem erF_of (ok : p.ok2 e = true) (herr : scopeB p.err = true) (hbe : BindOk p.err) (X : K.In h) (G : h.Ns mainGlobals mg) (S : He.SaysX p.fa2 p.fn [] p.tfs (p.ex2 e) w h K) (fld : Nat → Str) (T : List (Addr × Str)) (c : Addr) :
    ErF K mg (p.gi K fld T c).ca e.h (He.ga K "_law_error") p.err.params p.err.body p.err.scope e.ws e.sep (He.ga K "TripleError") := by
  unfold Pd.ok2 at ok
  simp only [Bool.and_eq_true, decide_eq_true_eq, List.all_eq_true] at ok
  obtain ⟨⟨⟨⟨⟨⟨⟨⟨⟨⟨⟨⟨⟨⟨o1, o2⟩, o3⟩, o4⟩, o5⟩, o6⟩, o7⟩, o8⟩, o9⟩, o10⟩, o11⟩, o12⟩, o13⟩, o14⟩, o15⟩ := ok
  have hex := S.more
  unfold Pd.ex2 at hex
  simp only [Bool.and_eq_true, decide_eq_true_eq] at hex
  have fact : ∀ {f : He.Fa}, f ∈ p.fa2 → f.ok K = true := fun hf => S.t.d.facts hf
  have gloX : ∀ {x : Str}, x ∈ p.exn → mg x = some (.ref (He.ga K x)) := fun {x} hx => He.glo_ok X G (fact (by
    unfold Pd.fa2 Pd.fa
    simp only [List.mem_append]
    exact .inl (.inl (.inr (List.mem_map.mpr ⟨x, hx, rfl⟩)))))
  have hS := scopeB_ok herr
  rw [o11, o12] at hS
  refine ⟨He.glo_ok X G (fact ?_), ?_, hS, o15, gloX (by simpa using o5), He.free_ok X G (fact ?_), fun v hv => ?_, o3, o4, fun i q s hs => ?_⟩
  · unfold Pd.fa2 Pd.fa
    simp only [List.mem_append]
    exact .inl (.inl (.inl (.inl (.inr (by simp)))))
  · have hmem : p.err.dd ∈ p.fn := by
      unfold Pd.fn
      exact List.mem_append_right _ (by simp)
    obtain ⟨fd, F⟩ := S.t.d.defs hmem
    have F : FunD K p.err.x p.err.qual p.err.params p.err.body p.err.scope [] [] (He.ga K p.err.x) fd := F
    have B := FunD.bindsN F hbe
    rw [o9, o10] at F
    rw [o12] at B
    exact ⟨fd, F, B⟩
  · unfold Pd.fa2
    exact List.mem_append_right _ (by simp)
  · obtain ⟨u, hu, rfl⟩ := List.mem_map.mp hv
    exact (o2 u hu).2
  · unfold Er.h at hs
    cases q with
    | some _ => cases hs
    | none =>
      have hs : (e.bs[i]?).map (fun b => PV.str (toldW e.sep (filt (e.ws.map (·.1)) b))) = some s := hs
      cases hb : e.bs[i]? with
      | none => rw [hb] at hs; cases hs
      | some b =>
        rw [hb] at hs
        cases hs
        obtain ⟨x, h1, h2, h3, h4⟩ := clsB_ok hex.1.2 i b hb
        refine ⟨He.ga K x, b, ?_, rfl, excCB_ok h2, fitsB_ok (fun u hu => gloX (by simpa using (o2 u hu).1)) h4, h3, rfl⟩
        show (match p.exn[i]? with | some x => Value.ref (He.ga K x) | none => .none) = _
        rw [h1]
end
end Cv

set_option Elab.async false
set_option linter.all false
set_option maxRecDepth 100000
set_option maxHeartbeats 2000000
/-! CwD: the law's promise, put together. -/
namespace Cv
open PySem PySem.Spec PyProof.Rows L2 HotX

section
variable {p : Pd} {e : Er} {w : World} {K : PySem.W.Frag} {mg : Str → Option Value} {h : Heap}
abbrev Pd.g (p : Pd) (K : PySem.W.Frag) (c : Addr) : GI := p.gi K (fun _ => Str.empty) (p.T K) c
theorem lawAt {l : PySem.W.OpenLaw} {n : Nat} (d : Nat) {fa : Addr} (ok : p.ok2 e = true) (hL : AllP (fun d => d.okB p.gl p.bl = true) p.L) (hlaw : p.law.lawB p.gl p.bl = true) (hcup : scopeB p.cup = true) (herr : scopeB p.err = true)
    (hb : AllP BindOk p.L) (hbl : BindOk p.law) (hbc : BindOk p.cup) (hbe : BindOk p.err)
    (X : K.In h) (G : h.Ns mainGlobals mg) (S : He.SaysX p.fa2 p.fn [] p.tfs (p.ex2 e) w h K) (hfa : mg ("law" : Str) = some (.ref fa)) (hn : n ≤ 999)
    (run : ∀ ns : List Int, ns.length ≤ n → (∀ z ∈ ns, Builtin.Int.intBits z ≤ 1048576) → ∃ c, (sem p.law.t (callsAt (mkPg p.L e.h p.k) (d + 2))).s (lawEnv p.law.N.length) (cupOf ns) = .ok (.rt (.bl true)) c) :
    LamX.LawAtS l w K (L2N.CX l.prog w) (d + 3) n "script" mg fa h := by
  have ok' := ok
  unfold Pd.ok2 at ok'
  simp only [Bool.and_eq_true, decide_eq_true_eq, List.all_eq_true] at ok'
  obtain ⟨⟨⟨⟨⟨⟨⟨⟨⟨⟨⟨⟨⟨⟨o1, o2⟩, o3⟩, o4⟩, o5⟩, o6⟩, o7⟩, o8⟩, o9⟩, o10⟩, o11⟩, o12⟩, o13⟩, o14⟩, o15⟩ := ok'
  have hex := S.more
  unfold Pd.ex2 at hex
  simp only [Bool.and_eq_true, decide_eq_true_eq] at hex
  obtain ⟨⟨hex1, _⟩, hnd⟩ := hex
  have fact : ∀ {f : He.Fa}, f ∈ p.fa2 → f.ok K = true := fun hf => S.t.d.facts hf
  have fact1 : ∀ {f : He.Fa}, f ∈ ([.glo "_law_cup", .glo "_law_error", .glo "law", .free "abs", .free "list", .free "int"] : List He.Fa) → f.ok K = true := fun hf => fact (by
    unfold Pd.fa2 Pd.fa
    simp only [List.mem_append]
    exact .inl (.inl (.inl (.inl (.inr hf)))))
  have SD : He.SaysD p.fa p.fn K := by
    have z : He.SaysD p.fa2 p.fn K := S.t.d
    unfold He.SaysD He.obsD He.valD at z ⊢
    have z1 := congrArg (fun q : He.AlD => q.1) z
    have z2 := congrArg (fun q : He.AlD => q.2) z
    dsimp only at z1 z2
    unfold Pd.fa2 at z1
    rw [List.all_append, Bool.and_eq_true, Bool.and_eq_true] at z1
    rw [z2, z1.1.1, z1.2]
    rfl
  have hWd : ∀ c, Wd K mg (p.g K c) p.gl p.bl p.k p.L := fun c => wd_of o1 hb X G SD hex1 c
  have memL : ∀ {i : Nat} {df : Df}, p.L[i]? = some df → df ∈ p.all ∧ df.dd ∈ p.fn := fun {i df} hi => ⟨List.mem_append_left _ (List.mem_of_getElem? hi), by
    unfold Pd.fn
    exact List.mem_append_left _ (List.mem_map.mpr ⟨df, List.mem_of_getElem? hi, rfl⟩)⟩
  have hlm : p.law ∈ p.all ∧ p.law.dd ∈ p.fn := ⟨List.mem_append_right _ (by simp), by
    unfold Pd.fn
    exact List.mem_append_right _ (by simp)⟩
  have hcm : p.cup.dd ∈ p.fn := by
    unfold Pd.fn
    exact List.mem_append_right _ (by simp)
  have hgx : ∀ (df : Df) (x : Str), (df.ctx p.gl p.bl).gl.lookup x = some .err → x = "_law_error" := fun df x hx => by
    have z : p.okB = true := o1
    unfold Pd.okB at z
    rw [List.all_eq_true] at z
    have z1 := z _ (mem_look hx)
    simp only [decide_eq_true_eq] at z1
    exact z1
  obtain ⟨fdl, FL⟩ := S.t.d.defs hlm.2
  have FL : FunD K p.law.x p.law.qual p.law.params p.law.body p.law.scope [] [] (He.ga K p.law.x) fdl := FL
  have hfa2 : fa = He.ga K p.law.x := by
    have := hfa.symm.trans (He.glo_ok X G (fact1 (f := .glo "law") (by simp)))
    rw [o13]
    cases this
    rfl
  have hps : p.law.ps = (["script"] : List Str) := by
    have z := hlaw
    unfold Df.lawB at z
    simp only [Bool.and_eq_true, decide_eq_true_eq] at z
    exact z.1.1.1.1.1.1.2
  have BL := FunD.bindsA FL hbl
  rw [hps] at BL
  refine ⟨fdl, p.tfs.map (He.cT K), spLaw K (p.g K 0) fun ns => (sem p.law.t (callsAt (mkPg p.L e.h p.k) (d + 2))).s (lawEnv p.law.N.length) (cupOf ns), ?_, ?_, ?_, fun s u => BL s [u] rfl, fun H a ns hl hbits hT hS => ?_, fun base KB NB TB => ?_⟩
  · intro q hq
    obtain ⟨r, hr, rfl⟩ := List.mem_map.mp hq
    exact S.empty r hr
  · intro q hq
    obtain ⟨r, hr, rfl⟩ := List.mem_map.mp hq
    exact S.out r hr
  · intro q hq
    obtain ⟨r, hr, rfl⟩ := List.mem_map.mp hq
    exact PySem.W.codeHd_of_K X (S.hd r hr)
  · refine ⟨a, ns, rfl, hS, by omega, fun q hq => ?_, run ns hl hbits, fun H' => rfl⟩
    obtain ⟨df, hdf, rfl⟩ := List.mem_map.mp hq
    refine ⟨#[], hT _ (List.mem_map.mpr ⟨(df.x, none), List.mem_map.mpr ⟨df, hdf, rfl⟩, rfl⟩), ?_, fun pos cv z => ?_⟩
    · exact True.intro
    · cases z
  · have EF := fun c => erF_of (fld := fun _ => Str.empty) (T := p.T K) ok herr hbe X G S (c := c)
    have mkEP : ∀ (c : Addr) (d : Nat), AllOk l.prog w K mg base (p.g K c) p.L e.h p.k d → ∀ (df : Df), df ∈ p.all → df.dd ∈ p.fn → ∀ (f : Addr), f = He.ga K df.x → ∀ (oc : Value) (od : Option Addr) (dV kV doc pm : Value) (an : Option Addr) (cdv ct : Value) (osl : Array (Option Value)),
        K.lookup f = some ⟨oc, od, .func (PySem.W.fnOf df.x df.qual df.params df.body df.scope dV kV doc pm an cdv ct), osl⟩ → ∀ (A : Around) (outer : List PySem.Env) (s : Shared) (H : Hp) (E : XK),
        Room (d + 2) (A.deeper (envOfC df.qual df.scope s.heap.objs.size f cdv)) → ErP l.prog w K mg base e.h (p.g K c) (cxOf (L2N.CX l.prog w) l.prog w K mg base df.N df.qual df.scope f cdv A outer s H E) (callsAt (mkPg p.L e.h p.k) (d + 2)) := by
      intro c d A2 df hdf hdd f hf oc od dV kV doc pm an cdv ct osl lk A outer s H E hr
      obtain ⟨cc, T, c1, c2, c3, c4⟩ := code_at S TB hdf hf lk hdd hnd
      refine ⟨rfl, rfl, rfl, rfl, rfl, rfl, ⟨d, hr, fun i hi => ?_⟩, ⟨cc, T, c1, c2, c3, c4⟩⟩
      have hi : i < p.L.length := by
        have : i < (p.L.map Df.fn).length := hi
        rwa [List.length_map] at this
      have hdi : p.L[i]? = some p.L[i] := List.getElem?_eq_getElem hi
      obtain ⟨fd, F, B⟩ := (hWd c).fn i _ hdi
      exact ⟨fd, p.L[i].ps, A2 i _ fd hdi F, B, F.kp, fun xs c hn => callD_len hdi d xs c hn⟩
    have fai : ∀ (c : Addr) {i : Nat} {df : Df}, p.L[i]? = some df → (p.g K c).fa i = He.ga K df.x := fun c {i df} hi => by
      show (match p.L[i]? with | some d => He.ga K d.x | none => 0) = _
      rw [hi]
    have AO : ∀ c d, AllOk l.prog w K mg base (p.g K c) p.L e.h p.k d := fun c => all_ok (hWd c) (fun i df hi => hL.get i df hi) (ErrP := ErP l.prog w K mg base e.h (p.g K c)) erP_blk (fun i df hi => err_ok (EF c) (hgx df))
      fun d i df hi A2 oc od dV kV doc pm an cdv ct osl lk A outer s H E hr => mkEP c d A2 df (memL hi).1 (memL hi).2 _ (fai c hi) oc od dV kV doc pm an cdv ct osl lk A outer s H E hr
    obtain ⟨fdc, FC⟩ := S.t.d.defs hcm
    have FC : FunD K p.cup.x p.cup.qual p.cup.params p.cup.body p.cup.scope [] [] (He.ga K p.cup.x) fdc := FC
    have BC := FunD.bindsN FC hbc
    have SC := scopeB_ok hcup
    rw [o6] at FC
    rw [o7, o8] at SC
    rw [o8] at BC
    have Fc := cup_ok (P := l.prog) (w := w) (mg := mg) (base := base) FC SC o14 (He.free_ok X G (fact1 (by simp))) (He.free_ok X G (fact1 (by simp))) (He.free_ok X G (fact1 (by simp)))
    have main := law_ok (P := l.prog) (w := w) (base := base) (g := p.g K 0) (h := e.h) hWd (d := d + 1) (fun c => AO c (d + 2)) FL hlaw (ErrP := fun g => ErP l.prog w K mg base e.h g) (fun g => erP_blk) (fun c => err_ok (EF c) (hgx p.law))
      (fun oc od dV kV doc pm an cdv ct osl lk c A outer s H E hr => .inr (mkEP c d (AO c d) p.law hlm.1 hlm.2 _ rfl oc od dV kV doc pm an cdv ct osl lk A outer s H E hr)) Fc BC FC.kp (He.glo_ok X G (fact1 (by simp)))
    rw [hps] at main
    rw [hfa2]
    exact main
end
end Cv

set_option Elab.async false
set_option linter.all false
set_option maxRecDepth 100000
set_option maxHeartbeats 1000000
/-! CxA: sizes; what the laws have in common: rolls, sorts, likenesses, of any program that holds these defs. -/
namespace Cv
open PySem
theorem then_ok {α β : Type} (a : α) (f : α → M β) (c : Cup) : (Rs.ok a c).then f = f a c := rfl
theorem then_exc {α β : Type} (i : Nat) (p : Option Int) (f : α → M β) (c : Cup) : (Rs.exc i p c : Rs α).then f = .exc i p c := rfl
theorem c_at {P : Pg} {i : Nat} {f : Fn} (h : P.fns[i]? = some f) (d : Nat) : callD P (d + 1) i = runFn (callsAt P d) f := by rw [callD_succ, h]
theorem cc_at (P : Pg) (d i : Nat) : (tower P d).1 i = callD P d i := rfl
theorem eqV_int (b : Bool) (i j : Int) : eqV b (.int i) (.int j) = some (.bl (decide (i = j) == b)) := rfl
theorem lcL_pure {f : TgF} {cond : Cv.Env → M Bool} {elt : Cv.Env → M PV} {env0 : Cv.Env} {c : Cup} (b : PV → Bool) (y : PV → PV) : ∀ {xs : List PV}, (∀ x ∈ xs, ∃ e1, f.one x env0 = some e1 ∧ cond e1 c = .ok (b x) c ∧ (b x = true → elt e1 c = .ok (y x) c)) →
    lcL f cond elt env0 xs c = .ok ((xs.filter b).map y) c
  | [], _ => rfl
  | x :: xs, h => by
    obtain ⟨e1, h1, h2, h3⟩ := h x (List.mem_cons_self ..)
    have ih := lcL_pure b y (xs := xs) fun v hv => h v (List.mem_cons_of_mem _ hv)
    unfold lcL
    simp only [h1, bnd, h2, then_ok]
    cases hb : b x with
    | false => simp only [List.filter_cons, hb, Bool.false_eq_true, if_false]; exact ih
    | true => simp only [List.filter_cons, hb, if_true, List.map_cons, bnd, h3 hb, then_ok, ih, ret]
theorem noExc_ok {α : Type} {m : M α} {c c' : Cup} {a : α} (h : m c = .ok a c') : noExc m c = .ok a c' := by
  unfold noExc
  rw [h]
theorem lc_e {elt it cond : T} {tg : Tg} {own : List Nat} {C : Calls} {env : Cv.Env} {c : Cup} {xs : List PV} (b : PV → Bool) (y : PV → PV) (hi : (sem it C).i env c = .ok xs c) (hl : xs.length < big)
    (h : ∀ x ∈ xs, ∃ e1, tg.f.one x (wipeE env own) = some e1 ∧ (sem cond C).t e1 c = .ok (b x) c ∧ (b x = true → (sem elt C).e e1 c = .ok (y x) c)) : (sem (.lc elt tg it cond own) C).e env c = .ok (.lst ((xs.filter b).map y)) c := by
  show (((sem it C).i env c).then fun xs => if xs.length < big then bnd (noExc (lcL tg.f (sem cond C).t (sem elt C).e (wipeE env own) xs)) fun ys => ret (PV.lst ys) else badM) = _
  rw [hi]
  show ((if xs.length < big then bnd (noExc (lcL tg.f (sem cond C).t (sem elt C).e (wipeE env own) xs)) fun ys => ret (PV.lst ys) else badM) : M PV) c = _
  rw [if_pos hl]
  show (noExc _ c).then _ = _
  rw [noExc_ok (lcL_pure b y h)]
  rfl
theorem upto_mem : ∀ (n : Nat) (lo : Int) (v : PV), v ∈ upto lo n → ∃ k : Nat, k < n ∧ v = .int (lo + k)
  | 0, lo, v, h => by cases h
  | n + 1, lo, v, h => by
    rcases List.mem_cons.mp h with rfl | h
    · exact ⟨0, by omega, by simp⟩
    · obtain ⟨k, h1, h2⟩ := upto_mem n (lo + 1) v h
      exact ⟨k + 1, by omega, by rw [h2]; congr 1; omega⟩
theorem filt_true {α : Type} (l : List α) : l.filter (fun _ => true) = l := List.filter_eq_self.mpr fun _ _ => rfl
/-! ### sorts, likenesses -/
def sortT : T := (.seq (.ifs (.or (.op .isN (.var 0) .non) (.un (.isT 1) (.var 0))) (.seq (.ret (.ite (.op .isN (.var 0) .non) (.int 0) (.int 1))) .skip) .skip) (.seq (.ifs (.or (.un (.isT 0) (.var 0)) (.un (.isT 2) (.var 0))) (.seq (.ret (.ite (.un (.isT 0) (.var 0)) (.int 2) (.int 3))) .skip) .skip) (.seq (.ret (.ite (.un (.isT 3) (.var 0)) (.int 4) (.ite (.un (.isT 4) (.var 0)) (.int 5) (.int 6)))) .skip)))
def likeL (li : Nat) : T := (.lc (.int 1) (.tup (.cons (.v 3) (.cons (.v 4) .nil))) (.zip (.var 0) (.var 1)) (.un .not (.call li (.cons (.var 3) (.cons (.var 4) .nil)))) [3, 4])
def likeT (si li : Nat) : T := (.seq (.set (.v 2) (.call si (.cons (.var 1) .nil))) (.seq (.ifs (.or (.op .ne (.call si (.cons (.var 0) .nil)) (.var 2)) (.op .eq (.var 2) (.int 6))) (.seq (.ret (.bl false)) .skip) .skip) (.seq (.ifs (.op .isin (.var 2) (.tup (.cons (.int 4) (.cons (.int 5) .nil)))) (.seq (.ret (.and (.op .eq (.un .len (.var 0)) (.un .len (.var 1))) (.op .eq (likeL li) (.lst .nil)))) .skip) .skip) (.seq (.ret (.op .eq (.var 0) (.var 1))) .skip))))
theorem zip_map : ∀ xs ys : List PV, zipV xs ys = (xs.zip ys).map fun q => .tup [q.1, q.2]
  | [], ys => by cases ys <;> rfl
  | x :: xs, [] => rfl
  | x :: xs, y :: ys => by
    show PV.tup [x, y] :: zipV xs ys = _
    rw [zip_map xs ys]
    rfl
theorem ones_dat : ∀ (l : List PV), PV.dats 59 (l.map fun _ => PV.int 1) = true
  | [] => rfl
  | _ :: l => by
    show (PV.dat 59 (PV.int 1) && PV.dats 59 (l.map fun _ => PV.int 1)) = true
    rw [ones_dat l]
    rfl
theorem ones_eq (l : List PV) : eqV true (.lst (l.map fun _ => PV.int 1)) (.lst []) = some (.bl l.isEmpty) := by
  unfold eqV
  have h1 : PV.dat 60 (.lst (l.map fun _ => PV.int 1)) = true := ones_dat l
  have h2 : PV.dat 60 (.lst []) = true := rfl
  rw [h1, h2]
  cases l <;> rfl
theorem filt_all (p : PV → PV → Bool) (l : List (PV × PV)) (b : PV → Bool) (hb : ∀ x y, b (.tup [x, y]) = !p x y) : ((l.map fun q => PV.tup [q.1, q.2]).filter b).isEmpty = l.all fun q => p q.1 q.2 := by
  induction l with
  | nil => rfl
  | cons q l ih =>
    rw [List.map_cons, List.filter_cons, hb, List.all_cons, ← ih]
    cases p q.1 q.2 <;> rfl
section
variable {P : Pg} {si li : Nat} (hs : P.fns[si]? = some ⟨1, 1, sortT⟩) (hl : P.fns[li]? = some ⟨2, 5, likeT si li⟩)
include hs in
theorem sort_of (d : Nat) (c : Cup) : (∀ i, callD P (d + 1) si [.int i] c = .ok (.int 2) c) ∧ (∀ b, callD P (d + 1) si [.bl b] c = .ok (.int 1) c) ∧ (∀ s, callD P (d + 1) si [.str s] c = .ok (.int 3) c) ∧ (∀ xs, callD P (d + 1) si [.tup xs] c = .ok (.int 4) c) ∧ (∀ xs, callD P (d + 1) si [.lst xs] c = .ok (.int 5) c) ∧ callD P (d + 1) si [.non] c = .ok (.int 0) c := by
  rw [c_at hs]
  exact ⟨fun _ => rfl, fun _ => rfl, fun _ => rfl, fun _ => rfl, fun _ => rfl, rfl⟩
include hs hl
theorem like_int (d : Nat) (i j : Int) (c : Cup) : callD P (d + 2) li [.int i, .int j] c = .ok (.bl (decide (i = j))) c := by
  have h := (sort_of hs d c).1
  rw [c_at hl]
  simp [runFn, likeT, sem, ofE, ofET, ofETI, ofS, bnd, then_ok, truM, PV.tru, lift, cc_at, h, opM, opV, eqV, inV, PV.dat, PV.dats, PV.eqv, PV.isin, Tg.f, big]
theorem like_bl (d : Nat) (a b : Bool) (c : Cup) : callD P (d + 2) li [.bl a, .bl b] c = .ok (.bl (a == b)) c := by
  have h := (sort_of hs d c).2.1
  rw [c_at hl]
  simp [runFn, likeT, sem, ofE, ofET, ofETI, ofS, bnd, then_ok, truM, PV.tru, lift, cc_at, h, opM, opV, eqV, inV, PV.dat, PV.dats, PV.eqv, PV.isin, Tg.f, big]
end
end Cv

set_option Elab.async false
set_option linter.all false
set_option maxRecDepth 100000
set_option maxHeartbeats 1000000
/-! CxB: likenesses of lists and tuples; a value is like itself; rolls. -/
namespace Cv
open PySem
section
variable {P : Pg} {si li : Nat} (hs : P.fns[si]? = some ⟨1, 1, sortT⟩) (hl : P.fns[li]? = some ⟨2, 5, likeT si li⟩)
theorem likeL_lc (d : Nat) (xs ys : List PV) (p : PV → PV → Bool) (c : Cup) (a b : Option Slot) (k : Int) (h : ∀ q ∈ xs.zip ys, callD P d li [q.1, q.2] c = .ok (.bl (p q.1 q.2)) c) :
    lcL (Tg.f (.tup (.cons (.v 3) (.cons (.v 4) .nil)))) (sem (.un .not (.call li (.cons (.var 3) (.cons (.var 4) .nil)))) (callsAt P d)).t (sem (.int 1) (callsAt P d)).e [a, b, some (.val (.int k)), none, none] (zipV xs ys) c =
      .ok (((((xs.zip ys).map fun q => PV.tup [q.1, q.2]).filter fun v => match v with | .tup [x, y] => !p x y | _ => true)).map fun _ => .int 1) c := by
  rw [zip_map]
  refine lcL_pure _ _ fun x hx => ?_
  obtain ⟨q, hq, rfl⟩ := List.mem_map.mp hx
  refine ⟨[a, b, some (.val (.int k)), some (.val q.1), some (.val q.2)], rfl, ?_, fun _ => rfl⟩
  have := h q hq
  simp [sem, ofE, ofET, bnd, then_ok, truM, PV.tru, lift, cc_at, this]
theorem likeL_e (d : Nat) (u v : PV) (xs ys : List PV) (huv : (u = .lst xs ∧ v = .lst ys) ∨ (u = .tup xs ∧ v = .tup ys)) (p : PV → PV → Bool) (c : Cup) (k : Int) (hln : xs.length < 1000) (h : ∀ q ∈ xs.zip ys, callD P d li [q.1, q.2] c = .ok (.bl (p q.1 q.2)) c) :
    (sem (likeL li) (callsAt P d)).e [some (.val u), some (.val v), some (.val (.int k)), none, none] c = .ok (.lst (((((xs.zip ys).map fun q => PV.tup [q.1, q.2]).filter fun v => match v with | .tup [x, y] => !p x y | _ => true)).map fun _ => .int 1)) c := by
  have hz : (zipV xs ys).length < 16777216 := by
    rw [zip_map, List.length_map, List.length_zip]
    omega
  have hlc := noExc_ok (likeL_lc d xs ys p c (some (.val u)) (some (.val v)) k h)
  rcases huv with ⟨rfl, rfl⟩ | ⟨rfl, rfl⟩
  · show ((if (zipV xs ys).length < 16777216 then bnd (noExc (lcL (Tg.f (.tup (.cons (.v 3) (.cons (.v 4) .nil)))) (sem (.un .not (.call li (.cons (.var 3) (.cons (.var 4) .nil)))) (callsAt P d)).t (sem (.int 1) (callsAt P d)).e [some (.val (.lst xs)), some (.val (.lst ys)), some (.val (.int k)), none, none] (zipV xs ys))) fun ys => ret (.lst ys) else badM) : M PV) c = _
    rw [if_pos hz]
    show (noExc _ c).then _ = _
    rw [hlc]
    rfl
  · show ((if (zipV xs ys).length < 16777216 then bnd (noExc (lcL (Tg.f (.tup (.cons (.v 3) (.cons (.v 4) .nil)))) (sem (.un .not (.call li (.cons (.var 3) (.cons (.var 4) .nil)))) (callsAt P d)).t (sem (.int 1) (callsAt P d)).e [some (.val (.tup xs)), some (.val (.tup ys)), some (.val (.int k)), none, none] (zipV xs ys))) fun ys => ret (.lst ys) else badM) : M PV) c = _
    rw [if_pos hz]
    show (noExc _ c).then _ = _
    rw [hlc]
    rfl
include hs hl
theorem like_seq (d : Nat) (u v : PV) (xs ys : List PV) (huv : (u = .lst xs ∧ v = .lst ys) ∨ (u = .tup xs ∧ v = .tup ys)) (p : PV → PV → Bool) (c : Cup) (hln : xs.length < 1000) (h : ∀ q ∈ xs.zip ys, callD P (d + 1) li [q.1, q.2] c = .ok (.bl (p q.1 q.2)) c) :
    callD P (d + 2) li [u, v] c = .ok (.bl (decide (xs.length = ys.length) && (xs.zip ys).all fun q => p q.1 q.2)) c := by
  have h5 := likeL_e (d + 1) u v xs ys huv p c 5 hln h
  have h4 := likeL_e (d + 1) u v xs ys huv p c 4 hln h
  obtain ⟨_, _, _, st, sl, _⟩ := sort_of hs d c
  rw [← filt_all p (xs.zip ys) (fun v => match v with | .tup [x, y] => !p x y | _ => true) (fun _ _ => rfl), c_at hl]
  generalize (((xs.zip ys).map fun q => PV.tup [q.1, q.2]).filter fun v => match v with | .tup [x, y] => !p x y | _ => true) = fl at h5 h4 ⊢
  have h1 := ones_eq fl
  rcases huv with ⟨rfl, rfl⟩ | ⟨rfl, rfl⟩ <;> cases he : decide (xs.length = ys.length)
  · have he2 : ¬ ((xs.length : Int) = ys.length) := fun z => by simp at he; omega
    simp [runFn, likeT, sem, ofE, ofET, ofETI, ofS, bnd, then_ok, truM, PV.tru, lift, cc_at, sl, opM, opV, Tg.f, unV, lenV, inV, PV.dats, PV.isin, big, eqV, PV.dat, PV.eqv, he2]
  · have he2 : xs.length = ys.length := of_decide_eq_true he
    simp [runFn, likeT, sem, ofE, ofET, ofETI, ofS, bnd, then_ok, truM, PV.tru, lift, cc_at, sl, opM, opV, Tg.f, unV, lenV, inV, PV.dats, PV.dat, PV.eqv, PV.isin, big, h5, h1, eqV_int, he2]
  · have he2 : ¬ ((xs.length : Int) = ys.length) := fun z => by simp at he; omega
    simp [runFn, likeT, sem, ofE, ofET, ofETI, ofS, bnd, then_ok, truM, PV.tru, lift, cc_at, st, opM, opV, Tg.f, unV, lenV, inV, PV.dats, PV.isin, big, eqV, PV.dat, PV.eqv, he2]
  · have he2 : xs.length = ys.length := of_decide_eq_true he
    simp [runFn, likeT, sem, ofE, ofET, ofETI, ofS, bnd, then_ok, truM, PV.tru, lift, cc_at, st, opM, opV, Tg.f, unV, lenV, inV, PV.dats, PV.dat, PV.eqv, PV.isin, big, h4, h1, eqV_int, he2]
end
/-- plain data: ints, bools, lists and tuples of them, n deep -/
inductive Dt : Nat → PV → Prop
  | int (n : Nat) (i : Int) : Dt n (.int i)
  | bl (n : Nat) (b : Bool) : Dt n (.bl b)
  | lst {n : Nat} {xs : List PV} (hl : xs.length < 1000) (h : ∀ x ∈ xs, Dt n x) : Dt (n + 1) (.lst xs)
  | tup {n : Nat} {xs : List PV} (hl : xs.length < 1000) (h : ∀ x ∈ xs, Dt n x) : Dt (n + 1) (.tup xs)
theorem zip_self {α : Type} : ∀ l : List α, l.zip l = l.map fun v => (v, v)
  | [] => rfl
  | a :: l => by rw [List.zip_cons_cons, zip_self l, List.map_cons]
theorem like_same {P : Pg} {si li : Nat} (hs : P.fns[si]? = some ⟨1, 1, sortT⟩) (hl : P.fns[li]? = some ⟨2, 5, likeT si li⟩) (c : Cup) : ∀ (n d : Nat) (v : PV), Dt n v → callD P (d + n + 2) li [v, v] c = .ok (.bl true) c := by
  intro n
  induction n with
  | zero =>
    intro d v h
    cases h with
    | int i => rw [like_int hs hl]; simp
    | bl b => rw [like_bl hs hl]; simp
  | succ n ih =>
    intro d v h
    cases h with
    | int i => rw [show d + (n + 1) + 2 = (d + n + 1) + 2 by omega, like_int hs hl]; simp
    | bl b => rw [show d + (n + 1) + 2 = (d + n + 1) + 2 by omega, like_bl hs hl]; simp
    | lst hln h =>
      rename_i xs
      rw [show d + (n + 1) + 2 = (d + n + 1) + 2 by omega, like_seq hs hl (d + n + 1) _ _ xs xs (.inl ⟨rfl, rfl⟩) (fun _ _ => true) c hln (fun q hq => by
        rw [zip_self] at hq
        obtain ⟨v, hv, rfl⟩ := List.mem_map.mp hq
        exact ih d v (h v hv))]
      simp
    | tup hln h =>
      rename_i xs
      rw [show d + (n + 1) + 2 = (d + n + 1) + 2 by omega, like_seq hs hl (d + n + 1) _ _ xs xs (.inr ⟨rfl, rfl⟩) (fun _ _ => true) c hln (fun q hq => by
        rw [zip_self] at hq
        obtain ⟨v, hv, rfl⟩ := List.mem_map.mp hq
        exact ih d v (h v hv))]
      simp
/-! ### rolls -/
def rollT : T := (.seq (.ifs (.op .gt (.op .ix (.var 0) (.int 0)) (.int 0)) (.seq (.set (.v 2) (.op .mod (.un .toInt (.op .ix (.var 0) (.int 0))) (.var 1))) (.seq (.sidx 0 (.int 0) (.op .fdiv (.op .ix (.var 0) (.int 0)) (.var 1))) (.seq (.ret (.var 2)) .skip))) .skip) (.seq (.sidx 0 (.int 1) (.op .mod (.un .toInt (.op .add (.op .mul (.op .ix (.var 0) (.int 1)) (.int 21193)) (.int 44351))) (.int 1048576))) (.seq (.ret (.op .mod (.un .toInt (.op .fdiv (.op .ix (.var 0) (.int 1)) (.int 131))) (.var 1))) .skip)))
theorem roll_of {P : Pg} {ri : Nat} (hr : P.fns[ri]? = some ⟨2, 3, rollT⟩) (d : Nat) (m : Int) (hm : 0 < m) (hm2 : m < 1000000) (c : Cup) : ∃ r c', callD P (d + 1) ri [.cup, .int m] c = .ok (.int r) c' ∧ 0 ≤ r ∧ r < m := by
  rw [c_at hr]
  have d1 : divOk m = true := by
    unfold divOk
    simp only [Bool.and_eq_true, decide_eq_true_eq]
    omega
  have h0 : m ≠ 0 := by omega
  have d2 : divOk 131 = true := by decide
  have mm : ∀ i : Int, mulV (.int i) (.int 21193) = some (.int (i * 21193)) := fun i => by
    show (if mulOk i 21193 = true then some (PV.int (i * 21193)) else none) = _
    have : mulOk i 21193 = true := by
      unfold mulOk
      simp
    rw [if_pos this]
  cases hc : decide (0 < c.1) with
  | true =>
    refine ⟨Int.fmod c.1 m, (Int.fdiv c.1 m, c.2), ?_, Int.fmod_nonneg_of_pos _ hm, Int.fmod_lt_of_pos _ hm⟩
    simp [runFn, rollT, sem, ofE, ofET, ofS, bnd, then_ok, truM, PV.tru, lift, opM, opV, Tg.f, ixV, atIx, cmpV, unV, toIntV, modV, fdivV, hc, d1, h0]
  | false =>
    refine ⟨Int.fmod (Int.fdiv (Int.fmod (c.2 * 21193 + 44351) 1048576) 131) m, (c.1, Int.fmod (c.2 * 21193 + 44351) 1048576), ?_, Int.fmod_nonneg_of_pos _ hm, Int.fmod_lt_of_pos _ hm⟩
    simp [runFn, rollT, sem, ofE, ofET, ofS, bnd, then_ok, truM, PV.tru, lift, opM, opV, Tg.f, ixV, atIx, cmpV, unV, toIntV, modV, fdivV, addV, hc, d2, h0, mm]
end Cv

set_option Elab.async false
set_option linter.all false
set_option maxRecDepth 100000
/-! Cv.K01: the inner texts of the law law_k01_whole_tables; printed by gen.py. -/
namespace Cv.K01
open Cv PySem L2
def top (i : Nat) : Stmt := PySem.Challenge.pw_triplesled_k01_whole_tables.main.body.getD i (.Pass ⟨0, 0, 0, 0⟩)
def gl : List (Str × GK) := [("is_whole", .fn 0), ("is_tuple_of", .fn 1), ("is_word", .fn 2), ("need_word", .fn 3), ("is_table", .fn 4), ("need_table", .fn 5), ("times", .fn 6), ("made", .fn 7), ("table_product", .fn 8), ("trace", .fn 9), ("determinant", .fn 10), ("table_of_word", .fn 11), ("_law_roll", .fn 12), ("_law_some", .fn 13), ("_law_sort", .fn 14), ("_law_like", .fn 15), ("_law_table", .fn 16), ("_law_product", .fn 17), ("_law_tables_right", .fn 18), ("_law_words_right", .fn 19), ("_law_limits_right", .fn 20), ("LETTERS_words", .cst 0), ("LETTERS_tables", .cst 1), ("TripleError", .exc 0), ("InvalidWord", .exc 1), ("InvalidTable", .exc 2), ("_law_error", .err)]
def bl : List Str := ["all", "bool", "int", "isinstance", "len", "list", "range", "str", "sum", "tuple", "zip"]
/- is_whole -/
def t0 : T := (.seq (.ret (.and (.un (.isT 0) (.var 0)) (.and (.un .not (.un (.isT 1) (.var 0))) (.chain .le .le (.var 1) (.var 0) (.var 2))))) .skip)
def d0 : Df := ⟨"is_whole", "is_whole", defArgs (top 5), defBody (top 5), defScope (top 5), ["value", "low", "high"], ["value", "low", "high"], [], t0⟩
/- is_tuple_of -/
def t1 : T := (.seq (.ret (.and (.un (.isT 3) (.var 0)) (.chain .le .le (.var 1) (.un .len (.var 0)) (.var 2)))) .skip)
def d1 : Df := ⟨"is_tuple_of", "is_tuple_of", defArgs (top 6), defBody (top 6), defScope (top 6), ["value", "low", "high"], ["value", "low", "high"], [], t1⟩
/- is_word -/
def t2 : T := (.seq (.ret (.and (.call 1 (.cons (.var 0) (.cons (.int 1) (.cons (.cst 0) .nil)))) (.un .all (.lc (.call 0 (.cons (.var 1) (.cons (.int 0) (.cons (.int 1) .nil)))) (.v 1) (.var 0) (.bl true) [1])))) .skip)
def d2 : Df := ⟨"is_word", "is_word", defArgs (top 9), defBody (top 9), defScope (top 9), ["value", "own"], ["value"], [], t2⟩
/- need_word -/
def t3 : T := (.seq (.ifs (.un .not (.call 2 (.cons (.var 0) .nil))) (.seq (.raise 1) .skip) .skip) .skip)
def d3 : Df := ⟨"need_word", "need_word", defArgs (top 10), defBody (top 10), defScope (top 10), ["value"], ["value"], [], t3⟩
/- is_table -/
def t4 : T := (.seq (.ifs (.or (.un .not (.call 1 (.cons (.var 0) (.cons (.int 2) (.cons (.int 2) .nil))))) (.un .not (.un .all (.lc (.call 1 (.cons (.var 2) (.cons (.int 2) (.cons (.int 2) .nil)))) (.v 2) (.var 0) (.bl true) [2])))) (.seq (.ret (.bl false)) .skip) .skip) (.seq (.ret (.un .all (.lc (.and (.un (.isT 0) (.var 1)) (.un .not (.un (.isT 1) (.var 1)))) (.v 1) (.op .add (.op .ix (.var 0) (.int 0)) (.op .ix (.var 0) (.int 1))) (.bl true) [1]))) .skip))
def d4 : Df := ⟨"is_table", "is_table", defArgs (top 13), defBody (top 13), defScope (top 13), ["value", "own", "row"], ["value"], [], t4⟩
/- need_table -/
def t5 : T := (.seq (.ifs (.un .not (.call 4 (.cons (.var 0) .nil))) (.seq (.raise 2) .skip) .skip) .skip)
def d5 : Df := ⟨"need_table", "need_table", defArgs (top 14), defBody (top 14), defScope (top 14), ["value"], ["value"], [], t5⟩
/- times -/
def t6 : T := (.seq (.set (.tup (.cons (.tup (.cons (.v 2) (.cons (.v 3) .nil))) (.cons (.tup (.cons (.v 4) (.cons (.v 5) .nil))) .nil))) (.var 0)) (.seq (.set (.tup (.cons (.tup (.cons (.v 6) (.cons (.v 7) .nil))) (.cons (.tup (.cons (.v 8) (.cons (.v 9) .nil))) .nil))) (.var 1)) (.seq (.ret (.tup (.cons (.tup (.cons (.op .add (.op .mul (.var 2) (.var 6)) (.op .mul (.var 3) (.var 8))) (.cons (.op .add (.op .mul (.var 2) (.var 7)) (.op .mul (.var 3) (.var 9))) .nil))) (.cons (.tup (.cons (.op .add (.op .mul (.var 4) (.var 6)) (.op .mul (.var 5) (.var 8))) (.cons (.op .add (.op .mul (.var 4) (.var 7)) (.op .mul (.var 5) (.var 9))) .nil))) .nil)))) .skip)))
def d6 : Df := ⟨"times", "times", defArgs (top 15), defBody (top 15), defScope (top 15), ["one", "other", "a", "b", "c", "d", "e", "f", "g", "h"], ["one", "other"], [], t6⟩
/- made -/
def t7 : T := (.seq (.set (.v 1) (.tup (.cons (.tup (.cons (.int 1) (.cons (.int 0) .nil))) (.cons (.tup (.cons (.int 0) (.cons (.int 1) .nil))) .nil)))) (.seq (.«for» (.v 2) (.var 0) (.seq (.set (.v 1) (.call 6 (.cons (.var 1) (.cons (.op .ix (.cst 1) (.var 2)) .nil)))) .skip)) (.seq (.ret (.var 1)) .skip)))
def d7 : Df := ⟨"made", "made", defArgs (top 16), defBody (top 16), defScope (top 16), ["word", "found", "letter"], ["word"], [], t7⟩
/- table_product -/
def t8 : T := (.seq (.ex (.call 5 (.cons (.var 0) .nil))) (.seq (.ex (.call 5 (.cons (.var 1) .nil))) (.seq (.ret (.call 6 (.cons (.var 0) (.cons (.var 1) .nil)))) .skip)))
def d8 : Df := ⟨"table_product", "table_product", defArgs (top 17), defBody (top 17), defScope (top 17), ["one", "other"], ["one", "other"], [], t8⟩
/- trace -/
def t9 : T := (.seq (.ex (.call 5 (.cons (.var 0) .nil))) (.seq (.ret (.op .add (.op .ix (.op .ix (.var 0) (.int 0)) (.int 0)) (.op .ix (.op .ix (.var 0) (.int 1)) (.int 1)))) .skip))
def d9 : Df := ⟨"trace", "trace", defArgs (top 18), defBody (top 18), defScope (top 18), ["table"], ["table"], [], t9⟩
/- determinant -/
def t10 : T := (.seq (.ex (.call 5 (.cons (.var 0) .nil))) (.seq (.ret (.op .sub (.op .mul (.op .ix (.op .ix (.var 0) (.int 0)) (.int 0)) (.op .ix (.op .ix (.var 0) (.int 1)) (.int 1))) (.op .mul (.op .ix (.op .ix (.var 0) (.int 0)) (.int 1)) (.op .ix (.op .ix (.var 0) (.int 1)) (.int 0))))) .skip))
def d10 : Df := ⟨"determinant", "determinant", defArgs (top 19), defBody (top 19), defScope (top 19), ["table"], ["table"], [], t10⟩
/- table_of_word -/
def t11 : T := (.seq (.ex (.call 3 (.cons (.var 0) .nil))) (.seq (.ret (.call 7 (.cons (.var 0) .nil))) .skip))
def d11 : Df := ⟨"table_of_word", "table_of_word", defArgs (top 20), defBody (top 20), defScope (top 20), ["word"], ["word"], [], t11⟩
/- _law_roll -/
def t12 : T := (.seq (.ifs (.op .gt (.op .ix (.var 0) (.int 0)) (.int 0)) (.seq (.set (.v 2) (.op .mod (.un .toInt (.op .ix (.var 0) (.int 0))) (.var 1))) (.seq (.sidx 0 (.int 0) (.op .fdiv (.op .ix (.var 0) (.int 0)) (.var 1))) (.seq (.ret (.var 2)) .skip))) .skip) (.seq (.sidx 0 (.int 1) (.op .mod (.un .toInt (.op .add (.op .mul (.op .ix (.var 0) (.int 1)) (.int 21193)) (.int 44351))) (.int 1048576))) (.seq (.ret (.op .mod (.un .toInt (.op .fdiv (.op .ix (.var 0) (.int 1)) (.int 131))) (.var 1))) .skip)))
def d12 : Df := ⟨"_law_roll", "_law_roll", defArgs (top 23), defBody (top 23), defScope (top 23), ["cup", "many", "found"], ["cup", "many"], [], t12⟩
/- _law_some -/
def t13 : T := (.seq (.ret (.op .ix (.var 1) (.call 12 (.cons (.var 0) (.cons (.un .len (.var 1)) .nil))))) .skip)
def d13 : Df := ⟨"_law_some", "_law_some", defArgs (top 24), defBody (top 24), defScope (top 24), ["cup", "things"], ["cup", "things"], [], t13⟩
/- _law_sort -/
def t14 : T := (.seq (.ifs (.or (.op .isN (.var 0) .non) (.un (.isT 1) (.var 0))) (.seq (.ret (.ite (.op .isN (.var 0) .non) (.int 0) (.int 1))) .skip) .skip) (.seq (.ifs (.or (.un (.isT 0) (.var 0)) (.un (.isT 2) (.var 0))) (.seq (.ret (.ite (.un (.isT 0) (.var 0)) (.int 2) (.int 3))) .skip) .skip) (.seq (.ret (.ite (.un (.isT 3) (.var 0)) (.int 4) (.ite (.un (.isT 4) (.var 0)) (.int 5) (.int 6)))) .skip)))
def d14 : Df := ⟨"_law_sort", "_law_sort", defArgs (top 25), defBody (top 25), defScope (top 25), ["value"], ["value"], [], t14⟩
/- _law_like -/
def t15 : T := (.seq (.set (.v 2) (.call 14 (.cons (.var 1) .nil))) (.seq (.ifs (.or (.op .ne (.call 14 (.cons (.var 0) .nil)) (.var 2)) (.op .eq (.var 2) (.int 6))) (.seq (.ret (.bl false)) .skip) .skip) (.seq (.ifs (.op .isin (.var 2) (.tup (.cons (.int 4) (.cons (.int 5) .nil)))) (.seq (.ret (.and (.op .eq (.un .len (.var 0)) (.un .len (.var 1))) (.op .eq (.lc (.int 1) (.tup (.cons (.v 3) (.cons (.v 4) .nil))) (.zip (.var 0) (.var 1)) (.un .not (.call 15 (.cons (.var 3) (.cons (.var 4) .nil)))) [3, 4]) (.lst .nil)))) .skip) .skip) (.seq (.ret (.op .eq (.var 0) (.var 1))) .skip))))
def d15 : Df := ⟨"_law_like", "_law_like", defArgs (top 26), defBody (top 26), defScope (top 26), ["one", "other", "sort", "first", "second"], ["one", "other"], [], t15⟩
/- _law_table -/
def t16 : T := (.seq (.set (.v 1) (.call 13 (.cons (.var 0) (.cons (.lst (.cons (.int 2) (.cons (.int 9) (.cons (.op .pow (.int 10) (.int 25)) .nil)))) .nil)))) (.seq (.set (.v 2) (.lc (.op .add (.op .sub (.call 12 (.cons (.var 0) (.cons (.int 9) .nil))) (.int 4)) (.ite (.op .eq (.call 12 (.cons (.var 0) (.cons (.int 3) .nil))) (.int 0)) (.var 1) (.int 0))) (.v 3) (.rng1 (.int 4)) (.bl true) [3])) (.seq (.ret (.tup (.cons (.tup (.cons (.op .ix (.var 2) (.int 0)) (.cons (.op .ix (.var 2) (.int 1)) .nil))) (.cons (.tup (.cons (.op .ix (.var 2) (.int 2)) (.cons (.op .ix (.var 2) (.int 3)) .nil))) .nil)))) .skip)))
def d16 : Df := ⟨"_law_table", "_law_table", defArgs (top 28), defBody (top 28), defScope (top 28), ["cup", "far", "numbers", "spot"], ["cup"], [], t16⟩
/- _law_product -/
def t17 : T := (.seq (.own 2 (.lst .nil)) (.seq (.«for» (.v 3) (.rng1 (.int 2)) (.seq (.app 2 (.un .toTup (.lc (.un .sum (.lc (.op .mul (.op .ix (.op .ix (.var 0) (.var 3)) (.var 5)) (.op .ix (.op .ix (.var 1) (.var 5)) (.var 4))) (.v 5) (.rng1 (.int 2)) (.bl true) [5])) (.v 4) (.rng1 (.int 2)) (.bl true) [4]))) .skip)) (.seq (.ret (.un .toTup (.rd 2))) .skip)))
def d17 : Df := ⟨"_law_product", "_law_product", defArgs (top 29), defBody (top 29), defScope (top 29), ["one", "other", "rows", "at", "spot", "mid"], ["one", "other"], [2], t17⟩
/- _law_tables_right -/
def t18 : T := (.seq (.set (.tup (.cons (.v 3) (.cons (.v 4) (.cons (.v 5) .nil)))) (.tup (.cons (.call 16 (.cons (.var 0) .nil)) (.cons (.call 16 (.cons (.var 0) .nil)) (.cons (.call 16 (.cons (.var 0) .nil)) .nil))))) (.seq (.set (.v 1) (.call 17 (.cons (.var 3) (.cons (.var 4) .nil)))) (.seq (.set (.v 2) (.lst (.cons (.call 4 (.cons (.var 3) .nil)) (.cons (.call 8 (.cons (.var 3) (.cons (.var 4) .nil))) (.cons (.call 9 (.cons (.var 3) .nil)) (.cons (.call 10 (.cons (.var 3) .nil)) (.cons (.call 8 (.cons (.call 8 (.cons (.var 3) (.cons (.var 4) .nil))) (.cons (.var 5) .nil))) .nil))))))) (.seq (.ifs (.un .not (.call 15 (.cons (.var 2) (.cons (.lst (.cons (.bl true) (.cons (.var 1) (.cons (.op .add (.op .ix (.op .ix (.var 3) (.int 0)) (.int 0)) (.op .ix (.op .ix (.var 3) (.int 1)) (.int 1))) (.cons (.op .sub (.op .mul (.op .ix (.op .ix (.var 3) (.int 0)) (.int 0)) (.op .ix (.op .ix (.var 3) (.int 1)) (.int 1))) (.op .mul (.op .ix (.op .ix (.var 3) (.int 0)) (.int 1)) (.op .ix (.op .ix (.var 3) (.int 1)) (.int 0)))) (.cons (.call 17 (.cons (.var 3) (.cons (.call 17 (.cons (.var 4) (.cons (.var 5) .nil))) .nil))) .nil)))))) .nil)))) (.seq (.ret (.bl false)) .skip) .skip) (.seq (.set (.v 2) (.lst (.cons (.call 10 (.cons (.call 8 (.cons (.var 3) (.cons (.var 4) .nil))) .nil)) (.cons (.call 9 (.cons (.call 8 (.cons (.var 3) (.cons (.var 4) .nil))) .nil)) .nil)))) (.seq (.ret (.call 15 (.cons (.var 2) (.cons (.lst (.cons (.op .mul (.call 10 (.cons (.var 3) .nil)) (.call 10 (.cons (.var 4) .nil))) (.cons (.call 9 (.cons (.call 8 (.cons (.var 4) (.cons (.var 3) .nil))) .nil)) .nil))) .nil)))) .skip))))))
def d18 : Df := ⟨"_law_tables_right", "_law_tables_right", defArgs (top 30), defBody (top 30), defScope (top 30), ["cup", "due", "told", "one", "other", "third"], ["cup"], [], t18⟩
/- _law_words_right -/
def t19 : T := (.seq (.set (.v 1) (.un .toTup (.lc (.call 12 (.cons (.var 0) (.cons (.int 2) .nil))) (.v 7) (.rng1 (.op .add (.int 1) (.call 12 (.cons (.var 0) (.cons (.int 20) .nil))))) (.bl true) [7]))) (.seq (.set (.v 2) (.un .toTup (.lc (.call 12 (.cons (.var 0) (.cons (.int 2) .nil))) (.v 7) (.rng1 (.op .add (.int 1) (.call 12 (.cons (.var 0) (.cons (.int 20) .nil))))) (.bl true) [7]))) (.seq (.set (.v 3) (.tup (.cons (.tup (.cons (.int 1) (.cons (.int 0) .nil))) (.cons (.tup (.cons (.int 0) (.cons (.int 1) .nil))) .nil)))) (.seq (.«for» (.v 4) (.var 1) (.seq (.set (.v 3) (.call 17 (.cons (.var 3) (.cons (.ite (.op .eq (.var 4) (.int 1)) (.tup (.cons (.tup (.cons (.int 3) (.cons (.int 2) .nil))) (.cons (.tup (.cons (.int 4) (.cons (.int 3) .nil))) .nil))) (.tup (.cons (.tup (.cons (.int 1) (.cons (.int 1) .nil))) (.cons (.tup (.cons (.int 1) (.cons (.int 2) .nil))) .nil)))) .nil)))) .skip)) (.seq (.set (.v 5) (.lst (.cons (.call 11 (.cons (.var 1) .nil)) (.cons (.call 10 (.cons (.call 11 (.cons (.var 1) .nil)) .nil)) (.cons (.call 11 (.cons (.op .add (.var 1) (.var 2)) .nil)) .nil))))) (.seq (.ifs (.un .not (.call 15 (.cons (.var 5) (.cons (.lst (.cons (.var 3) (.cons (.int 1) (.cons (.call 17 (.cons (.var 3) (.cons (.call 11 (.cons (.var 2) .nil)) .nil))) .nil)))) .nil)))) (.seq (.ret (.bl false)) .skip) .skip) (.seq (.set (.v 6) (.call 12 (.cons (.var 0) (.cons (.un .len (.var 1)) .nil)))) (.seq (.ret (.call 15 (.cons (.call 9 (.cons (.call 11 (.cons (.op .add (.slcL (.var 1) (.var 6)) (.slcH (.var 1) (.var 6))) .nil)) .nil)) (.cons (.op .add (.op .ix (.op .ix (.var 3) (.int 0)) (.int 0)) (.op .ix (.op .ix (.var 3) (.int 1)) (.int 1))) .nil)))) .skip))))))))
def d19 : Df := ⟨"_law_words_right", "_law_words_right", defArgs (top 31), defBody (top 31), defScope (top 31), ["cup", "one", "other", "due", "letter", "told", "at", "spot"], ["cup"], [], t19⟩
/- _law_limits_right -/
def t20 : T := (.seq (.set (.v 0) (.lst (.cons (.call 11 (.cons (.tup (.cons (.int 0) .nil)) .nil)) (.cons (.call 11 (.cons (.tup (.cons (.int 1) .nil)) .nil)) (.cons (.call 11 (.cons (.tup (.cons (.int 0) (.cons (.int 1) .nil))) .nil)) (.cons (.call 11 (.cons (.tup (.cons (.int 0) (.cons (.int 0) (.cons (.int 1) .nil)))) .nil)) (.cons (.call 9 (.cons (.call 11 (.cons (.tup (.cons (.int 0) (.cons (.int 1) (.cons (.int 1) .nil)))) .nil)) .nil)) (.cons (.call 10 (.cons (.call 11 (.cons (.tup (.cons (.int 1) (.cons (.int 0) (.cons (.int 1) .nil)))) .nil)) .nil)) .nil)))))))) (.seq (.set (.v 1) (.lst (.cons (.tup (.cons (.tup (.cons (.int 1) (.cons (.int 1) .nil))) (.cons (.tup (.cons (.int 1) (.cons (.int 2) .nil))) .nil))) (.cons (.tup (.cons (.tup (.cons (.int 3) (.cons (.int 2) .nil))) (.cons (.tup (.cons (.int 4) (.cons (.int 3) .nil))) .nil))) (.cons (.tup (.cons (.tup (.cons (.int 7) (.cons (.int 5) .nil))) (.cons (.tup (.cons (.int 11) (.cons (.int 8) .nil))) .nil))) (.cons (.tup (.cons (.tup (.cons (.int 18) (.cons (.int 13) .nil))) (.cons (.tup (.cons (.int 29) (.cons (.int 21) .nil))) .nil))) (.cons (.int 87) (.cons (.int 1) .nil)))))))) (.seq (.set (.v 0) (.op .add (.var 0) (.lst (.cons (.call 8 (.cons (.tup (.cons (.tup (.cons (.int 1) (.cons (.int 2) .nil))) (.cons (.tup (.cons (.int 3) (.cons (.int 4) .nil))) .nil))) (.cons (.tup (.cons (.tup (.cons (.int 0) (.cons (.int 1) .nil))) (.cons (.tup (.cons (.int 1) (.cons (.int 0) .nil))) .nil))) .nil))) (.cons (.call 8 (.cons (.tup (.cons (.tup (.cons (.int 0) (.cons (.int 1) .nil))) (.cons (.tup (.cons (.int 1) (.cons (.int 0) .nil))) .nil))) (.cons (.tup (.cons (.tup (.cons (.int 1) (.cons (.int 2) .nil))) (.cons (.tup (.cons (.int 3) (.cons (.int 4) .nil))) .nil))) .nil))) .nil))))) (.seq (.set (.v 0) (.op .add (.var 0) (.lst (.cons (.call 9 (.cons (.tup (.cons (.tup (.cons (.int 5) (.cons (.int 9) .nil))) (.cons (.tup (.cons (.int 9) (.cons (.un .neg (.int 7)) .nil))) .nil))) .nil)) (.cons (.call 10 (.cons (.tup (.cons (.tup (.cons (.int 5) (.cons (.int 1) .nil))) (.cons (.tup (.cons (.int 2) (.cons (.int 3) .nil))) .nil))) .nil)) (.cons (.call 10 (.cons (.tup (.cons (.tup (.cons (.int 0) (.cons (.int 1) .nil))) (.cons (.tup (.cons (.int 1) (.cons (.int 0) .nil))) .nil))) .nil)) .nil)))))) (.seq (.set (.v 1) (.op .add (.var 1) (.lst (.cons (.tup (.cons (.tup (.cons (.int 2) (.cons (.int 1) .nil))) (.cons (.tup (.cons (.int 4) (.cons (.int 3) .nil))) .nil))) (.cons (.tup (.cons (.tup (.cons (.int 3) (.cons (.int 4) .nil))) (.cons (.tup (.cons (.int 1) (.cons (.int 2) .nil))) .nil))) (.cons (.un .neg (.int 2)) (.cons (.int 13) (.cons (.un .neg (.int 1)) .nil)))))))) (.seq (.ifs (.un .not (.call 15 (.cons (.var 0) (.cons (.var 1) .nil)))) (.seq (.ret (.bl false)) .skip) .skip) (.seq (.set (.v 2) (.lst (.cons .non (.cons (.tup .nil) (.cons (.tup (.cons (.tup (.cons (.int 1) (.cons (.int 2) .nil))) .nil)) (.cons (.tup (.cons (.tup (.cons (.int 1) (.cons (.int 2) .nil))) (.cons (.tup (.cons (.int 3) .nil)) .nil))) (.cons (.tup (.cons (.tup (.cons (.int 1) (.cons (.int 2) .nil))) (.cons (.tup (.cons (.int 3) (.cons (.int 4) .nil))) (.cons (.tup (.cons (.int 5) (.cons (.int 6) .nil))) .nil)))) (.cons (.lst (.cons (.tup (.cons (.int 1) (.cons (.int 2) .nil))) (.cons (.tup (.cons (.int 3) (.cons (.int 4) .nil))) .nil))) (.cons (.tup (.cons (.tup (.cons (.int 1) (.cons (.int 2) .nil))) (.cons (.lst (.cons (.int 3) (.cons (.int 4) .nil))) .nil))) (.cons (.tup (.cons (.tup (.cons (.int 1) (.cons (.int 2) .nil))) (.cons (.tup (.cons (.int 3) (.cons (.bl true) .nil))) .nil))) (.cons (.tup (.cons (.tup (.cons (.int 1) (.cons .non .nil))) (.cons (.tup (.cons (.int 3) (.cons (.int 4) .nil))) .nil))) (.cons (.tup (.cons (.int 1) (.cons (.int 2) .nil))) (.cons (.int 0) (.cons (.tup (.cons (.tup (.cons (.int 1) (.cons (.int 2) .nil))) (.cons (.str [51, 52]) .nil))) .nil)))))))))))))) (.seq (.set (.v 3) (.lst (.cons .non (.cons (.tup .nil) (.cons (.tup (.cons (.int 2) .nil)) (.cons (.lst (.cons (.int 0) .nil)) (.cons (.tup (.cons (.bl true) .nil)) (.cons (.tup (.cons (.int 0) (.cons .non .nil))) (.cons (.int 0) (.cons (.op .add (.op .mul (.tup (.cons (.int 0) (.cons (.int 1) .nil))) (.int 200)) (.tup (.cons (.int 0) .nil))) .nil)))))))))) (.seq (.ifs (.un .not (.call 15 (.cons (.lc (.call 4 (.cons (.var 5) .nil)) (.v 5) (.op .add (.var 2) (.lst (.cons (.tup (.cons (.tup (.cons (.int 0) (.cons (.int 0) .nil))) (.cons (.tup (.cons (.int 0) (.cons (.int 0) .nil))) .nil))) (.cons (.tup (.cons (.tup (.cons (.op .pow (.int 10) (.int 50)) (.cons (.un .neg (.int 1)) .nil))) (.cons (.tup (.cons (.int 1) (.cons (.int 2) .nil))) .nil))) .nil)))) (.bl true) [5]) (.cons (.op .add (.op .mul (.lst (.cons (.bl false) .nil)) (.int 12)) (.op .mul (.lst (.cons (.bl true) .nil)) (.int 2))) .nil)))) (.seq (.ret (.bl false)) .skip) .skip) (.seq (.set (.v 4) (.lst .nil)) (.seq (.«for» (.v 5) (.var 2) (.seq (.«for» (.v 7) (.tup (.cons (.fnv 9) (.cons (.fnv 10) .nil))) (.seq (.set (.v 4) (.op .add (.var 4) (.lst (.cons (.err (.callv 7 (.cons (.var 5) .nil))) .nil)))) .skip)) (.seq (.set (.v 4) (.op .add (.var 4) (.lst (.cons (.err (.call 8 (.cons (.var 5) (.cons .non .nil)))) .nil)))) (.seq (.set (.v 4) (.op .add (.var 4) (.lst (.cons (.err (.call 8 (.cons (.tup (.cons (.tup (.cons (.int 1) (.cons (.int 0) .nil))) (.cons (.tup (.cons (.int 0) (.cons (.int 1) .nil))) .nil))) (.cons (.var 5) .nil)))) .nil)))) .skip)))) (.seq (.«for» (.v 5) (.var 3) (.seq (.set (.v 4) (.op .add (.var 4) (.lst (.cons (.err (.call 11 (.cons (.var 5) .nil))) .nil)))) .skip)) (.seq (.set (.v 6) (.call 11 (.cons (.op .mul (.tup (.cons (.int 0) (.cons (.int 1) .nil))) (.int 200)) .nil))) (.seq (.ret (.and (.op .eq (.var 4) (.op .add (.op .mul (.lst (.cons (.str [116, 97, 98, 108, 101]) .nil)) (.int 48)) (.op .mul (.lst (.cons (.str [119, 111, 114, 100]) .nil)) (.int 8)))) (.call 15 (.cons (.lst (.cons (.call 10 (.cons (.var 6) .nil)) (.cons (.op .eq (.op .mul (.op .ix (.op .ix (.var 6) (.int 0)) (.int 1)) (.int 11)) (.op .mul (.op .ix (.op .ix (.var 6) (.int 1)) (.int 0)) (.int 5))) .nil))) (.cons (.lst (.cons (.int 1) (.cons (.bl true) .nil))) .nil))))) .skip))))))))))))))
def d20 : Df := ⟨"_law_limits_right", "_law_limits_right", defArgs (top 32), defBody (top 32), defScope (top 32), ["told", "due", "odds", "bent", "words", "odd", "far", "name"], [], [], t20⟩
/- law -/
def tlaw : T := (.seq (.ifs (.un .not (.call 20 .nil)) (.seq (.ret (.bl false)) .skip) .skip) (.seq (.«for» (.v 2) (.rng1 (.int 12)) (.seq (.ifs (.or (.un .not (.call 18 (.cons (.var 1) .nil))) (.un .not (.call 19 (.cons (.var 1) .nil)))) (.seq (.ret (.bl false)) .skip) .skip) .skip)) (.seq (.ret (.bl true)) .skip)))
def dlaw : Df := ⟨"law", "law", defArgs (top 33), defBody (top 33), defScope (top 33), ["script", "cup", "turn"], ["script"], [], tlaw⟩
def L : List Df := [d0, d1, d2, d3, d4, d5, d6, d7, d8, d9, d10, d11, d12, d13, d14, d15, d16, d17, d18, d19, d20]
theorem ok_d0 : d0.okB gl bl = true := by decide +kernel
theorem ok_d1 : d1.okB gl bl = true := by decide +kernel
theorem ok_d2 : d2.okB gl bl = true := by decide +kernel
theorem ok_d3 : d3.okB gl bl = true := by decide +kernel
theorem ok_d4 : d4.okB gl bl = true := by decide +kernel
theorem ok_d5 : d5.okB gl bl = true := by decide +kernel
theorem ok_d6 : d6.okB gl bl = true := by decide +kernel
theorem ok_d7 : d7.okB gl bl = true := by decide +kernel
theorem ok_d8 : d8.okB gl bl = true := by decide +kernel
theorem ok_d9 : d9.okB gl bl = true := by decide +kernel
theorem ok_d10 : d10.okB gl bl = true := by decide +kernel
theorem ok_d11 : d11.okB gl bl = true := by decide +kernel
theorem ok_d12 : d12.okB gl bl = true := by decide +kernel
theorem ok_d13 : d13.okB gl bl = true := by decide +kernel
theorem ok_d14 : d14.okB gl bl = true := by decide +kernel
theorem ok_d15 : d15.okB gl bl = true := by decide +kernel
theorem ok_d16 : d16.okB gl bl = true := by decide +kernel
theorem ok_d17 : d17.okB gl bl = true := by decide +kernel
theorem ok_d18 : d18.okB gl bl = true := by decide +kernel
theorem ok_d19 : d19.okB gl bl = true := by decide +kernel
theorem ok_d20 : d20.okB gl bl = true := by decide +kernel
theorem ok_dlaw : dlaw.lawB gl bl = true := by decide +kernel
def dcup : Df := ⟨"_law_cup", "_law_cup", defArgs (top 22), defBody (top 22), defScope (top 22), ["script", "cell"], ["script"], [], .skip⟩
def derr : Df := ⟨"_law_error", "_law_error", defArgs (top 27), defBody (top 27), defScope (top 27), ["call", "e", "pairs", "word", "is_so"], ["call"], [], .skip⟩
def er : Er := ⟨[([116, 97, 98, 108, 101], "InvalidTable"), ([119, 111, 114, 100], "InvalidWord")], [], [[false, false], [false, true], [true, false]]⟩
def pd : Pd := ⟨gl, bl, [(.int 400), (.tup [(.tup [(.tup [(.int 1), (.int 1)]), (.tup [(.int 1), (.int 2)])]), (.tup [(.tup [(.int 3), (.int 2)]), (.tup [(.int 4), (.int 3)])])])], L, dcup, derr, dlaw, ["TripleError", "InvalidWord", "InvalidTable"], [], er.h⟩
theorem ok2 : pd.ok2 er = true := by decide +kernel
theorem okc : scopeB dcup = true := by decide +kernel
theorem oke : scopeB derr = true := by decide +kernel
theorem okL : AllP (fun d => d.okB pd.gl pd.bl = true) pd.L := ⟨ok_d0, ok_d1, ok_d2, ok_d3, ok_d4, ok_d5, ok_d6, ok_d7, ok_d8, ok_d9, ok_d10, ok_d11, ok_d12, ok_d13, ok_d14, ok_d15, ok_d16, ok_d17, ok_d18, ok_d19, ok_d20, trivial⟩
theorem b_d0 : BindOk d0 := fun _ _ _ _ _ _ us hl => match us, hl with | [_, _, _], _ => rfl
theorem b_d1 : BindOk d1 := fun _ _ _ _ _ _ us hl => match us, hl with | [_, _, _], _ => rfl
theorem b_d2 : BindOk d2 := fun _ _ _ _ _ _ us hl => match us, hl with | [_], _ => rfl
theorem b_d3 : BindOk d3 := fun _ _ _ _ _ _ us hl => match us, hl with | [_], _ => rfl
theorem b_d4 : BindOk d4 := fun _ _ _ _ _ _ us hl => match us, hl with | [_], _ => rfl
theorem b_d5 : BindOk d5 := fun _ _ _ _ _ _ us hl => match us, hl with | [_], _ => rfl
theorem b_d6 : BindOk d6 := fun _ _ _ _ _ _ us hl => match us, hl with | [_, _], _ => rfl
theorem b_d7 : BindOk d7 := fun _ _ _ _ _ _ us hl => match us, hl with | [_], _ => rfl
theorem b_d8 : BindOk d8 := fun _ _ _ _ _ _ us hl => match us, hl with | [_, _], _ => rfl
theorem b_d9 : BindOk d9 := fun _ _ _ _ _ _ us hl => match us, hl with | [_], _ => rfl
theorem b_d10 : BindOk d10 := fun _ _ _ _ _ _ us hl => match us, hl with | [_], _ => rfl
theorem b_d11 : BindOk d11 := fun _ _ _ _ _ _ us hl => match us, hl with | [_], _ => rfl
theorem b_d12 : BindOk d12 := fun _ _ _ _ _ _ us hl => match us, hl with | [_, _], _ => rfl
theorem b_d13 : BindOk d13 := fun _ _ _ _ _ _ us hl => match us, hl with | [_, _], _ => rfl
theorem b_d14 : BindOk d14 := fun _ _ _ _ _ _ us hl => match us, hl with | [_], _ => rfl
theorem b_d15 : BindOk d15 := fun _ _ _ _ _ _ us hl => match us, hl with | [_, _], _ => rfl
theorem b_d16 : BindOk d16 := fun _ _ _ _ _ _ us hl => match us, hl with | [_], _ => rfl
theorem b_d17 : BindOk d17 := fun _ _ _ _ _ _ us hl => match us, hl with | [_, _], _ => rfl
theorem b_d18 : BindOk d18 := fun _ _ _ _ _ _ us hl => match us, hl with | [_], _ => rfl
theorem b_d19 : BindOk d19 := fun _ _ _ _ _ _ us hl => match us, hl with | [_], _ => rfl
theorem b_d20 : BindOk d20 := fun _ _ _ _ _ _ us hl => match us, hl with | [], _ => rfl
theorem b_dlaw : BindOk dlaw := fun _ _ _ _ _ _ us hl => match us, hl with | [_], _ => rfl
theorem b_dcup : BindOk dcup := fun _ _ _ _ _ _ us hl => match us, hl with | [_], _ => rfl
theorem b_derr : BindOk derr := fun _ _ _ _ _ _ us hl => match us, hl with | [_], _ => rfl
theorem okB : AllP BindOk pd.L := ⟨b_d0, b_d1, b_d2, b_d3, b_d4, b_d5, b_d6, b_d7, b_d8, b_d9, b_d10, b_d11, b_d12, b_d13, b_d14, b_d15, b_d16, b_d17, b_d18, b_d19, b_d20, trivial⟩
abbrev R : PySem.W.OpenRow := PySem.W.OpenLaw.row PySem.Challenge.rw_triplesled_k01_whole_tables
abbrev hk : PySem.W.Hook := He.hookX 5 pd.fa2 pd.fn [] pd.tfs (pd.ex2 er)
def ob (s : PySem.W.SharedT) : He.AlX := He.obsX 5 pd.fa2 pd.fn [] pd.tfs (pd.ex2 er) (HandSHeadRun.getT s)
theorem ob_eq (s : PySem.W.SharedT) : ob s = hk.obs s.abs := He.obsX_eq (HandSHeadRun.getT_eq s)
def loose : List Str := (["TripleError", "InvalidWord", "InvalidTable", "is_whole", "is_tuple_of", "LETTERS_words", "is_word", "need_word", "LETTERS_tables", "is_table", "need_table", "times", "made", "table_product", "trace", "determinant", "table_of_word", "_law_cup", "_law_roll", "_law_some", "_law_sort", "_law_like", "_law_error", "_law_table", "_law_product", "_law_tables_right", "_law_words_right", "_law_limits_right"] : List Str)
theorem run (w : World) : HandSHeadRun.RunEq R (PySem.W.view R.prog [33]) hk ob 3000 loose w := by
  intro os
  kernel_rfl
end Cv.K01

set_option Elab.async false
set_option linter.all false
set_option maxRecDepth 100000
set_option maxHeartbeats 1000000
namespace Cv.K01
open Cv PySem
abbrev PG : Pg := mkPg L er.h pd.k
theorem hs : PG.fns[14]? = some ⟨1, 1, sortT⟩ := rfl
theorem hl : PG.fns[15]? = some ⟨2, 5, likeT 14 15⟩ := rfl
theorem hr : PG.fns[12]? = some ⟨2, 3, rollT⟩ := rfl
theorem limits (c : Cup) : callD PG 202 20 [] c = .ok (.bl true) c := by kernel_rfl
/-! ### sizes -/
def Sz (n : Nat) (i : Int) : Prop := i.natAbs < 2 ^ n
theorem Sz.mono {n m : Nat} {i : Int} (h : Sz n i) (k : n ≤ m) : Sz m i := Nat.lt_of_lt_of_le h (Nat.pow_le_pow_right (by decide) k)
theorem Sz.mul {n m : Nat} {i j : Int} (h : Sz n i) (k : Sz m j) : Sz (n + m) (i * j) := by
  unfold Sz at *
  rw [Int.natAbs_mul, Nat.pow_add]
  exact Nat.mul_lt_mul'' h k
theorem Sz.add {n : Nat} {i j : Int} (h : Sz n i) (k : Sz n j) : Sz (n + 1) (i + j) := by
  unfold Sz at *
  rw [Nat.pow_succ]
  omega
theorem Sz.log {n : Nat} {i : Int} (h : Sz n i) : i.natAbs.log2 ≤ n := by
  by_cases h0 : i.natAbs = 0
  · rw [h0]; exact Nat.zero_le _
  · exact Nat.le_of_lt ((Nat.log2_lt h0).mpr h)
theorem mulS {n m : Nat} {i j : Int} (h : Sz n i) (k : Sz m j) (hnm : n + m < 1000000) : mulV (.int i) (.int j) = some (.int (i * j)) := by
  show (if mulOk i j = true then some (PV.int (i * j)) else none) = _
  have a := h.log
  have b := k.log
  have : mulOk i j = true := by
    unfold mulOk
    simp only [Bool.or_eq_true, decide_eq_true_eq]
    exact .inr (by omega)
  rw [if_pos this]
/-! ### tables -/
structure Tb where
  a : Int
  b : Int
  c : Int
  d : Int
abbrev Tb.v (t : Tb) : PV := .tup [.tup [.int t.a, .int t.b], .tup [.int t.c, .int t.d]]
def Tb.mul (s t : Tb) : Tb := ⟨s.a * t.a + s.b * t.c, s.a * t.b + s.b * t.d, s.c * t.a + s.d * t.c, s.c * t.b + s.d * t.d⟩
def Tb.Sz (n : Nat) (t : Tb) : Prop := K01.Sz n t.a ∧ K01.Sz n t.b ∧ K01.Sz n t.c ∧ K01.Sz n t.d
theorem Tb.assoc (s t u : Tb) : (s.mul t).mul u = s.mul (t.mul u) := by
  unfold Tb.mul
  simp only [Tb.mk.injEq]
  refine ⟨?_, ?_, ?_, ?_⟩ <;> grind
theorem c6 (d : Nat) : callD PG (d + 1) 6 = runFn (callsAt PG d) ⟨2, 10, t6⟩ := rfl
theorem times (d : Nat) (s t : Tb) {n m : Nat} (hs : s.Sz n) (ht : t.Sz m) (hnm : n + m < 1000000) (c : Cup) : callD PG (d + 1) 6 [s.v, t.v] c = .ok (s.mul t).v c := by
  obtain ⟨h1, h2, h3, h4⟩ := hs
  obtain ⟨k1, k2, k3, k4⟩ := ht
  rw [c6]
  simp [runFn, t6, sem, ofE, ofS, bnd, then_ok, lift, opM, opV, Tg.f, addV, big, Tb.mul, mulS h1 k1 hnm, mulS h2 k3 hnm, mulS h1 k2 hnm, mulS h2 k4 hnm, mulS h3 k1 hnm, mulS h4 k3 hnm, mulS h3 k2 hnm, mulS h4 k4 hnm]
theorem is_table (d : Nat) (t : Tb) (c : Cup) : callD PG (d + 2) 4 [t.v] c = .ok (.bl true) c := rfl
theorem need_table (d : Nat) (t : Tb) (c : Cup) : callD PG (d + 3) 5 [t.v] c = .ok .non c := rfl
theorem c8 (d : Nat) : callD PG (d + 1) 8 = runFn (callsAt PG d) ⟨2, 2, t8⟩ := rfl
theorem c9 (d : Nat) : callD PG (d + 1) 9 = runFn (callsAt PG d) ⟨1, 1, t9⟩ := rfl
theorem c10 (d : Nat) : callD PG (d + 1) 10 = runFn (callsAt PG d) ⟨1, 1, t10⟩ := rfl
theorem product (d : Nat) (s t : Tb) {n m : Nat} (hs : s.Sz n) (ht : t.Sz m) (hnm : n + m < 1000000) (c : Cup) : callD PG (d + 4) 8 [s.v, t.v] c = .ok (s.mul t).v c := by
  rw [c8]
  simp [runFn, t8, sem, ofE, ofS, bnd, then_ok, cc_at, need_table d, times (d + 2) s t hs ht hnm]
theorem trace (d : Nat) (t : Tb) (c : Cup) : callD PG (d + 4) 9 [t.v] c = .ok (.int (t.a + t.d)) c := rfl
theorem determinant (d : Nat) (t : Tb) {n : Nat} (ht : t.Sz n) (hn : n < 400000) (c : Cup) : callD PG (d + 4) 10 [t.v] c = .ok (.int (t.a * t.d - t.b * t.c)) c := by
  obtain ⟨k1, k2, k3, k4⟩ := ht
  rw [c10]
  simp [runFn, t10, sem, ofE, ofS, bnd, then_ok, lift, cc_at, need_table d, opM, opV, ixV, atIx, subV, mulS k1 k4 (by omega), mulS k2 k3 (by omega)]
theorem c17 (d : Nat) : callD PG (d + 1) 17 = runFn (callsAt PG d) ⟨2, 6, t17⟩ := rfl
theorem lawprod (d : Nat) (s t : Tb) {n m : Nat} (hs : s.Sz n) (ht : t.Sz m) (hnm : n + m < 1000000) (c : Cup) : callD PG (d + 1) 17 [s.v, t.v] c = .ok (s.mul t).v c := by
  obtain ⟨h1, h2, h3, h4⟩ := hs
  obtain ⟨k1, k2, k3, k4⟩ := ht
  rw [c17]
  simp [runFn, t17, sem, ofE, ofET, ofS, ofI, bnd, then_ok, truM, PV.tru, lift, opM, opV, Tg.f, ixV, atIx, intM, rngOk, upto, big, noExc, lcL, wipeE, forL, unV, toTupV, sumV, seqI, intL, sumI, Tb.mul, mulS h1 k1 hnm, mulS h2 k3 hnm, mulS h1 k2 hnm, mulS h2 k4 hnm, mulS h3 k1 hnm, mulS h4 k3 hnm, mulS h3 k2 hnm, mulS h4 k4 hnm]
end Cv.K01

set_option Elab.async false
set_option linter.all false
set_option maxRecDepth 100000
set_option maxHeartbeats 1000000
namespace Cv.K01
open Cv PySem
abbrev vl (v : PV) : Option Slot := some (.val v)
abbrev lt (b : Bool) : PV := .int (if b then 1 else 0)
def ltT (b : Bool) : Tb := if b then ⟨3, 2, 4, 3⟩ else ⟨1, 1, 1, 2⟩
def wT (s : Tb) (w : List Bool) : Tb := w.foldl (fun s b => s.mul (ltT b)) s
theorem ltT_sz (b : Bool) : (ltT b).Sz 3 := by
  cases b
  · exact ⟨by show (1 : Int).natAbs < 2 ^ 3; decide, by show (1 : Int).natAbs < 2 ^ 3; decide, by show (1 : Int).natAbs < 2 ^ 3; decide, by show (2 : Int).natAbs < 2 ^ 3; decide⟩
  · exact ⟨by show (3 : Int).natAbs < 2 ^ 3; decide, by show (2 : Int).natAbs < 2 ^ 3; decide, by show (4 : Int).natAbs < 2 ^ 3; decide, by show (3 : Int).natAbs < 2 ^ 3; decide⟩
theorem mul_sz {s t : Tb} {n m : Nat} (hs : s.Sz n) (ht : t.Sz m) : (s.mul t).Sz (n + m + 1) :=
  ⟨(hs.1.mul ht.1).add (hs.2.1.mul ht.2.2.1), (hs.1.mul ht.2.1).add (hs.2.1.mul ht.2.2.2), (hs.2.2.1.mul ht.1).add (hs.2.2.2.mul ht.2.2.1), (hs.2.2.1.mul ht.2.1).add (hs.2.2.2.mul ht.2.2.2)⟩
def bm : T := (.seq (.set (.v 1) (.call 6 (.cons (.var 1) (.cons (.op .ix (.cst 1) (.var 2)) .nil)))) .skip)
theorem made_loop (d : Nat) (o0 : Option Slot) (c : Cup) : ∀ (w : List Bool) (s : Tb) (n : Nat) (o2 : Option Slot), s.Sz n → n + 4 * w.length < 400000 →
    ∃ p2, forL (Tg.f (.v 2)) (sem bm (callsAt PG (d + 1))).s (w.map lt) [o0, vl s.v, o2] c = .ok (.nx [o0, vl (wT s w).v, p2]) c
  | [], s, n, o2, _, _ => ⟨o2, rfl⟩
  | b :: w, s, n, o2, hs, hn => by
    rw [List.length_cons] at hn
    obtain ⟨p2, h⟩ := made_loop d o0 c w (s.mul (ltT b)) (n + 3 + 1) (vl (lt b)) (mul_sz hs (ltT_sz b)) (by omega)
    refine ⟨p2, ?_⟩
    have h1 := times d s (ltT b) hs (ltT_sz b) (by omega) c
    have hb : (sem bm (callsAt PG (d + 1))).s [o0, vl s.v, vl (lt b)] c = .ok (.nx [o0, vl (s.mul (ltT b)).v, vl (lt b)]) c := by
      cases b
      · simp only [ltT, Bool.false_eq_true, if_false] at h1
        simp [bm, sem, ofE, ofS, bnd, then_ok, lift, cc_at, opM, opV, ixV, atIx, Tg.f, pd, ltT, h1]
      · simp only [ltT, if_true] at h1
        simp [bm, sem, ofE, ofS, bnd, then_ok, lift, cc_at, opM, opV, ixV, atIx, Tg.f, pd, ltT, h1]
    show ((sem bm (callsAt PG (d + 1))).s [o0, vl s.v, vl (lt b)] c).then _ = _
    rw [hb]
    exact h
theorem wT_mul (w : List Bool) : ∀ s t : Tb, wT (s.mul t) w = s.mul (wT t w) := by
  induction w with
  | nil => intro s t; rfl
  | cons b w ih =>
    intro s t
    show wT ((s.mul t).mul (ltT b)) w = s.mul (wT (t.mul (ltT b)) w)
    rw [Tb.assoc, ih]
end Cv.K01

set_option Elab.async false
set_option linter.all false
set_option maxRecDepth 100000
set_option maxHeartbeats 1000000
namespace Cv.K01
open Cv PySem
theorem boolL_true {α : Type} : ∀ l : List α, boolL (l.map fun _ => PV.bl true) = some (l.map fun _ => true)
  | [] => rfl
  | _ :: l => by
    show (boolL (l.map fun _ => PV.bl true)).map (true :: ·) = _
    rw [boolL_true l]
    rfl
def lw : T := (.lc (.call 0 (.cons (.var 1) (.cons (.int 0) (.cons (.int 1) .nil)))) (.v 1) (.var 0) (.bl true) [1])
theorem t2e : t2 = (.seq (.ret (.and (.call 1 (.cons (.var 0) (.cons (.int 1) (.cons (.cst 0) .nil)))) (.un .all lw))) .skip) := rfl
theorem c2 (d : Nat) : callD PG (d + 1) 2 = runFn (callsAt PG d) ⟨1, 2, t2⟩ := rfl
theorem lw_e (d : Nat) (w : List Bool) (hw : w.length ≤ 400) (o1 : Option Slot) (c : Cup) : (sem lw (callsAt PG (d + 1))).e [vl (.tup (w.map lt)), o1] c = .ok (.lst ((w.map lt).map fun _ => .bl true)) c := by
  have := lc_e (elt := (.call 0 (.cons (.var 1) (.cons (.int 0) (.cons (.int 1) .nil))))) (tg := .v 1) (it := .var 0) (cond := .bl true) (own := [1]) (C := callsAt PG (d + 1)) (env := [vl (.tup (w.map lt)), o1]) (c := c) (xs := w.map lt) (fun _ => true) (fun _ => .bl true) rfl
    (by rw [List.length_map]; show w.length < 16777216; omega) (fun x hx => by
      obtain ⟨b, _, rfl⟩ := List.mem_map.mp hx
      refine ⟨[vl (.tup (w.map lt)), vl (lt b)], rfl, rfl, fun _ => ?_⟩
      cases b <;> rfl)
  rw [show lw = T.lc (.call 0 (.cons (.var 1) (.cons (.int 0) (.cons (.int 1) .nil)))) (.v 1) (.var 0) (.bl true) [1] from rfl, this, filt_true]
theorem is_word (d : Nat) (w : List Bool) (h1 : 1 ≤ w.length) (h2 : w.length ≤ 400) (c : Cup) : callD PG (d + 2) 2 [.tup (w.map lt)] c = .ok (.bl true) c := by
  have hw := lw_e d w h2 none c
  have ht : callD PG (d + 1) 1 [.tup (w.map lt), .int 1, .int 400] c = .ok (.bl true) c := by
    rw [show callD PG (d + 1) 1 = runFn (callsAt PG d) ⟨3, 3, t1⟩ from rfl]
    have a1 : (1 : Int) ≤ (w.length : Int) := by omega
    have a2 : (w.length : Int) ≤ 400 := by omega
    simp [runFn, t1, sem, ofE, ofET, ofS, bnd, then_ok, truM, PV.tru, lift, opM, opV, cmpV, unV, PV.isT, lenV, a1, a2]
  rw [c2, t2e]
  have hb := boolL_true (w.map lt)
  rw [List.map_map] at hb hw
  simp [runFn, sem, ofE, ofET, ofS, bnd, then_ok, truM, PV.tru, lift, cc_at, pd, ht, hw, unV, allV, hb]
def idT : Tb := ⟨1, 0, 0, 1⟩
theorem t7e : t7 = (.seq (.set (.v 1) (.tup (.cons (.tup (.cons (.int 1) (.cons (.int 0) .nil))) (.cons (.tup (.cons (.int 0) (.cons (.int 1) .nil))) .nil)))) (.seq (.«for» (.v 2) (.var 0) bm) (.seq (.ret (.var 1)) .skip))) := rfl
theorem word_table (d : Nat) (w : List Bool) (h1 : 1 ≤ w.length) (h2 : w.length ≤ 400) (c : Cup) : callD PG (d + 4) 11 [.tup (w.map lt)] c = .ok (wT idT w).v c := by
  have hn : callD PG (d + 3) 3 [.tup (w.map lt)] c = .ok .non c := by
    rw [show callD PG (d + 3) 3 = runFn (callsAt PG (d + 2)) ⟨1, 1, t3⟩ from rfl]
    have := is_word d w h1 h2 c
    simp [runFn, t3, sem, ofE, ofET, ofS, bnd, then_ok, truM, PV.tru, lift, cc_at, this]
  have hid : idT.Sz 1 := ⟨by show (1 : Int).natAbs < 2 ^ 1; decide, by show (0 : Int).natAbs < 2 ^ 1; decide, by show (0 : Int).natAbs < 2 ^ 1; decide, by show (1 : Int).natAbs < 2 ^ 1; decide⟩
  obtain ⟨p2, hl⟩ := made_loop (d + 1) (vl (.tup (w.map lt))) c w idT 1 none hid (by omega)
  have hm : callD PG (d + 3) 7 [.tup (w.map lt)] c = .ok (wT idT w).v c := by
    rw [show callD PG (d + 3) 7 = runFn (callsAt PG (d + 2)) ⟨1, 3, t7⟩ from rfl, t7e]
    simp only [Tg.f, idT] at hl
    simp [runFn, sem, ofE, ofS, bnd, then_ok, lift, cc_at, Tg.f, big, PV.items, idT, hl]
  rw [show callD PG (d + 4) 11 = runFn (callsAt PG (d + 3)) ⟨1, 1, t11⟩ from rfl]
  simp [runFn, t11, sem, ofE, ofS, bnd, then_ok, cc_at, hn, hm]
end Cv.K01

set_option Elab.async false
set_option linter.all false
set_option maxRecDepth 100000
set_option maxHeartbeats 1000000
namespace Cv.K01
open Cv PySem
/-- one of three things is drawn -/
theorem some3 (d : Nat) (x y z : PV) (c : Cup) : ∃ v c', callD PG (d + 2) 13 [.cup, .lst [x, y, z]] c = .ok v c' ∧ (v = x ∨ v = y ∨ v = z) := by
  obtain ⟨r, c', h, r0, r1⟩ := roll_of hr d 3 (by decide) (by decide) c
  have hr3 : r = 0 ∨ r = 1 ∨ r = 2 := by omega
  rw [show callD PG (d + 2) 13 = runFn (callsAt PG (d + 1)) ⟨2, 2, t13⟩ from rfl]
  rcases hr3 with rfl | rfl | rfl
  · exact ⟨x, c', by simp [runFn, t13, sem, ofE, ofS, bnd, then_ok, lift, cc_at, unV, lenV, opM, opV, ixV, atIx, h], .inl rfl⟩
  · exact ⟨y, c', by simp [runFn, t13, sem, ofE, ofS, bnd, then_ok, lift, cc_at, unV, lenV, opM, opV, ixV, atIx, h], .inr (.inl rfl)⟩
  · exact ⟨z, c', by simp [runFn, t13, sem, ofE, ofS, bnd, then_ok, lift, cc_at, unV, lenV, opM, opV, ixV, atIx, h], .inr (.inr rfl)⟩
/-- a comprehension whose items draw -/
theorem lcL_draw {f : TgF} {cond : Cv.Env → M Bool} {elt : Cv.Env → M PV} {env0 : Cv.Env} (Q : PV → Prop) : ∀ (xs : List PV) (c : Cup), (∀ x ∈ xs, ∃ e1, f.one x env0 = some e1 ∧ ∀ c, cond e1 c = .ok true c ∧ ∃ y c', elt e1 c = .ok y c' ∧ Q y) →
    ∃ ys c', lcL f cond elt env0 xs c = .ok ys c' ∧ ys.length = xs.length ∧ ∀ y ∈ ys, Q y
  | [], c, _ => ⟨[], c, rfl, rfl, fun _ h => by cases h⟩
  | x :: xs, c, h => by
    obtain ⟨e1, h1, h2⟩ := h x (List.mem_cons_self ..)
    obtain ⟨h3, y, c1, h4, hq⟩ := h2 c
    obtain ⟨ys, c', h5, h6, h7⟩ := lcL_draw Q xs c1 fun v hv => h v (List.mem_cons_of_mem _ hv)
    refine ⟨y :: ys, c', ?_, by simp [h6], fun v hv => by
      rcases List.mem_cons.mp hv with rfl | hv
      · exact hq
      · exact h7 v hv⟩
    unfold lcL
    simp only [h1, bnd, h3, then_ok, h4, h5, ret]
end Cv.K01

set_option Elab.async false
set_option linter.all false
set_option maxRecDepth 100000
set_option maxHeartbeats 1000000
namespace Cv.K01
open Cv PySem
/-! a random table -/
def el16 : T := (.op .add (.op .sub (.call 12 (.cons (.var 0) (.cons (.int 9) .nil))) (.int 4)) (.ite (.op .eq (.call 12 (.cons (.var 0) (.cons (.int 3) .nil))) (.int 0)) (.var 1) (.int 0)))
def lc16 : T := (.lc el16 (.v 3) (.rng1 (.int 4)) (.bl true) [3])
theorem t16e : t16 = (.seq (.set (.v 1) (.call 13 (.cons (.var 0) (.cons (.lst (.cons (.int 2) (.cons (.int 9) (.cons (.op .pow (.int 10) (.int 25)) .nil)))) .nil)))) (.seq (.set (.v 2) lc16) (.seq (.ret (.tup (.cons (.tup (.cons (.op .ix (.var 2) (.int 0)) (.cons (.op .ix (.var 2) (.int 1)) .nil))) (.cons (.tup (.cons (.op .ix (.var 2) (.int 2)) (.cons (.op .ix (.var 2) (.int 3)) .nil))) .nil)))) .skip))) := rfl
theorem el16_e (d : Nat) (f : Int) (hf : Sz 89 f) (o2 o3 : Option Slot) (c : Cup) : ∃ y c', (sem el16 (callsAt PG (d + 1))).e [vl .cup, vl (.int f), o2, o3] c = .ok y c' ∧ ∃ i, y = .int i ∧ Sz 91 i := by
  obtain ⟨r, c1, h1, r0, r1⟩ := roll_of hr d 9 (by decide) (by decide) c
  obtain ⟨s, c2, h2, s0, s1⟩ := roll_of hr d 3 (by decide) (by decide) c1
  have e4 : Sz 4 (r - 4) := by
    show (r - 4).natAbs < 2 ^ 4
    omega
  refine ⟨.int (r - 4 + if s = 0 then f else 0), c2, ?_, _, rfl, ?_⟩
  · by_cases hs : s = 0 <;> simp [el16, sem, ofE, ofETI, bnd, then_ok, truM, PV.tru, lift, cc_at, opM, opV, subV, addV, eqV, PV.dat, PV.eqv, h1, h2, hs]
  · by_cases hs : s = 0
    · rw [if_pos hs]; exact (e4.mono (by omega)).add (hf.mono (m := 90) (by omega))
    · rw [if_neg hs]; rw [Int.add_zero]; exact e4.mono (by omega)
theorem lc_d {elt it cond : T} {tg : Tg} {own : List Nat} {C : Calls} {env : Cv.Env} {c : Cup} {xs : List PV} (Q : PV → Prop) (hi : (sem it C).i env c = .ok xs c) (hl : xs.length < big)
    (h : ∀ x ∈ xs, ∃ e1, tg.f.one x (wipeE env own) = some e1 ∧ ∀ c, (sem cond C).t e1 c = .ok true c ∧ ∃ y c', (sem elt C).e e1 c = .ok y c' ∧ Q y) :
    ∃ ys c', (sem (.lc elt tg it cond own) C).e env c = .ok (.lst ys) c' ∧ ys.length = xs.length ∧ ∀ y ∈ ys, Q y := by
  obtain ⟨ys, c', h1, h2, h3⟩ := lcL_draw Q xs c h
  refine ⟨ys, c', ?_, h2, h3⟩
  show (((sem it C).i env c).then fun xs => if xs.length < big then bnd (noExc (lcL tg.f (sem cond C).t (sem elt C).e (wipeE env own) xs)) fun ys => ret (PV.lst ys) else badM) = _
  rw [hi]
  show ((if xs.length < big then bnd (noExc (lcL tg.f (sem cond C).t (sem elt C).e (wipeE env own) xs)) fun ys => ret (PV.lst ys) else badM) : M PV) c = _
  rw [if_pos hl]
  show (noExc _ c).then _ = _
  rw [noExc_ok h1]
  rfl
theorem lc16_e (d : Nat) (f : Int) (hf : Sz 89 f) (o2 o3 : Option Slot) (c : Cup) : ∃ ys c', (sem lc16 (callsAt PG (d + 1))).e [vl .cup, vl (.int f), o2, o3] c = .ok (.lst ys) c' ∧ ys.length = 4 ∧ ∀ y ∈ ys, ∃ i, y = .int i ∧ Sz 91 i :=
  lc_d (xs := upto 0 4) (fun y => ∃ i, y = .int i ∧ Sz 91 i) rfl (by decide) (fun x hx => ⟨[vl .cup, vl (.int f), o2, vl x], rfl, fun c => ⟨rfl, el16_e d f hf o2 (vl x) c⟩⟩)
theorem law_table (d : Nat) (c : Cup) : ∃ (t : Tb) (c' : Cup), callD PG (d + 3) 16 [.cup] c = .ok t.v c' ∧ t.Sz 91 := by
  obtain ⟨v, c1, h1, hv⟩ := some3 d (.int 2) (.int 9) (.int 10000000000000000000000000) c
  obtain ⟨f, rfl, hf⟩ : ∃ f, v = .int f ∧ Sz 89 f := by
    rcases hv with rfl | rfl | rfl
    · exact ⟨_, rfl, by show (2 : Int).natAbs < 2 ^ 89; decide⟩
    · exact ⟨_, rfl, by show (9 : Int).natAbs < 2 ^ 89; decide⟩
    · exact ⟨_, rfl, by show (10000000000000000000000000 : Int).natAbs < 2 ^ 89; decide⟩
  obtain ⟨ys, c2, h2, hl, hy⟩ := lc16_e (d + 1) f hf none none c1
  match ys, hl with
  | [y0, y1, y2, y3], _ =>
    obtain ⟨a, rfl, ha⟩ := hy y0 (by simp)
    obtain ⟨b, rfl, hb⟩ := hy y1 (by simp)
    obtain ⟨p, rfl, hp⟩ := hy y2 (by simp)
    obtain ⟨q, rfl, hq⟩ := hy y3 (by simp)
    refine ⟨⟨a, b, p, q⟩, c2, ?_, ha, hb, hp, hq⟩
    have hpw : powV (.int 10) (.int 25) = some (.int 10000000000000000000000000) := rfl
    rw [show callD PG (d + 3) 16 = runFn (callsAt PG (d + 2)) ⟨1, 4, t16⟩ from rfl, t16e]
    simp [runFn, sem, ofE, ofS, bnd, then_ok, lift, cc_at, opM, opV, Tg.f, ixV, atIx, big, hpw, h1, h2]
end Cv.K01

set_option Elab.async false
set_option linter.all false
set_option maxRecDepth 100000
set_option maxHeartbeats 1000000
namespace Cv.K01
open Cv PySem
theorem dt_tb (t : Tb) : Dt 2 t.v := .tup (by simp) (fun x hx => by
  simp only [List.mem_cons, List.not_mem_nil, or_false] at hx
  rcases hx with rfl | rfl
  · exact .tup (by simp) (fun y hy => by
      simp only [List.mem_cons, List.not_mem_nil, or_false] at hy
      rcases hy with rfl | rfl <;> exact .int _ _)
  · exact .tup (by simp) (fun y hy => by
      simp only [List.mem_cons, List.not_mem_nil, or_false] at hy
      rcases hy with rfl | rfl <;> exact .int _ _))
theorem like_r (n d : Nat) (v : PV) (h : Dt n v) (c : Cup) : callD PG (d + n + 2) 15 [v, v] c = .ok (.bl true) c := like_same hs hl c n d v h
theorem dt_lst {n : Nat} (xs : List PV) (hl : xs.length < 1000) (h : ∀ x ∈ xs, Dt n x) : Dt (n + 1) (.lst xs) := .lst hl h
theorem tables_right (d : Nat) (c : Cup) : ∃ c', callD PG (d + 8) 18 [.cup] c = .ok (.bl true) c' := by
  obtain ⟨s, c1, g1, zs⟩ := law_table (d + 4) c
  obtain ⟨t, c2, g2, zt⟩ := law_table (d + 4) c1
  obtain ⟨u, c3, g3, zu⟩ := law_table (d + 4) c2
  refine ⟨c3, ?_⟩
  have zst := mul_sz zs zt
  have ztu := mul_sz zt zu
  have zts := mul_sz zt zs
  have p1 := lawprod (d + 6) s t zs zt (by omega) c3
  have p2 := lawprod (d + 6) t u zt zu (by omega) c3
  have p3 := lawprod (d + 6) s (t.mul u) zs ztu (by omega) c3
  have q1 := product (d + 3) s t zs zt (by omega) c3
  have q2 := product (d + 3) (s.mul t) u zst zu (by omega) c3
  have q3 := product (d + 3) t s zt zs (by omega) c3
  rw [Tb.assoc] at q2
  have i1 := is_table (d + 5) s c3
  have t1 := trace (d + 3) s c3
  have t2 := trace (d + 3) (s.mul t) c3
  have t3 := trace (d + 3) (t.mul s) c3
  have e1 := determinant (d + 3) s zs (by omega) c3
  have e2 := determinant (d + 3) t zt (by omega) c3
  have e3 := determinant (d + 3) (s.mul t) zst (by omega) c3
  have m1 := mulS zs.1 zs.2.2.2 (by omega)
  have m2 := mulS zs.2.1 zs.2.2.1 (by omega)
  have z1 : Sz 200 (s.a * s.d - s.b * s.c) := by
    rw [Int.sub_eq_add_neg]
    refine Sz.mono (n := 183) ((zs.1.mul zs.2.2.2).add ?_) (by omega)
    unfold Sz; rw [Int.natAbs_neg]; exact zs.2.1.mul zs.2.2.1
  have z2 : Sz 200 (t.a * t.d - t.b * t.c) := by
    rw [Int.sub_eq_add_neg]
    refine Sz.mono (n := 183) ((zt.1.mul zt.2.2.2).add ?_) (by omega)
    unfold Sz; rw [Int.natAbs_neg]; exact zt.2.1.mul zt.2.2.1
  have m3 := mulS z1 z2 (by omega)
  have tr : (s.mul t).a + (s.mul t).d = (t.mul s).a + (t.mul s).d := by
    unfold Tb.mul
    dsimp only
    grind
  have dt : (s.mul t).a * (s.mul t).d - (s.mul t).b * (s.mul t).c = (s.a * s.d - s.b * s.c) * (t.a * t.d - t.b * t.c) := by
    unfold Tb.mul
    dsimp only
    grind
  rw [dt] at e3
  rw [tr] at t2
  have l1 := like_r 3 (d + 2) (.lst [.bl true, (s.mul t).v, .int (s.a + s.d), .int (s.a * s.d - s.b * s.c), (s.mul (t.mul u)).v]) (dt_lst _ (by simp) (fun x hx => by
    simp only [List.mem_cons, List.not_mem_nil, or_false] at hx
    rcases hx with rfl | rfl | rfl | rfl | rfl
    · exact .bl _ _
    · exact dt_tb _
    · exact .int _ _
    · exact .int _ _
    · exact dt_tb _)) c3
  have l2 := like_r 1 (d + 4) (.lst [.int ((s.a * s.d - s.b * s.c) * (t.a * t.d - t.b * t.c)), .int ((t.mul s).a + (t.mul s).d)]) (dt_lst _ (by simp) (fun x hx => by
    simp only [List.mem_cons, List.not_mem_nil, or_false] at hx
    rcases hx with rfl | rfl <;> exact .int _ _)) c3
  rw [show callD PG (d + 8) 18 = runFn (callsAt PG (d + 7)) ⟨1, 6, t18⟩ from rfl]
  simp [runFn, t18, sem, ofE, ofET, ofS, bnd, then_ok, truM, PV.tru, lift, cc_at, opM, opV, Tg.f, ixV, atIx, big, subV, addV, g1, g2, g3, p1, p2, p3, q1, q2, q3, i1, t1, t2, t3, e1, e2, e3, m1, m2, m3, l1, l2]
end Cv.K01

set_option Elab.async false
set_option linter.all false
set_option maxRecDepth 100000
set_option maxHeartbeats 1000000
namespace Cv.K01
open Cv PySem
/-! words, drawn -/
theorem bits_of : ∀ ys : List PV, (∀ y ∈ ys, ∃ r : Int, y = .int r ∧ 0 ≤ r ∧ r < 2) → ∃ w : List Bool, ys = w.map lt
  | [], _ => ⟨[], rfl⟩
  | y :: ys, h => by
    obtain ⟨r, rfl, r0, r1⟩ := h y (List.mem_cons_self ..)
    obtain ⟨w, rfl⟩ := bits_of ys fun v hv => h v (List.mem_cons_of_mem _ hv)
    have : r = 0 ∨ r = 1 := by omega
    rcases this with rfl | rfl
    · exact ⟨false :: w, rfl⟩
    · exact ⟨true :: w, rfl⟩
theorem upto_len : ∀ (n : Nat) (lo : Int), (upto lo n).length = n
  | 0, _ => rfl
  | n + 1, lo => by
    show (upto (lo + 1) n).length + 1 = n + 1
    rw [upto_len n]
def lcw : T := (.lc (.call 12 (.cons (.var 0) (.cons (.int 2) .nil))) (.v 7) (.rng1 (.op .add (.int 1) (.call 12 (.cons (.var 0) (.cons (.int 20) .nil))))) (.bl true) [7])
theorem lcw_e (d : Nat) (o1 o2 o3 o4 o5 o6 o7 : Option Slot) (c : Cup) : ∃ (w : List Bool) (c' : Cup), (sem lcw (callsAt PG (d + 1))).e [vl .cup, o1, o2, o3, o4, o5, o6, o7] c = .ok (.lst (w.map lt)) c' ∧ 1 ≤ w.length ∧ w.length ≤ 20 := by
  obtain ⟨s, c1, h1, s0, s1⟩ := roll_of hr d 20 (by decide) (by decide) c
  have hi : (sem (.rng1 (.op .add (.int 1) (.call 12 (.cons (.var 0) (.cons (.int 20) .nil))))) (callsAt PG (d + 1))).i [vl .cup, o1, o2, o3, o4, o5, o6, o7] c = .ok (upto 0 (1 + s).toNat) c1 := by
    have hr2 : rngOk (1 + s) = true := by
      unfold rngOk
      simp only [Bool.and_eq_true, decide_eq_true_eq]
      omega
    simp [sem, ofE, ofI, bnd, then_ok, lift, cc_at, opM, opV, addV, intM, h1, hr2]
  have hlen : (upto 0 (1 + s).toNat).length = (1 + s).toNat := upto_len _ _
  have hbig : (upto 0 (1 + s).toNat).length < big := by rw [hlen]; show _ < 16777216; omega
  have key : ∃ ys c', (sem lcw (callsAt PG (d + 1))).e [vl .cup, o1, o2, o3, o4, o5, o6, o7] c = .ok (.lst ys) c' ∧ ys.length = (upto 0 (1 + s).toNat).length ∧ ∀ y ∈ ys, ∃ r : Int, y = .int r ∧ 0 ≤ r ∧ r < 2 := by
    obtain ⟨ys, c', h2, h3, h4⟩ := lcL_draw (f := Tg.f (.v 7)) (cond := (sem (.bl true) (callsAt PG (d + 1))).t) (elt := (sem (.call 12 (.cons (.var 0) (.cons (.int 2) .nil))) (callsAt PG (d + 1))).e) (env0 := wipeE [vl .cup, o1, o2, o3, o4, o5, o6, o7] [7]) (fun y => ∃ r : Int, y = .int r ∧ 0 ≤ r ∧ r < 2) (upto 0 (1 + s).toNat) c1 (fun x hx => ⟨[vl .cup, o1, o2, o3, o4, o5, o6, vl x], rfl, fun c => ⟨rfl, by
      obtain ⟨r, c', h, r0, r1⟩ := roll_of hr d 2 (by decide) (by decide) c
      exact ⟨.int r, c', by simp [sem, ofE, bnd, then_ok, cc_at, h], r, rfl, r0, r1⟩⟩⟩)
    refine ⟨ys, c', ?_, h3, h4⟩
    show (Rs.then ((sem (.rng1 (.op .add (.int 1) (.call 12 (.cons (.var 0) (.cons (.int 20) .nil))))) (callsAt PG (d + 1))).i [vl .cup, o1, o2, o3, o4, o5, o6, o7] c) fun xs => if xs.length < big then bnd (noExc (lcL (Tg.f (.v 7)) (sem (.bl true) (callsAt PG (d + 1))).t (sem (.call 12 (.cons (.var 0) (.cons (.int 2) .nil))) (callsAt PG (d + 1))).e (wipeE [vl .cup, o1, o2, o3, o4, o5, o6, o7] [7]) xs)) fun ys => ret (PV.lst ys) else badM) = _
    rw [hi]
    show ((if (upto 0 (1 + s).toNat).length < big then bnd (noExc (lcL (Tg.f (.v 7)) (sem (.bl true) (callsAt PG (d + 1))).t (sem (.call 12 (.cons (.var 0) (.cons (.int 2) .nil))) (callsAt PG (d + 1))).e (wipeE [vl .cup, o1, o2, o3, o4, o5, o6, o7] [7]) (upto 0 (1 + s).toNat))) fun ys => ret (PV.lst ys) else badM) : M PV) c1 = _
    rw [if_pos hbig]
    show (noExc _ c1).then _ = _
    rw [noExc_ok h2]
    rfl
  obtain ⟨ys, c', h2, h3, h4⟩ := key
  obtain ⟨w, rfl⟩ := bits_of ys h4
  rw [List.length_map, hlen] at h3
  exact ⟨w, c', h2, by omega, by omega⟩
/-! slices -/
theorem cut_lo {α : Type} (xs : List α) (k : Nat) (h : k ≤ xs.length) : cut xs (some (k : Int)) none = xs.drop k := by
  unfold cut cutIx
  have : ¬ ((k : Int) < 0) := by omega
  simp only [this, if_false]
  rw [show min (k : Int).toNat xs.length = k by simp; omega, List.take_of_length_le]
  rw [List.length_drop]
  exact Nat.le_refl _
theorem cut_hi {α : Type} (xs : List α) (k : Nat) (h : k ≤ xs.length) : cut xs none (some (k : Int)) = xs.take k := by
  unfold cut cutIx
  have : ¬ ((k : Int) < 0) := by omega
  simp only [this, if_false]
  rw [show min (k : Int).toNat xs.length = k by simp; omega]
  rfl
/-! the law's own loop -/
def bl19 : T := (.seq (.set (.v 3) (.call 17 (.cons (.var 3) (.cons (.ite (.op .eq (.var 4) (.int 1)) (.tup (.cons (.tup (.cons (.int 3) (.cons (.int 2) .nil))) (.cons (.tup (.cons (.int 4) (.cons (.int 3) .nil))) .nil))) (.tup (.cons (.tup (.cons (.int 1) (.cons (.int 1) .nil))) (.cons (.tup (.cons (.int 1) (.cons (.int 2) .nil))) .nil)))) .nil)))) .skip)
theorem loop19 (d : Nat) (o0 o1 o2 o5 o6 o7 : Option Slot) (c : Cup) : ∀ (w : List Bool) (s : Tb) (n : Nat) (o4 : Option Slot), s.Sz n → n + 4 * w.length < 400000 →
    ∃ p4, forL (Tg.f (.v 4)) (sem bl19 (callsAt PG (d + 1))).s (w.map lt) [o0, o1, o2, vl s.v, o4, o5, o6, o7] c = .ok (.nx [o0, o1, o2, vl (wT s w).v, p4, o5, o6, o7]) c
  | [], s, n, o4, _, _ => ⟨o4, rfl⟩
  | b :: w, s, n, o4, hs, hn => by
    rw [List.length_cons] at hn
    obtain ⟨p4, h⟩ := loop19 d o0 o1 o2 o5 o6 o7 c w (s.mul (ltT b)) (n + 3 + 1) (vl (lt b)) (mul_sz hs (ltT_sz b)) (by omega)
    refine ⟨p4, ?_⟩
    have h1 := lawprod d s (ltT b) hs (ltT_sz b) (by omega) c
    have hb : (sem bl19 (callsAt PG (d + 1))).s [o0, o1, o2, vl s.v, vl (lt b), o5, o6, o7] c = .ok (.nx [o0, o1, o2, vl (s.mul (ltT b)).v, vl (lt b), o5, o6, o7]) c := by
      cases b
      · simp only [ltT, Bool.false_eq_true, if_false] at h1
        simp [bl19, sem, ofE, ofETI, ofS, bnd, then_ok, truM, PV.tru, lift, cc_at, opM, opV, eqV, PV.dat, PV.eqv, Tg.f, big, ltT, h1]
      · simp only [ltT, if_true] at h1
        simp [bl19, sem, ofE, ofETI, ofS, bnd, then_ok, truM, PV.tru, lift, cc_at, opM, opV, eqV, PV.dat, PV.eqv, Tg.f, big, ltT, h1]
    show ((sem bl19 (callsAt PG (d + 1))).s [o0, o1, o2, vl s.v, vl (lt b), o5, o6, o7] c).then _ = _
    rw [hb]
    exact h
theorem wT_sz : ∀ (w : List Bool) (s : Tb) (n : Nat), s.Sz n → (wT s w).Sz (n + 4 * w.length)
  | [], s, n, h => h
  | b :: w, s, n, h => by
    have := wT_sz w (s.mul (ltT b)) (n + 3 + 1) (mul_sz h (ltT_sz b))
    rw [List.length_cons, show n + 4 * (w.length + 1) = n + 3 + 1 + 4 * w.length by omega]
    exact this
theorem idT_sz : idT.Sz 1 := ⟨by show (1 : Int).natAbs < 2 ^ 1; decide, by show (0 : Int).natAbs < 2 ^ 1; decide, by show (0 : Int).natAbs < 2 ^ 1; decide, by show (1 : Int).natAbs < 2 ^ 1; decide⟩
theorem mul_id (s : Tb) : s.mul idT = s := by
  unfold Tb.mul idT
  cases s
  simp
theorem wT_app (u w : List Bool) : wT idT (u ++ w) = (wT idT u).mul (wT idT w) := by
  rw [← wT_mul, mul_id]
  unfold wT
  rw [List.foldl_append]
def Tb.det (t : Tb) : Int := t.a * t.d - t.b * t.c
theorem det_mul (s t : Tb) : (s.mul t).det = s.det * t.det := by
  unfold Tb.mul Tb.det
  dsimp only
  grind
theorem wT_det : ∀ (w : List Bool) (s : Tb), s.det = 1 → (wT s w).det = 1
  | [], s, h => h
  | b :: w, s, h => by
    refine wT_det w (s.mul (ltT b)) ?_
    rw [det_mul, h]
    cases b <;> decide
theorem tr_mul (s t : Tb) : (s.mul t).a + (s.mul t).d = (t.mul s).a + (t.mul s).d := by
  unfold Tb.mul
  dsimp only
  grind
end Cv.K01

set_option Elab.async false
set_option linter.all false
set_option maxRecDepth 100000
set_option maxHeartbeats 2000000
namespace Cv.K01
open Cv PySem
def rest19 : T := (.seq (.set (.v 5) (.lst (.cons (.call 11 (.cons (.var 1) .nil)) (.cons (.call 10 (.cons (.call 11 (.cons (.var 1) .nil)) .nil)) (.cons (.call 11 (.cons (.op .add (.var 1) (.var 2)) .nil)) .nil))))) (.seq (.ifs (.un .not (.call 15 (.cons (.var 5) (.cons (.lst (.cons (.var 3) (.cons (.int 1) (.cons (.call 17 (.cons (.var 3) (.cons (.call 11 (.cons (.var 2) .nil)) .nil))) .nil)))) .nil)))) (.seq (.ret (.bl false)) .skip) .skip) (.seq (.set (.v 6) (.call 12 (.cons (.var 0) (.cons (.un .len (.var 1)) .nil)))) (.seq (.ret (.call 15 (.cons (.call 9 (.cons (.call 11 (.cons (.op .add (.slcL (.var 1) (.var 6)) (.slcH (.var 1) (.var 6))) .nil)) .nil)) (.cons (.op .add (.op .ix (.op .ix (.var 3) (.int 0)) (.int 0)) (.op .ix (.op .ix (.var 3) (.int 1)) (.int 1))) .nil)))) .skip))))
theorem t19e : t19 = (.seq (.set (.v 1) (.un .toTup lcw)) (.seq (.set (.v 2) (.un .toTup lcw)) (.seq (.set (.v 3) (.tup (.cons (.tup (.cons (.int 1) (.cons (.int 0) .nil))) (.cons (.tup (.cons (.int 0) (.cons (.int 1) .nil))) .nil)))) (.seq (.«for» (.v 4) (.var 1) bl19) rest19)))) := rfl
theorem words_right (d : Nat) (c : Cup) : ∃ c', callD PG (d + 8) 19 [.cup] c = .ok (.bl true) c' := by
  obtain ⟨u, c1, g1, u0, u1⟩ := lcw_e (d + 6) none none none none none none none c
  obtain ⟨w, c2, g2, w0, w1⟩ := lcw_e (d + 6) (vl (.tup (u.map lt))) none none none none none none c1
  obtain ⟨p4, hl⟩ := loop19 (d + 6) (vl .cup) (vl (.tup (u.map lt))) (vl (.tup (w.map lt))) none none none c2 u idT 1 none idT_sz (by omega)
  obtain ⟨k, c3, hk, k0, k1⟩ := roll_of hr (d + 6) (u.length : Int) (by omega) (by omega) c2
  obtain ⟨m, rfl⟩ : ∃ m : Nat, k = m := ⟨k.toNat, by omega⟩
  have hm : m ≤ u.length := by omega
  refine ⟨c3, ?_⟩
  have zu := wT_sz u idT 1 idT_sz
  have zw := wT_sz w idT 1 idT_sz
  have du := wT_det u idT (by decide)
  have a1 := word_table (d + 3) u u0 (by omega) c2
  have a2 := word_table (d + 3) w w0 (by omega) c2
  have a3 := word_table (d + 3) (u ++ w) (by rw [List.length_append]; omega) (by rw [List.length_append]; omega) c2
  rw [wT_app, List.map_append] at a3
  have a4 := word_table (d + 3) (u.drop m ++ u.take m) (by rw [List.length_append, List.length_drop, List.length_take]; omega) (by rw [List.length_append, List.length_drop, List.length_take]; omega) c3
  rw [List.map_append, List.map_drop, List.map_take] at a4
  have b1 := determinant (d + 3) (wT idT u) zu (by omega) c2
  rw [show (wT idT u).a * (wT idT u).d - (wT idT u).b * (wT idT u).c = 1 from du] at b1
  have b2 := trace (d + 3) (wT idT (u.drop m ++ u.take m)) c3
  have htr : (wT idT (u.drop m ++ u.take m)).a + (wT idT (u.drop m ++ u.take m)).d = (wT idT u).a + (wT idT u).d := by
    rw [wT_app, tr_mul, ← wT_app, List.take_append_drop]
  rw [htr] at b2
  have p1 := lawprod (d + 6) (wT idT u) (wT idT w) zu zw (by omega) c2
  have l1 := like_r 3 (d + 2) (.lst [(wT idT u).v, .int 1, ((wT idT u).mul (wT idT w)).v]) (dt_lst _ (by simp) (fun x hx => by
    simp only [List.mem_cons, List.not_mem_nil, or_false] at hx
    rcases hx with rfl | rfl | rfl
    · exact dt_tb _
    · exact .int _ _
    · exact dt_tb _)) c2
  have l2 := like_r 0 (d + 5) (.int ((wT idT u).a + (wT idT u).d)) (.int _ _) c3
  have e1 : cut (u.map lt) (some (m : Int)) none = (u.map lt).drop m := cut_lo _ _ (by rw [List.length_map]; exact hm)
  have e2 : cut (u.map lt) none (some (m : Int)) = (u.map lt).take m := cut_hi _ _ (by rw [List.length_map]; exact hm)
  have n1 : (u.map lt).length + (w.map lt).length ≤ 16777216 := by rw [List.length_map, List.length_map]; omega
  have n2 : ((u.map lt).drop m).length + ((u.map lt).take m).length ≤ 16777216 := by rw [List.length_drop, List.length_take, List.length_map]; omega
  have lenu : (u.map lt).length = u.length := List.length_map ..
  rw [show callD PG (d + 8) 19 = runFn (callsAt PG (d + 7)) ⟨1, 8, t19⟩ from rfl, t19e]
  generalize hU : wT idT u = U at *
  generalize hW : wT idT w = W at *
  generalize hA : (u.map lt) = A at *
  generalize hB : (w.map lt) = B at *
  simp only [Tg.f, idT] at hl
  have r1 : (sem rest19 (callsAt PG (d + 7))).s [vl .cup, vl (.tup A), vl (.tup B), vl U.v, p4, none, none, none] c2 = .ok (.rt (.bl true)) c3 := by
    have ad : addV (.tup A) (.tup B) = some (.tup (A ++ B)) := if_pos n1
    have ad2 : addV (.tup (A.drop m)) (.tup (A.take m)) = some (.tup (A.drop m ++ A.take m)) := if_pos n2
    have s1 : slcV (.tup A) (some (m : Int)) none = some (.tup (A.drop m)) := by show some (PV.tup (cut A (some (m : Int)) none)) = _; rw [e1]
    have s2 : slcV (.tup A) none (some (m : Int)) = some (.tup (A.take m)) := by show some (PV.tup (cut A none (some (m : Int)))) = _; rw [e2]
    have ln : lenV (.tup A) = some (.int u.length) := by show some (PV.int (A.length : Int)) = _; rw [lenu]
    have ia : addV (.int U.a) (.int U.d) = some (.int (U.a + U.d)) := rfl
    simp [rest19, sem, ofE, ofET, ofS, bnd, then_ok, truM, PV.tru, lift, cc_at, opM, opV, Tg.f, ixV, atIx, big, intM, unV, ad, ad2, s1, s2, ln, ia, a1, a2, a3, a4, b1, b2, p1, l1, l2, hk]
  simp [runFn, sem, ofE, ofS, bnd, then_ok, lift, Tg.f, big, unV, toTupV, PV.items, g1, g2, hl, r1]
end Cv.K01

set_option Elab.async false
set_option linter.all false
set_option maxRecDepth 100000
set_option maxHeartbeats 1000000
namespace Cv.K01
open Cv PySem
def blaw : T := (.seq (.ifs (.or (.un .not (.call 18 (.cons (.var 1) .nil))) (.un .not (.call 19 (.cons (.var 1) .nil)))) (.seq (.ret (.bl false)) .skip) .skip) .skip)
def tlawg (N : Int) : T := (.seq (.ifs (.un .not (.call 20 .nil)) (.seq (.ret (.bl false)) .skip) .skip) (.seq (.«for» (.v 2) (.rng1 (.int N)) blaw) (.seq (.ret (.bl true)) .skip)))
theorem tlawg_eq : tlaw = tlawg 12 := rfl
theorem loopl (C : Calls) (h18 : ∀ c, ∃ c', C.c 18 [.cup] c = .ok (.bl true) c') (h19 : ∀ c, ∃ c', C.c 19 [.cup] c = .ok (.bl true) c') : ∀ (xs : List PV) (o2 : Option Slot) (c : Cup), ∃ n2 c', forL (Tg.f (.v 2)) (sem blaw C).s xs [none, vl .cup, o2] c = .ok (.nx [none, vl .cup, n2]) c'
  | [], o2, c => ⟨o2, c, rfl⟩
  | v :: xs, o2, c => by
    obtain ⟨c1, h1⟩ := h18 c
    obtain ⟨c2, h2⟩ := h19 c1
    obtain ⟨n2, c', h3⟩ := loopl C h18 h19 xs (vl v) c2
    refine ⟨n2, c', ?_⟩
    have hb : (sem blaw C).s [none, vl .cup, vl v] c = .ok (.nx [none, vl .cup, vl v]) c2 := by
      simp [blaw, sem, ofE, ofET, ofS, bnd, then_ok, truM, PV.tru, lift, h1, h2]
    show ((sem blaw C).s [none, vl .cup, vl v] c).then _ = _
    rw [hb]
    exact h3
theorem math_gen (C : Calls) (c0 : Cup) (N : Int) (hN : 0 ≤ N ∧ N < 256) (h20 : C.c 20 [] c0 = .ok (.bl true) c0) (h18 : ∀ c, ∃ c', C.c 18 [.cup] c = .ok (.bl true) c') (h19 : ∀ c, ∃ c', C.c 19 [.cup] c = .ok (.bl true) c') : ∃ c, (sem (tlawg N) C).s [none, vl .cup, none] c0 = .ok (.rt (.bl true)) c := by
  obtain ⟨n2, c', hl⟩ := loopl C h18 h19 (upto 0 N.toNat) none c0
  refine ⟨c', ?_⟩
  have r12 : rngOk N = true := by
    unfold rngOk
    simp only [Bool.and_eq_true, decide_eq_true_eq]
    omega
  simp only [Tg.f] at hl
  simp [tlawg, sem, ofE, ofET, ofETI, ofS, ofI, bnd, then_ok, truM, PV.tru, lift, Tg.f, intM, big, r12, h20, hl]
theorem law_c (d i : Nat) : (callsAt PG d).c i = callD PG d i := rfl
theorem e1 : pd.law.t = tlawg 12 := rfl
theorem e2 : lawEnv pd.law.N.length = [none, vl .cup, none] := rfl
theorem m202 (c0 : Cup) : ∃ c, (sem (tlawg 12) (callsAt PG 202)).s [none, vl .cup, none] c0 = .ok (.rt (.bl true)) c := by
  have t202 : ∀ c, ∃ c', callD PG 202 18 [.cup] c = .ok (.bl true) c' := fun c => tables_right 194 c
  have w202 : ∀ c, ∃ c', callD PG 202 19 [.cup] c = .ok (.bl true) c' := fun c => words_right 194 c
  generalize hC : callsAt PG 202 = C
  have h20 : C.c 20 [] c0 = .ok (.bl true) c0 := by rw [← hC, law_c]; exact limits c0
  have h18 : ∀ c, ∃ c', C.c 18 [.cup] c = .ok (.bl true) c' := fun c => by rw [← hC, law_c]; exact t202 c
  have h19 : ∀ c, ∃ c', C.c 19 [.cup] c = .ok (.bl true) c' := fun c => by rw [← hC, law_c]; exact w202 c
  exact math_gen C c0 12 ⟨by decide, by decide⟩ h20 h18 h19
theorem math (ns : List Int) : ∃ c, (sem pd.law.t (callsAt (mkPg pd.L er.h pd.k) (200 + 2))).s (lawEnv pd.law.N.length) (cupOf ns) = .ok (.rt (.bl true)) c := by
  rw [e1, e2]
  exact m202 (cupOf ns)
end Cv.K01

set_option Elab.async false
set_option linter.all false
set_option maxRecDepth 100000
set_option maxHeartbeats 0
open PySem PySem.W PySem.Calls PyProof.Rows
theorem PySem.Challenge.cw_triplesled_k01_whole_tables_holds : PySem.Challenge.rw_triplesled_k01_whole_tables.Holds := by
  w_on; o_law
  refine HandSHeadRun.head_any (r := OpenLaw.row PySem.Challenge.rw_triplesled_k01_whole_tables) (q := view (OpenLaw.row PySem.Challenge.rw_triplesled_k01_whole_tables).prog [33]) (H := Cv.K01.hk) (ob := Cv.K01.ob) (M := 3000) (loose := Cv.K01.loose) (d := HandSHeadRun.topDef (OpenLaw.row PySem.Challenge.rw_triplesled_k01_whole_tables).prog 33) (kwd := []) Cv.K01.ob_eq
    (by kernel_rfl) (fun s => by kernel_rfl) Cv.K01.run (by kernel_rfl) (by kernel_rfl) (by kernel_rfl) (by rfl) (by first | assumption | decide +kernel) (by decide +kernel) ⟨rfl, rfl, rfl, rfl, rfl, by decide +kernel⟩ ?hw ?hc
  case hw => w_witness2
  case hc =>
    refine LamX.walk_ofTsE (l := PySem.Challenge.rw_triplesled_k01_whole_tables) (n := 63) (k := 203) (x := "script") (CX := fun w => L2N.CX PySem.Challenge.rw_triplesled_k01_whole_tables.prog w) rfl (by decide) (by kernel_rfl) ⟨rfl, by decide, by decide⟩ ?F (fun w H s e s' z => by obtain ⟨_, _, _, _, _, _, _, _, _, _, _, _, z⟩ := z; exact z)
    intro w mg fa h Y G hmg0
    obtain ⟨K, KX, c⟩ := Y
    have hmg : mg ("law" : PySem.Str) = some (.ref fa) := by
      have e : (HandSHeadRun.topDef (OpenLaw.row PySem.Challenge.rw_triplesled_k01_whole_tables).prog 33).name = ("law" : PySem.Str) := by kernel_rfl
      rw [← e]
      exact hmg0
    exact ⟨K, KX, Cv.lawAt (p := Cv.K01.pd) (e := Cv.K01.er) 200 Cv.K01.ok2 Cv.K01.okL Cv.K01.ok_dlaw Cv.K01.okc Cv.K01.oke Cv.K01.okB Cv.K01.b_dlaw Cv.K01.b_dcup Cv.K01.b_derr KX G c hmg (by decide) fun ns _ _ => Cv.K01.math ns⟩

