import PyProof.Rows.All
import Wide.All
import OpenK.AllK
import Wide.FinOn
import HandS.ForMost
import HandS.Exc
import HandS.Deep
import HandS.TupAny
import HandS.Gcd
import HandS.Wide
import HandS.Lambda
import HandS.TupMul
import HandS.IsInst
import HandS.TupLe
import HandS.Flt
import HandS.SortInts
import HandS.Conv
import HandS.Style
import HandS.Zip
import HandS.Nested
import KE.KExcSuper
import HandS.ExcInit
import HandS.TryOnly
import KE.RegKSuper
import HandS.ExcIs
import KE.GoesEnum
import KE.GoesMore
import HandS.Iter
import KE.KStar
import HandS.ExcField
import HandS.ExcOwn
import KE.KRevSl
import HandS.More
import HandS.SetFor
import HandS.Words
import HandS.HeadEnd
import HandS.EndTab
import PyProof.ReprLen
import PySem.Challenge.RW_ballmoves_k44_words_listed
set_option Elab.async false
set_option linter.all false
set_option maxRecDepth 100000
set_option maxHeartbeats 8000000
/-! A small language of values: its form and what it reckons. -/
namespace MP
open PySem
abbrev D := PyData
inductive Val where
  | dat (d : D)
  | loc (n : Nat)
inductive Cell where
  | lst (xs : List D)
  | dic (kvs : List (Str × Val))
abbrev Store := List Cell
/-- a value, and whether it is a list or dict that nobody else has -/
structure RV where
  fr : Bool
  v : Val
inductive R (α : Type) where
  | ok (a : α) (st : Store)
  | exc (c : Str) (ds : List (Str × D)) (st : Store)
  | no
def R.bind {α β : Type} (x : R α) (f : α → Store → R β) : R β := match x with
  | .ok a st => f a st
  | .exc c ds st => .exc c ds st
  | .no => .no
inductive Slot where
  | un
  | val (v : Val)
  | own (d : D)
abbrev Env := List Slot
abbrev Fn := List Val → Store → R RV
/-! ### by values -/
inductive Op2 where
  | add | sub | mul | fdiv | mod | pow
  deriving DecidableEq
inductive Cp where
  | eq | ne | lt | le | gt | ge | isIn | notIn | is | isNot
  deriving DecidableEq
def mulOk (i j : Int) : Bool := decide (i.natAbs < 2 ^ 64) || decide (j.natAbs < 2 ^ 64) || decide (i.natAbs.log2 + j.natAbs.log2 < 1000000)
def divOk (j : Int) : Bool := decide (j ≠ 0) && decide (j.natAbs.log2 < 9000)
def powOk (i j : Int) : Bool := decide (0 ≤ j) && decide (j ≤ 1000000) && decide (i.natAbs < 2 ^ 64)
def fits (n : Nat) : Bool := decide (n ≤ sizeLine)
def fitsS (n : Nat) : Bool := decide (n < sizeLine)
def repOk (xs : List D) (k : Int) : Bool := !xs.isEmpty && decide (2 ≤ k) && decide (k ≤ 1000) && decide (xs.length ≤ 1000)
def rep1 (xs : List D) (k : Int) : Bool := (xs.isEmpty || decide (k = 1)) && decide (k.natAbs < 2 ^ 62)
def bin : Op2 → D → D → Option (Bool × D)
  | .add, .int i, .int j => some (false, .int (i + j))
  | .add, .str x, .str y => bif fits (x.length + y.length) then some (false, .str (x ++ y)) else none
  | .add, .list xs, .list ys => bif fits (xs.length + ys.length) then some (true, .list (xs ++ ys)) else none
  | .add, .tuple xs, .tuple ys => bif fits (xs.length + ys.length) then some (false, .tuple (xs ++ ys)) else none
  | .sub, .int i, .int j => some (false, .int (i - j))
  | .mul, .int i, .int j => bif mulOk i j then some (false, .int (i * j)) else none
  | .mul, .tuple xs, .int k => bif repOk xs k then some (false, .tuple (List.replicate k.toNat xs).flatten) else bif rep1 xs k then some (false, .tuple xs) else none
  | .mul, .list xs, .int k => bif repOk xs k then some (true, .list (List.replicate k.toNat xs).flatten) else none
  | .fdiv, .int i, .int j => bif divOk j then some (false, .int (i.fdiv j)) else none
  | .mod, .int i, .int j => bif decide (j ≠ 0) then some (false, .int (i.fmod j)) else none
  | .pow, .int i, .int j => bif powOk i j then some (false, .int (i ^ j.toNat)) else none
  | _, _, _ => none
def shp (x : D) : Bool := SeqAt.shaped x
def isNone : D → Bool
  | .none => true
  | _ => false
def eqD (x y : D) : Option Bool := match x, y with
  | .str a, .str b => some (decide (a = b))
  | .list xs, .list ys => bif decide (xs.length = ys.length) then (bif shp (.list xs) && shp (.list ys) then some (PyData.eqv (.list xs) (.list ys)) else none) else some false
  | .tuple (_ :: _), .tuple [] => some false
  | x, y => bif shp x && shp y then some (PyData.eqv x y) else none
/-- an empty dict is none of some strings -/
def isD0 : D → Bool
  | .dict [] => true
  | _ => false
def allS : List D → Bool
  | [] => true
  | .str x :: r => PyData.strOk x && allS r
  | _ => false
def cmpD : Cp → D → D → Option Bool
  | .eq, x, y => eqD x y
  | .ne, x, y => (eqD x y).map not
  | .lt, .int i, .int j => some (decide (i < j))
  | .le, .int i, .int j => some (decide (i ≤ j))
  | .gt, .int i, .int j => some (decide (j < i))
  | .ge, .int i, .int j => some (decide (j ≤ i))
  | .isIn, x, .list ys => bif shp x && shp (.list ys) then some (ys.any fun z => PyData.eqv z x) else none
  | .notIn, x, .list ys => bif shp x && shp (.list ys) then some (!ys.any fun z => PyData.eqv z x) else none
  | .isIn, x, .tuple ys => bif shp x && shp (.tuple ys) then some (ys.any fun z => PyData.eqv z x) else none
  | .notIn, x, .tuple ys => bif shp x && shp (.tuple ys) then some (!ys.any fun z => PyData.eqv z x) else bif isD0 x && allS ys then some true else none
  | .is, x, .none => some (isNone x)
  | .isNot, x, .none => some (!isNone x)
  | .is, .bool a, .bool b => some (decide (a = b))
  | .isNot, .bool a, .bool b => some (!decide (a = b))
  | _, _, _ => none
/-- an item, by a place that may count from the end -/
def ixD (xs : List D) (k : Int) : Option D := L2.atI xs k
def cutD (xs : List D) (lo hi : Option Int) : List D := (xs.drop (HT.sIx xs.length 0 lo)).take (HT.sIx xs.length xs.length hi - HT.sIx xs.length 0 lo)
inductive Blt where
  | len | abs | int | tuple | list | sum | min | max | any | all | repr | gcd | sorted | str
  deriving DecidableEq
def Blt.name : Blt → Str
  | .len => "len" | .abs => "abs" | .int => "int" | .tuple => "tuple" | .list => "list" | .sum => "sum" | .min => "min" | .max => "max" | .any => "any" | .all => "all"
  | .repr => "repr" | .gcd => "gcd" | .sorted => "sorted" | .str => "str"
def seqOf : D → Option (List D)
  | .list xs => some xs
  | .tuple xs => some xs
  | _ => none
def listOf : D → Option (List D)
  | .list xs => some xs
  | _ => none
def enumL : Nat → List D → List D
  | _, [] => []
  | n, x :: xs => .tuple [.int (n : Nat), x] :: enumL (n + 1) xs
def zipL : List D → List D → List D
  | x :: xs, y :: ys => .tuple [x, y] :: zipL xs ys
  | _, _ => []
def zipD : D → D → Option (List D)
  | .list xs, .list ys => some (zipL xs ys)
  | .tuple xs, .tuple ys => some (zipL xs ys)
  | _, _ => none
def intsOf : List D → Option (List Int)
  | [] => some []
  | .int i :: r => (intsOf r).map (i :: ·)
  | _ :: _ => none
/-- a dict by whole numbers -/
def dGetI : List (D × D) → Int → Option D
  | [], _ => none
  | (.int j, v) :: r, k => bif decide (j = k) then some v else dGetI r k
  | _ :: r, k => dGetI r k
def isKeyI (k : Int) : D → Bool
  | .int j => decide (j = k)
  | _ => false
def dPutI (kvs : List (D × D)) (k : Int) (v : D) : List (D × D) :=
  bif (dGetI kvs k).isSome then kvs.map (fun p => bif isKeyI k p.1 then (p.1, v) else p) else kvs ++ [(.int k, v)]
def dKeysI : List (D × D) → Option (List Int)
  | [] => some []
  | (.int j, _) :: r => (dKeysI r).map (j :: ·)
  | _ :: _ => none
def boolsOf : List D → Option (List Bool)
  | [] => some []
  | .bool i :: r => (boolsOf r).map (i :: ·)
  | _ :: _ => none
def minI : Int → List Int → Int
  | a, [] => a
  | a, b :: r => minI (if b < a then b else a) r
def maxI : Int → List Int → Int
  | a, [] => a
  | a, b :: r => maxI (if a < b then b else a) r
mutual
/-- no dict but empty ones -/
def dOk : D → Bool
  | .list xs => dOks xs
  | .tuple xs => dOks xs
  | .dict kvs => kvs.isEmpty
  | _ => true
def dOks : List D → Bool
  | [] => true
  | x :: xs => dOk x && dOks xs
end
def showOk (d : D) : Bool := decide (d.depth ≤ 100) && fits d.shown.length && d.showable && (!d.hasDict || dOk d)
def bLen : D → Option (Bool × D)
  | .list xs => some (false, .int xs.length)
  | .tuple xs => some (false, .int xs.length)
  | .str x => bif fits x.length then some (false, .int x.length) else none
  | _ => none
def bAbs : D → Option (Bool × D)
  | .int i => some (false, .int i.natAbs)
  | _ => none
def bInt : D → Option (Bool × D)
  | .int i => some (false, .int i)
  | .bool b => some (false, .int (if b then 1 else 0))
  | _ => none
def bTup : D → Option (Bool × D)
  | .list xs => some (false, .tuple xs)
  | .tuple xs => some (false, .tuple xs)
  | _ => none
def bLst : D → Option (Bool × D)
  | .list xs => some (true, .list xs)
  | .tuple xs => some (true, .list xs)
  | _ => none
def bStr : D → Option (Bool × D)
  | .int i => bif decide (i.natAbs.log2 < 1920) then some (false, .str (toString i)) else none
  | _ => none
def bMin : D → Option (Bool × D)
  | .list xs => (match intsOf xs with | some (a :: r) => some (false, .int (minI a r)) | _ => none)
  | _ => none
def bMax : D → Option (Bool × D)
  | .list xs => (match intsOf xs with | some (a :: r) => some (false, .int (maxI a r)) | _ => none)
  | _ => none
def bSum : D → Option (Bool × D)
  | .list xs => (intsOf xs).map fun is => (false, .int is.sum)
  | _ => none
def bSrt : D → Option (Bool × D)
  | .list xs => (intsOf xs).map fun is => (true, .list ((is.mergeSort fun a b => decide (a ≤ b)).map PyData.int))
  | _ => none
def bAll : D → Option (Bool × D)
  | .list xs => (boolsOf xs).map fun bs => (false, .bool (bs.all id))
  | _ => none
def bAny : D → Option (Bool × D)
  | .list xs => (boolsOf xs).map fun bs => (false, .bool (bs.any id))
  | _ => none
def blt1 (d : D) : Blt → Option (Bool × D)
  | .len => bLen d | .abs => bAbs d | .int => bInt d | .tuple => bTup d | .list => bLst d | .sum => bSum d | .min => bMin d | .max => bMax d | .any => bAny d | .all => bAll d
  | .repr => bif showOk d then some (false, .str d.shown) else none
  | .gcd => none | .sorted => bSrt d | .str => bStr d
def blt2 (i j : Int) : Blt → Option (Bool × D)
  | .gcd => some (false, .int (Nat.gcd i.natAbs j.natAbs : Nat))
  | .min => some (false, .int (if j < i then j else i))
  | .max => some (false, .int (if i < j then j else i))
  | .len => none | .abs => none | .int => none | .tuple => none | .list => none | .sum => none | .any => none | .all => none | .repr => none | .sorted => none | .str => none
def blt3 (i j k : Int) : Blt → Option (Bool × D)
  | .min => some (false, .int (if k < (if j < i then j else i) then k else (if j < i then j else i)))
  | .max => some (false, .int (if (if i < j then j else i) < k then k else (if i < j then j else i)))
  | .gcd => none | .len => none | .abs => none | .int => none | .tuple => none | .list => none | .sum => none | .any => none | .all => none | .repr => none | .sorted => none | .str => none
def blt4 (i j k l : Int) : Blt → Option (Bool × D)
  | .gcd => some (false, .int (Nat.gcd (Nat.gcd (Nat.gcd i.natAbs j.natAbs) k.natAbs) l.natAbs : Nat))
  | .min => none | .max => none | .len => none | .abs => none | .int => none | .tuple => none | .list => none | .sum => none | .any => none | .all => none | .repr => none | .sorted => none | .str => none
def bltI (f : Blt) : Option (List Int) → Option (Bool × D)
  | some [i, j] => blt2 i j f
  | some [i, j, k] => blt3 i j k f
  | some [i, j, k, l] => blt4 i j k l f
  | _ => none
def bltF (f : Blt) : List D → Option (Bool × D)
  | [] => none
  | [d] => blt1 d f
  | d :: e :: r => bltI f (intsOf (d :: e :: r))
/-- isinstance by the names of built-in types -/
def isA : D → String → Bool
  | .none, _ => false
  | .bool _, t => t == "bool" || t == "int"
  | .int _, t => t == "int"
  | .str _, t => t == "str"
  | .list _, t => t == "list"
  | .tuple _, t => t == "tuple"
  | .dict _, t => t == "dict"
/-! ### form -/
inductive Lit where
  | none | bool (b : Bool) | int (i : Int) | str (s : Str)
def Lit.d : Lit → D
  | .none => .none
  | .bool b => .bool b
  | .int i => .int i
  | .str s => .str s
/-- what a clause answers that caught an error: a constant, or what the error bears in a list, or in a pair behind a text -/
inductive Hx where
  | cst (l : Lit)
  | lst (f : Str) (b : Option Str)
  | tup (s f : Str) (b : Option (Str × Str))
inductive Af where
  | lit (l : Lit)
  | nil
/-- a def that calls what it got and catches an error: whether it answers what the call tells, the class, the clause's name, the clause's answer, the answer at the end -/
structure HK where
  ret : Bool
  c : Str
  h : Hx
  af : Af
mutual
inductive Tg where
  | nm (i : Nat)
  | tup (ts : Tgs)
inductive Tgs where
  | nil
  | cons (t : Tg) (ts : Tgs)
end
mutual
inductive Ex where
  | var (i : Nat)
  | cst (c : Lit)
  | glob (x : Str) (d : D)
  | neg (a : Ex)
  | not (a : Ex)
  | bin (o : Op2) (a b : Ex)
  | cmp (o : Cp) (a b : Ex)
  | chain (o1 o2 : Cp) (a b c : Ex)
  | and (a b : Ex)
  | or (a b : Ex)
  | ite (c a b : Ex)
  | tup (es : Exs)
  | lst (es : Exs)
  | ix (a b : Ex)
  | slice (a : Ex) (lo hi : Opt)
  | rev (a : Ex)
  | call (f : Str) (sem : Fn) (es : Exs)
  | blt (f : Blt) (es : Exs)
  | isi (a : Ex) (ts : List String)
  | comp (elt : Ex) (own : List (Str × Nat)) (tg : Tg) (it : It) (ifs : Opt)
  | comp2 (elt : Ex) (own : List (Str × Nat)) (tg : Tg) (it : It) (ifs : Opt) (own1 : List (Str × Nat)) (tg1 : Tg) (it1 : It) (ifs1 : Opt)
  | dicl (ks : List Str) (es : Exs)
  | dic0
  | toloc (a : Ex)
  | popl (a : Ex)
  | popi (a k : Ex)
  | cntL (a k : Ex)
  | lrng1 (a : Ex)
  | lrng2 (a b : Ex)
  | get2 (a x b y d : Int) (k : Ex)
  | dicn
  | dhas (neg : Bool) (k : Ex) (i : Nat)
  | shas (k : Ex) (i : Nat)
  | dget (i : Nat) (k : Ex)
  | dsort (i : Nat)
  | dixl (kvs : List (Int × Int)) (k : Ex)
  | revc (a : Ex)
  | lenl (a : Ex)
  | lamc (f : Str) (k : HK) (body : Ex)
inductive Exs where
  | nil
  | cons (e : Ex) (es : Exs)
  | star (e : Ex) (es : Exs)
inductive Opt where
  | non
  | som (e : Ex)
inductive It where
  | seq (e : Ex)
  | rng1 (a : Ex)
  | rng2 (a b : Ex)
  | rng3 (a b c : Ex)
  | enum (e : Ex)
  | zip (a b : Ex)
end
/-! ### what expressions come to -/
def Slot.set (env : Env) (i : Nat) (s : Slot) : Env := List.set env i s
mutual
def bindTg : Tg → D → Env → Option Env
  | .nm i, d, env => some (List.set env i (.val (.dat d)))
  | .tup ts, d, env => match d with
    | .tuple ds => bindTgs ts ds env
    | .list ds => bindTgs ts ds env
    | _ => none
def bindTgs : Tgs → List D → Env → Option Env
  | .nil, ds, env => match ds with
    | [] => some env
    | _ :: _ => none
  | .cons t ts, ds, env => match ds with
    | [] => none
    | d :: r => match bindTg t d env with
      | some env' => bindTgs ts r env'
      | none => none
end
def wipeE : Env → List Nat → Env
  | env, [] => env
  | env, v :: vs => List.set (wipeE env vs) v .un
def rOpt {α : Type} (x : Option α) (st : Store) : R α := match x with
  | some a => .ok a st
  | none => .no
/-- the data of a value -/
def datOf (x : RV) (st : Store) : R D := match x.v with
  | .dat d => .ok d st
  | .loc _ => .no
def fresh (d : D) : RV := ⟨true, .dat d⟩
def plain (d : D) : RV := ⟨false, .dat d⟩
def ofBD (x : Option (Bool × D)) (st : Store) : R RV := match x with
  | some (b, d) => .ok ⟨b, .dat d⟩ st
  | none => .no
def ofB (x : Option Bool) (st : Store) : R RV := match x with
  | some b => .ok (plain (.bool b)) st
  | none => .no
def boolOf (x : RV) (st : Store) : R Bool := match x.v with
  | .dat (.bool b) => .ok b st
  | _ => .no
def intOf (x : RV) (st : Store) : R Int := match x.v with
  | .dat (.int i) => .ok i st
  | _ => .no
def compL (f : D → Store → R (Option D)) : List D → List D → Store → R (List D)
  | [], acc, st => .ok acc st
  | d :: r, acc, st => match f d st with
    | .ok (some y) st1 => bif fitsS acc.length then compL f r (acc ++ [y]) st1 else .no
    | .ok none st1 => compL f r acc st1
    | _ => .no
def compL2 (f : D → List D → Store → R (List D)) : List D → List D → Store → R (List D)
  | [], acc, st => .ok acc st
  | d :: r, acc, st => match f d acc st with
    | .ok acc' st1 => compL2 f r acc' st1
    | _ => .no
def rangeUp (i j : Int) : List D := (List.range (j - i).toNat).map fun (k : Nat) => .int (i + k)
def rangeDn (i j : Int) : List D := (List.range (i - j).toNat).map fun (k : Nat) => .int (i + k * (-1))
def rngOk (i : Int) : Bool := decide (-(2 ^ 62) ≤ i) && decide (i < 2 ^ 62)
def rgB (i j : Int) : Bool := rngOk i && rngOk j && decide ((j - i).toNat ≤ 2 ^ 24)
def ixV (x : RV) (k : RV) (st : Store) : R RV := match x.v, k.v with
  | .dat (.list xs), .dat (.int k) => (match ixD xs k with | some d => .ok (plain d) st | none => .no)
  | .dat (.tuple xs), .dat (.int k) => (match ixD xs k with | some d => .ok (plain d) st | none => .no)
  | .loc n, .dat (.str s) => (match st[n]? with
    | some (.dic kvs) => (match kvs.lookup s with | some v => .ok ⟨false, v⟩ st | none => .no)
    | _ => .no)
  | _, _ => .no
/-- a text among the keys of a dict -/
def shasR (s : Option Slot) (x : Val) (st : Store) : R RV := match s, x with
  | some (.val (.loc n)), .dat (.str z) => (match st[n]? with
    | some (.dic kvs) => .ok (plain (.bool (kvs.lookup z).isSome)) st
    | _ => .no)
  | _, _ => .no
def sliceD (d : D) (lo hi : Option Int) : Option (Bool × D) := match d with
  | .list xs => some (true, .list (cutD xs lo hi))
  | .tuple xs => some (false, .tuple (cutD xs lo hi))
  | _ => none
def revD : D → Option (Bool × D)
  | .list xs => some (true, .list xs.reverse)
  | .tuple xs => some (false, .tuple xs.reverse)
  | _ => none
/-- from the last one to the second one -/
def revcD : D → Option (Bool × D)
  | .tuple (_ :: xs) => some (false, .tuple xs.reverse)
  | _ => none
def lenL (x : RV) (st : Store) : Option Int := match x.v with
  | .loc n => (match st[n]? with | some (.lst xs) => some (xs.length : Int) | _ => none)
  | _ => none
def hxR : Hx → List (Str × D) → Option (Bool × D)
  | .cst l, _ => some (false, l.d)
  | .lst f _, [(g, .int i)] => bif decide (g = f) then some (true, .list [.int i]) else none
  | .tup s f _, [(g, .int i)] => bif decide (g = f) then some (false, .tuple [.str s, .int i]) else none
  | _, _ => none
def afR : Af → Bool × D
  | .lit l => (false, l.d)
  | .nil => (true, .list [])
def lamR (k : HK) : R RV → R RV
  | .ok x st => bif k.ret then .ok x st else .ok ⟨(afR k.af).1, .dat (afR k.af).2⟩ st
  | .exc c ds st => bif decide (c = k.c) then (match hxR k.h ds with | some (b, d) => .ok ⟨b, .dat d⟩ st | none => .no) else .no
  | .no => .no
mutual
/-- pk: the value is only looked at; an owned list may be told then -/
def evE : Ex → Bool → Env → Store → R RV
  | .var i, pk, env, st => match env[i]? with
    | some (.val v) => .ok ⟨false, v⟩ st
    | some (.own d) => bif pk then .ok (plain d) st else .no
    | _ => .no
  | .cst c, _, _, st => .ok (plain c.d) st
  | .glob _ d, _, _, st => .ok (plain d) st
  | .neg a, _, env, st => (evE a true env st).bind fun x st => (intOf x st).bind fun i st => .ok (plain (.int (-i))) st
  | .not a, _, env, st => (evE a true env st).bind fun x st => (boolOf x st).bind fun b st => .ok (plain (.bool (!b))) st
  | .bin o a b, _, env, st => (evE a true env st).bind fun x st => (datOf x st).bind fun x st => (evE b true env st).bind fun y st => (datOf y st).bind fun y st => ofBD (bin o x y) st
  | .cmp o a b, _, env, st => (evE a true env st).bind fun x st => (datOf x st).bind fun x st => (evE b true env st).bind fun y st => (datOf y st).bind fun y st => ofB (cmpD o x y) st
  | .chain o1 o2 a b c, _, env, st => (evE a true env st).bind fun x st => (datOf x st).bind fun x st => (evE b true env st).bind fun y st => (datOf y st).bind fun y st =>
      (rOpt (cmpD o1 x y) st).bind fun k st => bif k then (evE c true env st).bind fun z st => (datOf z st).bind fun z st => ofB (cmpD o2 y z) st else .ok (plain (.bool false)) st
  | .and a b, _, env, st => (evE a true env st).bind fun x st => (boolOf x st).bind fun k st => bif k then (evE b true env st).bind fun y st => (boolOf y st).bind fun k st => .ok (plain (.bool k)) st else .ok (plain (.bool false)) st
  | .or a b, _, env, st => (evE a true env st).bind fun x st => (boolOf x st).bind fun k st => bif k then .ok (plain (.bool true)) st else (evE b true env st).bind fun y st => (boolOf y st).bind fun k st => .ok (plain (.bool k)) st
  | .ite c a b, pk, env, st => (evE c true env st).bind fun x st => (boolOf x st).bind fun k st => bif k then evE a pk env st else evE b pk env st
  | .tup es, _, env, st => (evA es env st).bind fun ds st => bif fits ds.length then .ok (plain (.tuple ds)) st else .no
  | .lst es, _, env, st => (evA es env st).bind fun ds st => bif fits ds.length then .ok (fresh (.list ds)) st else .no
  | .ix a b, _, env, st => (evE a true env st).bind fun x st => (evE b true env st).bind fun y st => ixV x y st
  | .slice a lo hi, _, env, st => (evE a true env st).bind fun x st => (datOf x st).bind fun x st => (evO lo env st).bind fun l st => (evO hi env st).bind fun h st => ofBD (sliceD x l h) st
  | .rev a, _, env, st => (evE a true env st).bind fun x st => (datOf x st).bind fun x st => ofBD (revD x) st
  | .call _ sem es, _, env, st => (evV es env st).bind fun vs st => sem vs st
  | .blt f es, _, env, st => (evP es env st).bind fun ds st => ofBD (bltF f ds) st
  | .isi a ts, _, env, st => (evE a true env st).bind fun x st => (datOf x st).bind fun x st => .ok (plain (.bool (ts.any (isA x)))) st
  | .comp elt own tg it ifs, _, env, st => (evI it env st).bind fun items st =>
      (compL (fun d st => match bindTg tg d (wipeE env (own.map (·.2))) with
        | none => .no
        | some env' => (evC ifs env' st).bind fun k st => bif k then (evE elt false env' st).bind fun y st => (datOf y st).bind fun y st => .ok (some y) st else .ok none st) items [] st).bind fun ys st => .ok (fresh (.list ys)) st
  | .comp2 elt own tg it ifs own1 tg1 it1 ifs1, _, env, st => (evI it env st).bind fun items st =>
      (compL2 (fun d acc st => match bindTg tg d (wipeE env (own.map (·.2))) with
        | none => .no
        | some env1 => (evC ifs env1 st).bind fun k st => bif k then (evI it1 env1 st).bind fun items1 st =>
            compL (fun d st => match bindTg tg1 d (wipeE env1 (own1.map (·.2))) with
              | none => .no
              | some env' => (evC ifs1 env' st).bind fun k st => bif k then (evE elt false env' st).bind fun y st => (datOf y st).bind fun y st => .ok (some y) st else .ok none st) items1 acc st
          else .ok acc st) items [] st).bind fun ys st => .ok (fresh (.list ys)) st
  | .dicl ks es, _, env, st => (evV es env st).bind fun vs st => bif decide (vs.length = ks.length) then .ok ⟨false, .loc st.length⟩ (st ++ [.dic (ks.zip vs)]) else .no
  | .dic0, _, _, st => .ok (plain (.dict [])) st
  | .toloc a, _, env, st => (evE a false env st).bind fun x st => match x with
    | ⟨true, .dat (.list xs)⟩ => .ok ⟨false, .loc st.length⟩ (st ++ [.lst xs])
    | _ => .no
  | .popl a, _, env, st => (evE a false env st).bind fun x st => match x.v with
    | .loc n => (match st[n]? with
      | some (.lst xs) => (match xs.getLast? with
        | some d => .ok (plain d) (st.set n (.lst xs.dropLast))
        | none => .no)
      | _ => .no)
    | _ => .no
  | .dicn, _, _, st => .ok (fresh (.dict [])) st
  | .dhas neg k i, _, env, st => (evE k true env st).bind fun z st => (intOf z st).bind fun n st => (match env[i]? with
    | some (.own (.dict kvs)) => .ok (plain (.bool (bif neg then !(dGetI kvs n).isSome else (dGetI kvs n).isSome))) st
    | _ => .no)
  | .shas k i, _, env, st => (evE k true env st).bind fun z st => shasR env[i]? z.v st
  | .dget i k, _, env, st => (match env[i]? with
    | some (.own (.dict kvs)) => (evE k true env st).bind fun z st => (intOf z st).bind fun n st => (match dGetI kvs n with
      | some d => .ok (plain d) st
      | none => .no)
    | _ => .no)
  | .dsort i, _, env, st => (match env[i]? with
    | some (.own (.dict kvs)) => (match dKeysI kvs with
      | some ks => bif decide (ks.length < 64) then .ok (fresh (.list ((ks.mergeSort fun a b => decide (a ≤ b)).map PyData.int))) st else .no
      | none => .no)
    | _ => .no)
  | .dixl kvs k, _, env, st => (evE k true env st).bind fun z st => (intOf z st).bind fun i st => (match kvs.lookup i with
    | some x => .ok (plain (.int x)) st
    | none => .no)
  | .revc a, _, env, st => (evE a true env st).bind fun x st => (datOf x st).bind fun x st => ofBD (revcD x) st
  | .get2 a x b y d k, _, env, st => (evE k true env st).bind fun z st => (intOf z st).bind fun i st => .ok (plain (.int (bif decide (a = i) then x else bif decide (b = i) then y else d))) st
  | .lrng1 a, _, env, st => (evE a true env st).bind fun x st => (intOf x st).bind fun i st => bif rgB 0 i then .ok (fresh (.list (rangeUp 0 i))) st else .no
  | .lrng2 a b, _, env, st => (evE a true env st).bind fun x st => (intOf x st).bind fun i st => (evE b true env st).bind fun y st => (intOf y st).bind fun j st => bif rgB i j then .ok (fresh (.list (rangeUp i j))) st else .no
  | .cntL a k, _, env, st => (evE a true env st).bind fun x st => (datOf x st).bind fun d st => (rOpt (listOf d) st).bind fun xs st => (evE k true env st).bind fun y st => (intOf y st).bind fun i st => ofBD ((intsOf xs).map fun is => (false, .int (is.count i : Nat))) st
  | .popi a k, _, env, st => (evE a false env st).bind fun x st => match x.v with
    | .loc n => (match st[n]? with
      | some (.lst _) => (evE k true env st).bind fun y st => (intOf y st).bind fun i st => (match st[n]? with
        | some (.lst xs) => (bif decide (xs.length < 2 ^ 60) then (match L2.ixN xs.length i with
          | some j => (match xs[j]? with
            | some d => .ok (plain d) (st.set n (.lst (xs.eraseIdx j)))
            | none => .no)
          | none => .no) else .no)
        | _ => .no)
      | _ => .no)
    | _ => .no
  | .lenl a, _, env, st => (evE a false env st).bind fun x st => match lenL x st with
    | some n => .ok (plain (.int n)) st
    | none => .no
  | .lamc _ k b, _, env, st => lamR k (evE b false env st)
/-- items that are put into a new thing -/
def evA : Exs → Env → Store → R (List D)
  | .nil, _, st => .ok [] st
  | .cons e es, env, st => (evE e false env st).bind fun x st => (datOf x st).bind fun d st => (evA es env st).bind fun ds st => .ok (d :: ds) st
  | .star e es, env, st => (evE e true env st).bind fun x st => (datOf x st).bind fun d st => (rOpt (seqOf d) st).bind fun xs st => (evA es env st).bind fun ds st => .ok (xs ++ ds) st
/-- arguments of a def -/
def evV : Exs → Env → Store → R (List Val)
  | .nil, _, st => .ok [] st
  | .cons e es, env, st => (evE e false env st).bind fun x st => (evV es env st).bind fun ds st => .ok (x.v :: ds) st
  | .star _ _, _, _ => .no
/-- arguments that are only looked at -/
def evP : Exs → Env → Store → R (List D)
  | .nil, _, st => .ok [] st
  | .cons e es, env, st => (evE e true env st).bind fun x st => (datOf x st).bind fun d st => (evP es env st).bind fun ds st => .ok (d :: ds) st
  | .star _ _, _, _ => .no
def evO : Opt → Env → Store → R (Option Int)
  | .non, _, st => .ok none st
  | .som e, env, st => (evE e true env st).bind fun x st => (intOf x st).bind fun i st => .ok (some i) st
def evC : Opt → Env → Store → R Bool
  | .non, _, st => .ok true st
  | .som e, env, st => (evE e true env st).bind fun x st => boolOf x st
/-- what is walked -/
def evI : It → Env → Store → R (List D)
  | .seq e, env, st => (evE e false env st).bind fun x st => (datOf x st).bind fun d st => rOpt (seqOf d) st
  | .rng1 a, env, st => (evE a true env st).bind fun x st => (intOf x st).bind fun i st => bif rngOk i then .ok (rangeUp 0 i) st else .no
  | .rng2 a b, env, st => (evE a true env st).bind fun x st => (intOf x st).bind fun i st => (evE b true env st).bind fun x st => (intOf x st).bind fun j st => bif rngOk i && rngOk j then .ok (rangeUp i j) st else .no
  | .rng3 a b c, env, st => (evE a true env st).bind fun x st => (intOf x st).bind fun i st => (evE b true env st).bind fun x st => (intOf x st).bind fun j st => (evE c true env st).bind fun x st => (intOf x st).bind fun k st =>
      bif rngOk i && rngOk j && decide (k = -1) then .ok (rangeDn i j) st else .no
  | .enum e, env, st => (evE e false env st).bind fun x st => (datOf x st).bind fun d st => (rOpt (seqOf d) st).bind fun xs st => .ok (enumL 0 xs) st
  | .zip a b, env, st => (evE a false env st).bind fun x st => (datOf x st).bind fun d st => (evE b false env st).bind fun x st => (datOf x st).bind fun e st => rOpt (zipD d e) st
end
/-! ### statements -/
inductive SR where
  | nx (env : Env) (st : Store)
  | rt (x : RV) (st : Store)
  | br (env : Env) (st : Store)
  | ct (env : Env) (st : Store)
  | ex (c : Str) (ds : List (Str × D)) (env : Env) (st : Store)
  | no
mutual
inductive Sm where
  | pass
  | exp (e : Ex)
  | ret (e : Ex)
  | set (i : Nat) (own : Bool) (e : Ex)
  | setT (ts : Tgs) (e : Ex)
  | par (ts : List Nat) (es : Exs)
  | parO (ts : List Nat) (fs : List Bool) (es : Exs)
  | aug (i : Nat) (o : Op2) (e : Ex)
  | ite (c : Ex) (a b : Sms)
  | whil (c : Ex) (b : Sms)
  | forr (tg : Tg) (it : It) (b : Sms)
  | brk
  | cnt
  | app (i : Nat) (e : Ex)
  | popd (i : Nat)
  | popt (j i : Nat)
  | setix (i : Nat) (k e : Ex)
  | setloc (a k e : Ex)
  | frz (i : Nat)
  | never
  | clr (i : Nat)
  | rais (c : Str)
  | dput (i : Nat) (k e : Ex)
  | tryR (b : Sms) (c : Str) (e : Ex)
  | tryY (b : Sms) (c : Str) (i : Nat) (k : Str)
  | raisD (c f : Str) (e : Ex)
  | tryX (b : Sms) (c : Str) (i : Nat) (h : Hx)
inductive Sms where
  | nil
  | cons (s : Sm) (ss : Sms)
end
def R.sr {α : Type} (x : R α) (env : Env) (f : α → Store → SR) : SR := match x with
  | .ok a st => f a st
  | .exc c ds st => .ex c ds env st
  | .no => .no
def SR.seq (x : SR) (f : Env → Store → SR) : SR := match x with
  | .nx env st => f env st
  | r => r
def WF : Nat := 2 ^ 64
/-- a loop's turn: what follows, by how the body ended -/
def turn (x : SR) (f : Env → Store → SR) : SR := match x with
  | .nx env st => f env st
  | .ct env st => f env st
  | .br env st => .nx env st
  | r => r
def forL (tg : Tg) (body : Env → Store → SR) : List D → Env → Store → SR
  | [], env, st => .nx env st
  | d :: r, env, st => match bindTg tg d env with
    | none => .no
    | some env' => turn (body env' st) (forL tg body r)
def whileL (test : Env → Store → R Bool) (body : Env → Store → SR) : Nat → Env → Store → SR
  | 0, _, _ => .no
  | n + 1, env, st => (test env st).sr env fun k st => bif k then turn (body env st) (whileL test body n) else .nx env st
def putVals : List Nat → List D → Env → Option Env
  | [], [], env => some env
  | i :: is, d :: ds, env => putVals is ds (List.set env i (.val (.dat d)))
  | _, _, _ => none
/-- what slots are stored, which of them new lists of ours -/
def evR : List Bool → Exs → Env → Store → R (List Slot)
  | [], .nil, _, st => .ok [] st
  | b :: fs, .cons e es, env, st => (evE e false env st).bind fun x st => bif b then (match x with
      | ⟨true, .dat d⟩ => (evR fs es env st).bind fun ss st => .ok (.own d :: ss) st
      | _ => .no) else (datOf x st).bind fun d st => (evR fs es env st).bind fun ss st => .ok (.val (.dat d) :: ss) st
  | _, _, _, _ => .no
def putSlots : List Nat → List Slot → Env → Option Env
  | [], [], env => some env
  | i :: is, s :: ss, env => putSlots is ss (List.set env i s)
  | _, _, _ => none
def augI : Op2 → Int → Int → Option Int
  | .add, a, b => some (a + b)
  | .sub, a, b => some (a - b)
  | _, _, _ => none
mutual
def evS : Sm → Env → Store → SR
  | .pass, env, st => .nx env st
  | .exp e, env, st => (evE e true env st).sr env fun _ st => .nx env st
  | .ret e, env, st => match e with
    | .var i => (match env[i]? with
      | some (.own d) => .rt (fresh d) st
      | _ => (evE (.var i) false env st).sr env fun x st => .rt x st)
    | e => (evE e false env st).sr env fun x st => .rt x st
  | .set i own e, env, st => (evE e false env st).sr env fun x st =>
      bif own then (match x with
        | ⟨true, .dat d⟩ => .nx (List.set env i (.own d)) st
        | _ => .no)
      else .nx (List.set env i (.val x.v)) st
  | .setT ts e, env, st => (evE e false env st).sr env fun x st => (datOf x st).sr env fun d st => match bindTg (.tup ts) d env with
    | some env' => .nx env' st
    | none => .no
  | .par ts es, env, st => (evA es env st).sr env fun ds st => match putVals ts ds env with
    | some env' => .nx env' st
    | none => .no
  | .parO ts fs es, env, st => (evR fs es env st).sr env fun ss st => match putSlots ts ss env with
    | some env' => .nx env' st
    | none => .no
  | .aug i o e, env, st => match env[i]? with
    | some (.val (.dat (.int a))) => (evE e true env st).sr env fun x st => (intOf x st).sr env fun b st => match augI o a b with
      | some k => .nx (List.set env i (.val (.dat (.int k)))) st
      | none => .no
    | _ => .no
  | .ite c a b, env, st => (evE c true env st).sr env fun x st => (boolOf x st).sr env fun k st => bif k then evSs a env st else evSs b env st
  | .whil c b, env, st => whileL (fun env st => (evE c true env st).bind fun x st => boolOf x st) (evSs b) WF env st
  | .forr tg it b, env, st => (evI it env st).sr env fun items st => forL tg (evSs b) items env st
  | .brk, env, st => .br env st
  | .cnt, env, st => .ct env st
  | .app i e, env, st => match env[i]? with
    | some (.own (.list xs)) => (evE e false env st).sr env fun x st => (datOf x st).sr env fun d st => bif fitsS xs.length then .nx (List.set env i (.own (.list (xs ++ [d])))) st else .no
    | _ => .no
  | .popd i, env, st => match env[i]? with
    | some (.own (.list xs)) => (match xs.getLast? with
      | some _ => .nx (List.set env i (.own (.list xs.dropLast))) st
      | none => .no)
    | _ => .no
  | .popt j i, env, st => match env[i]? with
    | some (.own (.list xs)) => (match xs.getLast? with
      | some d => bif j == i then .no else .nx (List.set (List.set env i (.own (.list xs.dropLast))) j (.val (.dat d))) st
      | none => .no)
    | _ => .no
  | .setix i k e, env, st => (evE e false env st).sr env fun x st => (datOf x st).sr env fun d st => match env[i]? with
    | some (.own (.list xs)) => (evE k true env st).sr env fun y st => (intOf y st).sr env fun n st =>
        match L2.ixN xs.length n with
        | some j => .nx (List.set env i (.own (.list (xs.set j d)))) st
        | none => .no
    | _ => .no
  | .setloc a k e, env, st => (evE e false env st).sr env fun x st => (evE a false env st).sr env fun o st => (evE k true env st).sr env fun y st => match o.v, y.v with
    | .loc n, .dat (.str s) => (match st[n]? with
      | some (.dic kvs) => bif (kvs.lookup s).isSome && fitsS kvs.length then .nx env (st.set n (.dic (kvs.map fun p => bif p.1 == s then (p.1, x.v) else p))) else .no
      | _ => .no)
    | _, _ => .no
  | .frz i, env, st => match env[i]? with
    | some (.own d) => .nx (List.set env i (.val (.dat d))) st
    | _ => .no
  | .never, _, _ => .no
  | .clr i, env, st => match env[i]? with
    | some (.own (.list _)) => .nx (List.set env i (.own (.list []))) st
    | _ => .no
  | .rais c, env, st => .ex c [] env st
  | .dput i k e, env, st => (evE e false env st).sr env fun x st => (datOf x st).sr env fun d st => match env[i]? with
    | some (.own (.dict kvs)) => (evE k true env st).sr env fun y st => (intOf y st).sr env fun n st =>
        bif fitsS kvs.length then .nx (List.set env i (.own (.dict (dPutI kvs n d)))) st else .no
    | _ => .no
  | .tryR b c e, env, st => match evSs b env st with
    | .ex c' _ env' st' => bif decide (c' = c) then (evE e false env' st').sr env' fun x st => .rt x st else .no
    | r => r
  | .tryY b c i _, env, st => match evSs b env st with
    | .ex c' ds env' st' => bif decide (c' = c) && ds.isEmpty then (match env'[i]? with
      | some _ => .rt (plain (.bool true)) st'
      | none => .no) else .no
    | r => r
  | .raisD c f e, env, st => (evE e false env st).sr env fun x st => (intOf x st).sr env fun i st => .ex c [(f, .int i)] env st
  | .tryX b c i h, env, st => match evSs b env st with
    | .ex c' ds env' st' => bif decide (c' = c) then (match env'[i]?, hxR h ds with
      | some _, some (fr, d) => .rt ⟨fr, .dat d⟩ st'
      | _, _ => .no) else .no
    | r => r
def evSs : Sms → Env → Store → SR
  | .nil, env, st => .nx env st
  | .cons s ss, env, st => (evS s env st).seq (evSs ss)
end
/-- a def: its parameters' number, its slots' number, its body -/
def fnOf (np ns : Nat) (body : Sms) : Fn := fun vs st => bif decide (vs.length = np) then
  (match evSs body (vs.map Slot.val ++ List.replicate (ns - np) .un) st with
    | .nx _ st => .ok (plain .none) st
    | .rt x st => .ok x st
    | .ex c ds _ st => .exc c ds st
    | _ => .no) else .no
end MP
/-! How the small language's data lie in the hand layer's heap. -/
namespace MP
open PySem PyProof.Rows L2 PySem.Spec
/-! ### data -/
def keyD : Key → D
  | .inl i => .int i
  | .inr x => .str x
/-- a list that stands as it is: frozen, or the module's own -/
def SqZ (K : PySem.W.Frag) (Z : Addr → Prop) (H : Hp) (a : Addr) (xs : List V) : Prop := (Z a ∧ Rd H a (.lst xs)) ∨ SqL K (fun _ => none) a xs
theorem SqZ.seq {K : PySem.W.Frag} {Z : Addr → Prop} {H : Hp} {a : Addr} {xs : List V} (h : SqZ K Z H a xs) : SqL K H a xs := by
  rcases h with ⟨_, h⟩ | (h | h)
  · exact .inl h
  · rcases h with h | ⟨_, h⟩ <;> cases h
  · exact .inr h
mutual
inductive RD (K : PySem.W.Frag) (Z : Addr → Prop) (H : Hp) : V → D → Prop
  | none : RD K Z H .non .none
  | bool (b : Bool) : RD K Z H (.bl b) (.bool b)
  | int (i : Int) : RD K Z H (.int i) (.int i)
  | str (x : Str) : RD K Z H (.str x) (.str x)
  | tuple {a : Addr} {xs : List V} {ds : List D} : SqT K H a xs → RDs K Z H xs ds → RD K Z H (.ref a) (.tuple ds)
  | list {a : Addr} {xs : List V} {ds : List D} : SqZ K Z H a xs → RDs K Z H xs ds → RD K Z H (.ref a) (.list ds)
  | dict {a : Addr} {kvs : List (Key × V)} {ds : List (D × D)} : Z a → Rd H a (.dK kvs) → RKs K Z H kvs ds → RD K Z H (.ref a) (.dict ds)
inductive RDs (K : PySem.W.Frag) (Z : Addr → Prop) (H : Hp) : List V → List D → Prop
  | nil : RDs K Z H [] []
  | cons {v : V} {vs : List V} {d : D} {ds : List D} : RD K Z H v d → RDs K Z H vs ds → RDs K Z H (v :: vs) (d :: ds)
inductive RKs (K : PySem.W.Frag) (Z : Addr → Prop) (H : Hp) : List (Key × V) → List (D × D) → Prop
  | nil : RKs K Z H [] []
  | cons {k : Key} {v : V} {vs : List (Key × V)} {d : D} {ds : List (D × D)} : RD K Z H v d → RKs K Z H vs ds → RKs K Z H ((k, v) :: vs) ((keyD k, d) :: ds)
end
section
variable {K : PySem.W.Frag} {Z Z' : Addr → Prop} {H H' : Hp}
/-- what keeps data as they are -/
structure Holds (Z Z' : Addr → Prop) (H H' : Hp) : Prop where
  tup : ∀ a xs, Rd H a (.tup xs) → Rd H' a (.tup xs)
  z : ∀ a, Z a → Z' a
  obj : ∀ a u, Z a → (∀ ps, u ≠ .tbl ps) → Rd H a u → Rd H' a u
/-- no table -/
theorem ntL {xs : List V} : ∀ ps, HO.lst xs ≠ .tbl ps := fun _ h => by cases h
theorem ntD {kvs : List (Key × V)} : ∀ ps, HO.dK kvs ≠ .tbl ps := fun _ h => by cases h
theorem ntT {xs : List V} : ∀ ps, HO.tup xs ≠ .tbl ps := fun _ h => by cases h
mutual
theorem RD.holds (h : Holds Z Z' H H') : ∀ {v : V} {d : D}, RD K Z H v d → RD K Z' H' v d
  | _, _, .none => .none
  | _, _, .bool b => .bool b
  | _, _, .int i => .int i
  | _, _, .str x => .str x
  | _, _, .tuple s r => .tuple (s.elim (fun q => .inl (h.tup _ _ q)) .inr) (RDs.holds h r)
  | _, _, .list s r => .list (s.imp (fun ⟨z, q⟩ => ⟨h.z _ z, h.obj _ _ z ntL q⟩) id) (RDs.holds h r)
  | _, _, .dict z s r => .dict (h.z _ z) (h.obj _ _ z ntD s) (RKs.holds h r)
theorem RDs.holds (h : Holds Z Z' H H') : ∀ {vs : List V} {ds : List D}, RDs K Z H vs ds → RDs K Z' H' vs ds
  | _, _, .nil => .nil
  | _, _, .cons r t => .cons (RD.holds h r) (RDs.holds h t)
theorem RKs.holds (h : Holds Z Z' H H') : ∀ {vs : List (Key × V)} {ds : List (D × D)}, RKs K Z H vs ds → RKs K Z' H' vs ds
  | _, _, .nil => .nil
  | _, _, .cons r t => .cons (RD.holds h r) (RKs.holds h t)
end
theorem RDs.length : ∀ {vs : List V} {ds : List D}, RDs K Z H vs ds → vs.length = ds.length
  | _, _, .nil => rfl
  | _, _, .cons _ t => congrArg Nat.succ t.length
theorem RDs.append : ∀ {vs us : List V} {ds es : List D}, RDs K Z H vs ds → RDs K Z H us es → RDs K Z H (vs ++ us) (ds ++ es)
  | _, _, _, _, .nil, q => q
  | _, _, _, _, .cons r t, q => .cons r (t.append q)
theorem RDs.get : ∀ {vs : List V} {ds : List D} {i : Nat} {d : D}, RDs K Z H vs ds → ds[i]? = some d → ∃ v, vs[i]? = some v ∧ RD K Z H v d
  | _, _, _, _, .nil, z => by simp at z
  | _, _, 0, _, .cons r _, e => by
    simp at e
    subst e
    exact ⟨_, rfl, r⟩
  | _, _, i + 1, _, .cons _ t, e => by
    obtain ⟨v, h1, h2⟩ := RDs.get (i := i) t (by simpa using e)
    exact ⟨v, by simpa using h1, h2⟩
theorem RDs.getV : ∀ {vs : List V} {ds : List D} {i : Nat} {v : V}, RDs K Z H vs ds → vs[i]? = some v → ∃ d, ds[i]? = some d ∧ RD K Z H v d
  | _, _, _, _, .nil, z => by simp at z
  | _, _, 0, _, .cons r _, e => by
    simp at e
    subst e
    exact ⟨_, rfl, r⟩
  | _, _, i + 1, _, .cons _ t, e => by
    obtain ⟨v, h1, h2⟩ := RDs.getV (i := i) t (by simpa using e)
    exact ⟨v, by simpa using h1, h2⟩
theorem RDs.take : ∀ {vs : List V} {ds : List D} (n : Nat), RDs K Z H vs ds → RDs K Z H (vs.take n) (ds.take n)
  | _, _, 0, _ => by simpa using RDs.nil
  | _, _, _ + 1, .nil => .nil
  | _, _, n + 1, .cons r t => by simpa using RDs.cons r (t.take n)
theorem RDs.drop : ∀ {vs : List V} {ds : List D} (n : Nat), RDs K Z H vs ds → RDs K Z H (vs.drop n) (ds.drop n)
  | _, _, 0, q => by simpa using q
  | _, _, _ + 1, .nil => .nil
  | _, _, n + 1, .cons _ t => by simpa using t.drop n
theorem RDs.reverse : ∀ {vs : List V} {ds : List D}, RDs K Z H vs ds → RDs K Z H vs.reverse ds.reverse
  | _, _, .nil => .nil
  | _, _, .cons r t => by
    simpa only [List.reverse_cons] using t.reverse.append (.cons r .nil)
theorem RDs.set {v : V} {d : D} (r : RD K Z H v d) : ∀ {vs : List V} {ds : List D} (i : Nat), RDs K Z H vs ds → RDs K Z H (vs.set i v) (ds.set i d)
  | _, _, _, .nil => .nil
  | _, _, 0, .cons _ q => .cons r q
  | _, _, i + 1, .cons q t => .cons q (t.set r i)
theorem RDs.replicate {v : V} {d : D} {vs : List V} {ds : List D} (h : RDs K Z H vs ds) : ∀ n : Nat, RDs K Z H (List.replicate n vs).flatten (List.replicate n ds).flatten
  | 0 => .nil
  | n + 1 => by
    simp only [List.replicate_succ, List.flatten_cons]
    exact h.append (RDs.replicate (v := v) (d := d) h n)
mutual
/-- data without dicts, for the layer's own comparisons -/
theorem RD.dp : ∀ {v : V} {d : D}, RD K Z H v d → d.canLay0 = true → Dp K H v d
  | _, _, .none, _ => .non
  | _, _, .bool b, _ => .bl b
  | _, _, .int i, _ => .int i
  | _, _, .str x, _ => .str x
  | _, _, .tuple s r, h => .tup s (RDs.dp r h)
  | _, _, .list s r, h => .lst s.seq (RDs.dp r h)
  | _, _, .dict _ _ _, h => by simp [PyData.canLay0] at h
theorem RDs.dp : ∀ {vs : List V} {ds : List D}, RDs K Z H vs ds → PyData.canLayAll0 ds = true → DpAll K H vs ds
  | _, _, .nil, _ => .nil
  | _, _, .cons r t, h => by
    simp only [PyData.canLayAll0, Bool.and_eq_true] at h
    exact .cons (RD.dp r h.1) (RDs.dp t h.2)
end
end
/-! ### the ghost: what is frozen, where the cells lie -/
structure G where
  Z : Addr → Prop
  rho : List Addr
  T : List (Addr × Str)
def RVal (K : PySem.W.Frag) (g : G) (H : Hp) (v : V) : Val → Prop
  | .dat d => RD K g.Z H v d
  | .loc n => ∃ a, g.rho[n]? = some a ∧ v = .ref a
inductive RVals (K : PySem.W.Frag) (g : G) (H : Hp) : List V → List Val → Prop
  | nil : RVals K g H [] []
  | cons {v : V} {vs : List V} {x : Val} {xs : List Val} : RVal K g H v x → RVals K g H vs xs → RVals K g H (v :: vs) (x :: xs)
inductive RKV (K : PySem.W.Frag) (g : G) (H : Hp) : List (Key × V) → List (Str × Val) → Prop
  | nil : RKV K g H [] []
  | cons {k : Str} {v : V} {vs : List (Key × V)} {x : Val} {xs : List (Str × Val)} : RVal K g H v x → RKV K g H vs xs → RKV K g H ((.inr k, v) :: vs) ((k, x) :: xs)
def CellIs (K : PySem.W.Frag) (g : G) (H : Hp) (a : Addr) : Cell → Prop
  | .lst xs => ∃ vs, H a = some (.lst vs) ∧ RDs K g.Z H vs xs
  | .dic kvs => ∃ kv', H a = some (.dK kv') ∧ RKV K g H kv' kvs
structure Ok (K : PySem.W.Frag) (g : G) (H : Hp) (st : Store) : Prop where
  zr : ∀ a, g.Z a → a ∉ g.rho
  zs : ∀ a, g.Z a → H a ≠ none
  len : g.rho.length = st.length
  nd : g.rho.Nodup
  cell : ∀ (n : Nat) a c, g.rho[n]? = some a → st[n]? = some c → CellIs K g H a c
  tb : LamX.Tabs g.T H
structure Step (g : G) (H : Hp) (g' : G) (H' : Hp) : Prop where
  z : ∀ a, g.Z a → g'.Z a
  zn : ∀ a, g'.Z a → g.Z a ∨ H a = none
  r : ∃ more, g'.rho = g.rho ++ more ∧ ∀ a ∈ more, H a = none
  keep : ∀ a o, H a = some o → a ∉ g.rho → (∀ ps, o ≠ .tbl ps) → H' a = some o
  gone : ∀ a, H' a = none → H a = none
  t : g'.T = g.T
section
variable {K : PySem.W.Frag} {g g1 g2 : G} {H H1 H2 : Hp} {st st1 : Store} {a : Addr} {v : V} {d : D}
theorem Step.refl : Step g H g H := ⟨fun _ h => h, fun _ h => .inl h, ⟨[], by simp, by simp⟩, fun _ _ h _ _ => h, fun _ h => h, rfl⟩
theorem Step.trans (a : Step g H g1 H1) (b : Step g1 H1 g2 H2) : Step g H g2 H2 := by
  obtain ⟨m1, e1, f1⟩ := a.r
  obtain ⟨m2, e2, f2⟩ := b.r
  refine ⟨fun c h => b.z c (a.z c h), fun c h => ?_, ⟨m1 ++ m2, by rw [e2, e1, List.append_assoc], fun c h => ?_⟩, fun c o h n nt => ?_, fun c h => a.gone c (b.gone c h), b.t.trans a.t⟩
  · rcases b.zn c h with q | q
    · exact a.zn c q
    · exact .inr (a.gone c q)
  · rcases List.mem_append.mp h with q | q
    · exact f1 c q
    · exact a.gone c (f2 c q)
  · refine b.keep c o (a.keep c o h n nt) (fun q => ?_) nt
    rw [e1] at q
    rcases List.mem_append.mp q with q | q
    · exact n q
    · rw [f1 c q] at h
      cases h
theorem Ok.some (o : Ok K g H st) (h : a ∈ g.rho) : (∃ vs, H a = some (.lst vs)) ∨ ∃ kv, H a = some (.dK kv) := by
  obtain ⟨n, hn⟩ := List.mem_iff_getElem?.mp h
  have hl : n < g.rho.length := (List.getElem?_eq_some_iff.mp hn).1
  have hs : n < st.length := by rw [← o.len]; exact hl
  have q := o.cell n a st[n] hn (List.getElem?_eq_getElem hs)
  cases hc : st[n] with
  | lst xs =>
    rw [hc] at q
    obtain ⟨vs, e, _⟩ := q
    exact .inl ⟨vs, e⟩
  | dic kvs =>
    rw [hc] at q
    obtain ⟨kv, e, _⟩ := q
    exact .inr ⟨kv, e⟩
theorem Ok.notIn (o : Ok K g H st) (h : H a = none) : a ∉ g.rho := fun q => by
  rcases o.some q with ⟨_, e⟩ | ⟨_, e⟩ <;> (rw [h] at e; cases e)
theorem Ok.rd {u : HO} (o : Ok K g H st) (h : Rd H a u) (hu : ¬ (∃ vs, u = .lst vs) ∧ ¬ ∃ kv, u = .dK kv) : a ∉ g.rho := fun q => by
  rcases o.some q with ⟨vs, e⟩ | ⟨kv, e⟩ <;> rcases h with h | ⟨ob, h⟩ <;> rw [h] at e <;> cases e
  · exact hu.1 ⟨_, rfl⟩
  · exact hu.2 ⟨_, rfl⟩
theorem Step.rd {u : HO} (s : Step g H g1 H1) (h : Rd H a u) (n : a ∉ g.rho) (nt : ∀ ps, u ≠ .tbl ps) : Rd H1 a u := by
  rcases h with h | ⟨o, h⟩
  · exact .inl (s.keep _ _ h n nt)
  · exact .inr ⟨o, s.keep _ _ h n fun _ z => by cases z⟩
theorem Step.holds (s : Step g H g1 H1) (o : Ok K g H st) : Holds g.Z g1.Z H H1 :=
  ⟨fun a xs h => s.rd h (o.rd h ⟨fun ⟨_, q⟩ => (by cases q), fun ⟨_, q⟩ => (by cases q)⟩) ntT, s.z, fun a u z nt h => s.rd h (o.zr a z) nt⟩
theorem RVal.step (s : Step g H g1 H1) (o : Ok K g H st) {x : Val} (h : RVal K g H v x) : RVal K g1 H1 v x := by
  cases x with
  | dat d => exact RD.holds (s.holds o) h
  | loc n =>
    obtain ⟨a, e, q⟩ := h
    obtain ⟨m, em, _⟩ := s.r
    exact ⟨a, by rw [em, List.getElem?_append_left (List.getElem?_eq_some_iff.mp e).1]; exact e, q⟩
theorem RVals.step (s : Step g H g1 H1) (o : Ok K g H st) : ∀ {vs : List V} {xs : List Val}, RVals K g H vs xs → RVals K g1 H1 vs xs
  | _, _, .nil => .nil
  | _, _, .cons r t => .cons (r.step s o) (RVals.step s o t)
theorem RVals.length : ∀ {vs : List V} {xs : List Val}, RVals K g H vs xs → vs.length = xs.length
  | _, _, .nil => rfl
  | _, _, .cons _ t => congrArg Nat.succ t.length
theorem RVals.get : ∀ {vs : List V} {xs : List Val} {i : Nat} {x : Val}, RVals K g H vs xs → xs[i]? = some x → ∃ v, vs[i]? = some v ∧ RVal K g H v x
  | _, _, _, _, .nil, z => by simp at z
  | _, _, 0, _, .cons r _, e => by
    simp at e
    subst e
    exact ⟨_, rfl, r⟩
  | _, _, i + 1, _, .cons _ t, e => by
    obtain ⟨v, h1, h2⟩ := RVals.get (i := i) t (by simpa using e)
    exact ⟨v, by simpa using h1, h2⟩
theorem RKV.step (s : Step g H g1 H1) (o : Ok K g H st) : ∀ {vs : List (Key × V)} {xs : List (Str × Val)}, RKV K g H vs xs → RKV K g1 H1 vs xs
  | _, _, .nil => .nil
  | _, _, .cons r t => .cons (r.step s o) (RKV.step s o t)
/-- a list or dict at a that is nobody's but ours -/
def OwnAt (K : PySem.W.Frag) (g : G) (H : Hp) (a : Addr) : D → Prop
  | .list xs => ∃ vs, H a = some (.lst vs) ∧ RDs K g.Z H vs xs ∧ ¬ g.Z a ∧ a ∉ g.rho
  | .dict ds => ∃ kvs, H a = some (.dK kvs) ∧ RKs K g.Z H kvs ds ∧ ¬ g.Z a ∧ a ∉ g.rho
  | _ => False
theorem OwnAt.ne (h : OwnAt K g H a d) : H a ≠ none := by
  cases d <;> try exact h.elim
  all_goals
    obtain ⟨vs, e, _⟩ := h
    rw [e]
    exact fun q => by cases q
theorem OwnAt.nz (h : OwnAt K g H a d) : ¬ g.Z a ∧ a ∉ g.rho := by
  cases d <;> try exact h.elim
  all_goals
    obtain ⟨vs, e, _, q⟩ := h
    exact q
theorem Step.nz (s : Step g H g1 H1) (h : ¬ g.Z a) (n : H a ≠ none) : ¬ g1.Z a := fun q => (s.zn a q).elim h n
theorem Step.nr (s : Step g H g1 H1) (h : a ∉ g.rho) (n : H a ≠ none) : a ∉ g1.rho := fun q => by
  obtain ⟨m, e, f⟩ := s.r
  rw [e] at q
  rcases List.mem_append.mp q with q | q
  · exact h q
  · exact n (f a q)
theorem OwnAt.step (s : Step g H g1 H1) (o : Ok K g H st) (h : OwnAt K g H a d) : OwnAt K g1 H1 a d := by
  have ne := h.ne
  cases d <;> try exact h.elim
  · obtain ⟨vs, e, r, nz, nr⟩ := h
    exact ⟨vs, s.keep _ _ e nr ntL, RDs.holds (s.holds o) r, s.nz nz ne, s.nr nr ne⟩
  · obtain ⟨vs, e, r, nz, nr⟩ := h
    exact ⟨vs, s.keep _ _ e nr ntD, RKs.holds (s.holds o) r, s.nz nz ne, s.nr nr ne⟩
/-- what is only looked at -/
def RT (K : PySem.W.Frag) (g : G) (H : Hp) (v : V) (d : D) : Prop := RD K g.Z H v d ∨ ∃ a, v = .ref a ∧ OwnAt K g H a d
theorem RT.step (s : Step g H g1 H1) (o : Ok K g H st) (h : RT K g H v d) : RT K g1 H1 v d := by
  rcases h with h | ⟨a, e, h⟩
  · exact .inl (RD.holds (s.holds o) h)
  · exact .inr ⟨a, e, h.step s o⟩
/-- a slot's value -/
def SlotOk (K : PySem.W.Frag) (g : G) (H : Hp) (x : Option V) : Slot → Prop
  | .un => True
  | .val v => ∃ w, x = some w ∧ RVal K g H w v
  | .own d => ∃ a, x = some (.ref a) ∧ OwnAt K g H a d
structure EnvOk (K : PySem.W.Frag) (g : G) (H : Hp) (σ : L2.St) (env : Env) : Prop where
  len : env.length = σ.length
  at_ : ∀ (i : Nat) s x, env[i]? = some s → σ[i]? = some x → SlotOk K g H x s
  apart : ∀ (i j : Nat) d d' a, env[i]? = some (.own d) → env[j]? = some (.own d') → σ[i]? = some (some (.ref a)) → σ[j]? = some (some (.ref a)) → i = j
theorem SlotOk.step (s : Step g H g1 H1) (o : Ok K g H st) {x : Option V} {sl : Slot} (h : SlotOk K g H x sl) : SlotOk K g1 H1 x sl := by
  cases sl with
  | un => trivial
  | val v =>
    obtain ⟨w, e, r⟩ := h
    exact ⟨w, e, r.step s o⟩
  | own d =>
    obtain ⟨a, e, r⟩ := h
    exact ⟨a, e, r.step s o⟩
theorem EnvOk.step {σ : L2.St} {env : Env} (s : Step g H g1 H1) (o : Ok K g H st) (h : EnvOk K g H σ env) : EnvOk K g1 H1 σ env :=
  ⟨h.len, fun i sl x e1 e2 => (h.at_ i sl x e1 e2).step s o, h.apart⟩
theorem EnvOk.slot {σ : L2.St} {env : Env} {i : Nat} {s : Slot} (h : EnvOk K g H σ env) (e : env[i]? = some s) : ∃ x, σ[i]? = some x ∧ SlotOk K g H x s := by
  have hi : i < env.length := (List.getElem?_eq_some_iff.mp e).1
  have hs : i < σ.length := by rw [← h.len]; exact hi
  exact ⟨σ[i], List.getElem?_eq_getElem hs, h.at_ i s _ e (List.getElem?_eq_getElem hs)⟩
/-- what an expression comes to -/
def ROut (K : PySem.W.Frag) (pk : Bool) (g : G) (H H0 : Hp) (v : V) : RV → Prop
  | ⟨true, .dat d⟩ => ∃ a, v = .ref a ∧ H0 a = none ∧ OwnAt K g H a d
  | ⟨false, .dat d⟩ => if pk = true then RT K g H v d else RD K g.Z H v d
  | ⟨_, .loc n⟩ => RVal K g H v (.loc n)
theorem ROut.rt {pk : Bool} {H0 : Hp} {x : RV} (h : ROut K pk g H H0 v x) (e : x.v = .dat d) : RT K g H v d := by
  obtain ⟨fr, y⟩ := x
  simp only at e
  subst e
  cases fr with
  | true =>
    obtain ⟨a, e, _, q⟩ := h
    exact .inr ⟨a, e, q⟩
  | false =>
    cases pk with
    | true => exact h
    | false => exact .inl h
/-- a new list or dict is frozen -/
def G.add (g : G) (a : Addr) : G := ⟨fun b => g.Z b ∨ b = a, g.rho, g.T⟩
theorem Step.add (s : Step g H g1 H1) (h : H a = none) : Step g H (g1.add a) H1 :=
  ⟨fun b q => .inl (s.z b q), fun b q => q.elim (s.zn b) fun e => .inr (e ▸ h), s.r, s.keep, s.gone, s.t⟩
theorem holds_add : Holds g.Z (g.add a).Z H H := ⟨fun _ _ h => h, fun _ h => .inl h, fun _ _ _ _ h => h⟩
theorem rval_add {x : Val} (h : RVal K g H v x) : RVal K (g.add a) H v x := by
  cases x with
  | dat d => exact RD.holds holds_add h
  | loc n => exact h
theorem rkv_add : ∀ {vs : List (Key × V)} {xs : List (Str × Val)}, RKV K g H vs xs → RKV K (g.add a) H vs xs
  | _, _, .nil => .nil
  | _, _, .cons r t => .cons (rval_add r) (rkv_add t)
theorem Ok.add (o : Ok K g H st) (h : a ∉ g.rho) (hn : H a ≠ none) : Ok K (g.add a) H st :=
  ⟨fun b q => q.elim (o.zr b) fun e => e ▸ h, fun b q => q.elim (o.zs b) fun e => e ▸ hn, o.len, o.nd, fun n b c e1 e2 => by
    have q := o.cell n b c e1 e2
    cases c with
    | lst xs =>
      obtain ⟨vs, e, r⟩ := q
      exact ⟨vs, e, RDs.holds holds_add r⟩
    | dic kvs =>
      obtain ⟨kv, e, r⟩ := q
      exact ⟨kv, e, rkv_add r⟩, o.tb⟩
theorem OwnAt.frozen (h : OwnAt K g H a d) : RD K (g.add a).Z H (.ref a) d := by
  cases d <;> try exact h.elim
  · obtain ⟨vs, e, r, _⟩ := h
    exact .list (.inl ⟨.inr rfl, .inl e⟩) (RDs.holds holds_add r)
  · obtain ⟨vs, e, r, _⟩ := h
    exact .dict (.inr rfl) (.inl e) (RKs.holds holds_add r)
/-- from a result to a datum that all may have: the ghost grows -/
theorem ROut.frozen {H0 : Hp} {x : RV} {g0 : G} (s : Step g0 H0 g H) (o : Ok K g H st) (h : ROut K false g H H0 v x) (e : x.v = .dat d) : ∃ g', Step g0 H0 g' H ∧ Ok K g' H st ∧ RD K g'.Z H v d ∧ Holds g.Z g'.Z H H ∧ g'.rho = g.rho := by
  obtain ⟨fr, y⟩ := x
  simp only at e
  subst e
  cases fr with
  | true =>
    obtain ⟨a, rfl, n, q⟩ := h
    exact ⟨g.add a, s.add n, o.add q.nz.2 q.ne, q.frozen, holds_add, rfl⟩
  | false => exact ⟨g, s, o, h, ⟨fun _ _ h => h, fun _ h => h, fun _ _ _ _ h => h⟩, rfl⟩
/-- .. of any kind -/
theorem ROut.frozenV {H0 : Hp} {x : RV} {g0 : G} (s : Step g0 H0 g H) (o : Ok K g H st) (h : ROut K false g H H0 v x) : ∃ g', Step g0 H0 g' H ∧ Ok K g' H st ∧ RVal K g' H v x.v := by
  obtain ⟨fr, y⟩ := x
  cases y with
  | dat d =>
    obtain ⟨g', s', o', r, _⟩ := h.frozen s o rfl
    exact ⟨g', s', o', r⟩
  | loc n => exact ⟨g, s, o, by cases fr <;> exact h⟩
/-- a new object that is tracked -/
theorem Step.new {u : HO} (h : H a = none) : Step g H g (upd H a u) :=
  ⟨fun _ q => q, fun _ q => .inl q, ⟨[], by simp, by simp⟩, fun b o e _ _ => by rw [upd_ne (ne_of_none e h)]; exact e, fun b e => by
    by_cases hb : b = a
    · exact hb ▸ h
    · rw [upd_ne hb] at e
      exact e, rfl⟩
theorem Ok.step (o : Ok K g H st) (s : Step g H g H1) (hc : ∀ a ∈ g.rho, H1 a = H a) (ht : LamX.Tabs g.T H1) : Ok K g H1 st :=
  ⟨o.zr, fun b z e => o.zs b z (s.gone b e), o.len, o.nd, fun n b c e1 e2 => by
    have q := o.cell n b c e1 e2
    have eb := hc b (List.mem_of_getElem? e1)
    cases c with
    | lst xs =>
      obtain ⟨vs, e, r⟩ := q
      exact ⟨vs, eb.trans e, RDs.holds (s.holds o) r⟩
    | dic kvs =>
      obtain ⟨kv, e, r⟩ := q
      exact ⟨kv, eb.trans e, r.step s o⟩, ht⟩
theorem Ok.new {u : HO} (o : Ok K g H st) (h : H a = none) : Ok K g (upd H a u) st := o.step (.new h) (fun b hb => upd_ne fun e => o.notIn h (e ▸ hb)) (o.tb.ext fun b u e => by rw [upd_ne (ne_of_none e h)]; exact e)
theorem RD.new_tup {xs : List V} {ds : List D} (o : Ok K g H st) (h : H a = Option.none) (r : RDs K g.Z H xs ds) : RD K g.Z (upd H a (.tup xs)) (.ref a) (.tuple ds) :=
  .tuple (.inl (.inl upd_same)) (RDs.holds ((Step.new (g := g) h).holds o) r)
theorem OwnAt.new_lst {xs : List V} {ds : List D} (o : Ok K g H st) (h : H a = none) (r : RDs K g.Z H xs ds) : OwnAt K g (upd H a (.lst xs)) a (.list ds) :=
  ⟨xs, upd_same, RDs.holds ((Step.new (g := g) h).holds o) r, fun z => o.zs a z h, o.notIn h⟩
/-- tables stay where another thing is changed -/
theorem tabs_upd {T : List (Addr × Str)} {u : HO} (t : LamX.Tabs T H) (h1 : ∀ ps, H a ≠ some (.tbl ps)) (h2 : ∀ c q, H a ≠ some (LamX.CodeO c q)) : LamX.Tabs T (upd H a u) := fun p hp => by
  obtain ⟨ps, e1, e2, e3⟩ := t p hp
  refine ⟨ps, by rw [upd_ne (show p.1 ≠ a from fun z => h1 ps (by rw [← z]; exact e1))]; exact e1, e2, fun pos cv hc => ?_⟩
  obtain ⟨c, e4, e5⟩ := e3 pos cv hc
  exact ⟨c, e4, by rw [upd_ne (show c ≠ a from fun z => h2 c p.2 (by rw [← z]; exact e5))]; exact e5⟩
theorem tabs_lst {T : List (Addr × Str)} {u : HO} {vs : List V} (t : LamX.Tabs T H) (ha : H a = some (.lst vs)) : LamX.Tabs T (upd H a u) := tabs_upd t (fun _ z => by rw [ha] at z; cases z) (fun _ _ z => by rw [ha] at z; unfold LamX.CodeO at z; cases z)
theorem tabs_dK {T : List (Addr × Str)} {u : HO} {vs : List (Key × V)} (t : LamX.Tabs T H) (ha : H a = some (.dK vs)) : LamX.Tabs T (upd H a u) := tabs_upd t (fun _ z => by rw [ha] at z; cases z) (fun _ _ z => by rw [ha] at z; unfold LamX.CodeO at z; cases z)
end
end MP
/-! Operations by values: what the small language reckons is what the model does. -/
namespace MP
open PySem PyProof.Rows L2 PySem.Spec
end MP
namespace PySem.SeqAt
open AutoSeq1 (wpAny_loadPart')
open MeetsSeq MeetsSeq2 MeetsSeq3 SeqRoads2
open PySem PyProof.Rows PySem.Spec
section
variable {prog : Program} {w : World} {A : Around} {E : Value → Shared → Prop} {s : Shared}
theorem str_eq_declines_dct (b : Str) (u : Tok) (l : Addr) (es : Array DictEntry) (n : Nat) (dd : Option Addr) (sl : Array (Option Value)) :
    Meets (Builtin.«str.__eq__» ⟨[.str b u, .ref l], []⟩) (fun _ R s => s.heap.get? l = some { cls := .type "dict", dict := dd, data := .dict es n, slots := sl } ∧ R (.ok (.ret .notImplemented)) s) :=
  .of_wp fun prog w A R s h => by obtain ⟨hp, g, d, tk, os⟩ := s; obtain ⟨hl, h⟩ := h; wp_walk using wpAny_loadPart' hl, wpAny_load hl; exact ⟨_, rfl, h⟩
theorem dct_eq_declines_str (l : Addr) (es : Array DictEntry) (n : Nat) (dd : Option Addr) (sl : Array (Option Value)) (b : Str) (u : Tok) :
    Meets (Builtin.«dict.__eq__» ⟨[.ref l, .str b u], []⟩) (fun _ R s => s.heap.get? l = some { cls := .type "dict", dict := dd, data := .dict es n, slots := sl } ∧ R (.ok (.ret .notImplemented)) s) :=
  .of_wp fun prog w A R s h => by
    obtain ⟨hl, h⟩ := h
    show wpAny _ _ (Builtin.Dict.dictSlotArgs "__eq__" ⟨[.ref l, .str b u], []⟩ >>= _) _ _ s
    refine wpAny_bind ?_
    unfold Builtin.Dict.dictSlotArgs
    refine wpAny_bind (wpAny_notOrdered_dict ⟨_, hl, rfl⟩ ?_)
    show wpAny _ _ (pure (Value.ref l, Value.str b u)) _ _ s
    refine wpAny_pure ?_
    refine wpAny_bind (wpAny_isInstance (T := "str") (typeIs_str s b u) PySem.F.sub_str_dict ?_)
    wp_walk
    exact ⟨_, rfl, h⟩
theorem RcAt.str_dct {l : Addr} {es : Array DictEntry} {n : Nat} {dd : Option Addr} {sl : Array (Option Value)} (b : Str) (u : Tok) (ho : s.heap.get? l = some { cls := .type "dict", dict := dd, data := .dict es n, slots := sl }) (hu : A.units < cLine) : RcAt A s (.str b u) (.ref l) false := fun prog w E Q h => by
  exact rc_eq_decline_or (k := false) (typeIs_str s b u) ⟨_, ho, rfl⟩ (by decide) F.sub_dict_str F.slot_str_eq F.slot_dict_eq_refl
    (fun _ hq => call_meets F.slot_str_eq (typeIs_str s b u) F.entry_str_eq (F.args_str_eq_2 _ _) (str_eq_declines_dct b u l es n dd sl) ⟨ho, hq⟩)
    (fun _ hq => call_meets F.slot_dict_eq_refl ⟨_, ho, rfl⟩ F.entry_dict_eq (F.args_dict_eq_2 _ _) (dct_eq_declines_str l es n dd sl b u) ⟨ho, hq⟩)
    (fun _ hq => wpAny_of_eq (rfl : isSame (.str b u) (.ref l) = pure false) hq) (.inr hu) h
theorem EqAt.str_dct {l : Addr} {es : Array DictEntry} {n : Nat} {dd : Option Addr} {sl : Array (Option Value)} (b : Str) (u : Tok) (ho : s.heap.get? l = some { cls := .type "dict", dict := dd, data := .dict es n, slots := sl }) (hu : A.units < cLine) : EqAt A s (.str b u) (.ref l) false := fun prog w E Q h => by
  unfold eqBool
  refine wpAny_holding ?_
  refine wpAny_ite_split (fun hab => absurd (eq_of_beq hab) nofun) (fun _ => ?_)
  exact wpAny_bind (RcAt.str_dct b u ho hu prog w E _ (wpAny_truthy_bool h))
end
end PySem.SeqAt
namespace L2
open PySem PySem.Spec PyProof.Rows
theorem tuple_mulW1 (l : Addr) (items : Array Value) (n : Nat) (dd : Option Addr) (sl : Array (Option Value)) (x : Int) (u : Tok) (c0 : (decide (x < -(2 ^ 63)) || decide (x ≥ 2 ^ 63)) = false) (c1 : (items.isEmpty || x == 1) = true) :
    Meets (Builtin.«tuple.__mul__» ⟨[.ref l, .int x u], []⟩) (fun _ R s => s.heap.get? l = some { cls := .type "tuple", dict := dd, data := .seq items n, slots := sl } ∧
      R (.ok (.ret (Value.ref l))) s) :=
  .of_wp fun prog w A R s h => by
    obtain ⟨hp, g, d, tk, os⟩ := s
    obtain ⟨hl, h⟩ := h
    have f1 := AutoSeq1.idx_int
    wp_walk using wpAny_loadPart' hl
    repeat (first
      | (refine wpAny_ite_false (decide_eq_false (by rw [c0]; exact Bool.false_ne_true)) ?_; wp_walk using wpAny_loadPart' hl)
      | (refine wpAny_ite_true (decide_eq_true c1) ?_; wp_walk using wpAny_loadPart' hl))
    exact ⟨_, rfl, h⟩
theorem op_repT1 {X : Cx} : OpR X (binaryOp .Mult) (fun x y H Q => ∃ l k xs, x = .ref l ∧ y = .int k ∧ SqT X.K H l xs ∧ (xs = [] ∨ k = 1) ∧ k.natAbs < 2 ^ 62 ∧ Q (.ref l) H) := by
  intro pins s σ H x y v u Q I rx ry h
  obtain ⟨l, k, xs, rfl, rfl, hT, h1, h2, q⟩ := h
  cases rx
  obtain ⟨t, rfl⟩ := ry
  obtain ⟨its, r, ⟨⟨cls, dd, data, sl⟩, ho, hc, n, hd⟩, hs⟩ := I.tuple hT
  simp only at hc hd
  subst hc hd
  have c0 : (decide (k < -(2 ^ 63)) || decide (k ≥ 2 ^ 63)) = false := by
    rw [decide_eq_false (by omega), decide_eq_false (by omega)] <;> rfl
  have c1 : (its.toArray.isEmpty || k == 1) = true := by
    rcases h1 with e | e
    · have hle : its.length = xs.length := r.length.symm
      rw [e] at hle
      rw [List.eq_nil_of_length_eq_zero hle]
      rfl
    · rw [e]
      simp
  refine wpAny_binaryOp_repeat_ref (T := "tuple") (U := "int") (by decide) ⟨_, ho, rfl⟩ (fun s' => typeIs_int s' k t) noFill_tuple_mul F.fills_int_mul F.slot_int_rmul repeat_tuple F.slot_int_index.lookup
    (call_meets F.slot_int_rmul (typeIs_int s k t) F.entry_int_rmul (F.args_int_rmul_2 _ _) (int_rmul_tuple k t l its.toArray n dd sl)
      ⟨ho, rfl, ⟨_, ho, rfl⟩, call_meets F.slot_tuple_mul ⟨_, ho, rfl⟩ F.entry_tuple_mul (F.args_tuple_mul_2 _ _) (tuple_mulW1 l its.toArray n dd sl k t c0 c1) ⟨ho, ?_⟩⟩)
  exact ⟨.ref l, H, I, rfl, q⟩
end L2
namespace MP
open PySem PyProof.Rows L2 PySem.Spec
/-- what a step's end must bring -/
def Fin (K : PySem.W.Frag) (pk : Bool) (g : G) (H : Hp) (st : Store) (x : RV) (Q : VK) : Prop :=
  ∀ g' v H', Step g H g' H' → Ok K g' H' st → ROut K pk g' H' H v x → Q v H'
/-- two values into an operation of the model -/
def WO (X : Cx) (f : Value → Value → Sem Value) (x y : V) (H : Hp) (Q : VK) : Prop :=
  ∀ (pins : List (Addr × Obj)) (s : Shared) (σ : L2.St) (v u : Value), Inv X pins σ H s → RelV x v → RelV y u → wpAny (model X.prog X.w) X.A (f v u) (EP X pins σ Q) X.xe s
def WC (X : Cx) (f : Value) (xs : List V) (H : Hp) (Q : VK) : Prop :=
  ∀ (pins : List (Addr × Obj)) (s : Shared) (σ : L2.St) (us : List Value), Inv X pins σ H s → Vals xs us → wpAny (model X.prog X.w) X.A (call f us) (EP X pins σ Q) X.xe s
section
variable {X : Cx} {K : PySem.W.Frag} {pk : Bool} {g : G} {H : Hp} {st : Store} {Q : VK} {x y : V} {d e : D}
theorem WO.of {f : Value → Value → Sem Value} {r : R2} (h : OpR X f r) (q : r x y H Q) : WO X f x y H Q := fun pins s σ v u I rx ry => h pins s σ H x y v u Q I rx ry q
theorem WC.of {f : Value} {xs : List V} {r : List V → Hp → VK → Prop} (h : CallR X f r) (q : r xs H Q) : WC X f xs H Q := fun pins s σ us I rx => h pins s σ H xs us Q I rx q
theorem Fin.plain (o : Ok K g H st) (h : Fin K pk g H st (MP.plain d) Q) {v : V} (r : RD K g.Z H v d) : Q v H :=
  h g v H .refl o (by
    cases pk with
    | true => exact .inl r
    | false => exact r)
theorem Fin.lst (o : Ok K g H st) {ds : List D} (h : Fin K pk g H st (MP.fresh (.list ds)) Q) {vs : List V} (r : RDs K g.Z H vs ds) {p : Addr} (n : H p = none) : Q (.ref p) (upd H p (.lst vs)) :=
  h g (.ref p) _ (.new n) (o.new n) ⟨p, rfl, n, .new_lst o n r⟩
theorem Fin.tup (o : Ok K g H st) {ds : List D} (h : Fin K pk g H st (MP.plain (.tuple ds)) Q) {vs : List V} (r : RDs K g.Z H vs ds) {p : Addr} (n : H p = none) : Q (.ref p) (upd H p (.tup vs)) :=
  h g (.ref p) _ (.new n) (o.new n) (by
    have q := RD.new_tup o n r
    cases pk with
    | true => exact .inl q
    | false => exact q)
theorem RT.int {i : Int} (h : RT K g H x (.int i)) : x = .int i := by
  rcases h with h | ⟨a, _, h⟩
  · cases h
    rfl
  · exact h.elim
theorem RT.str {i : Str} (h : RT K g H x (.str i)) : x = .str i := by
  rcases h with h | ⟨a, _, h⟩
  · cases h
    rfl
  · exact h.elim
theorem RT.bool {i : Bool} (h : RT K g H x (.bool i)) : x = .bl i := by
  rcases h with h | ⟨a, _, h⟩
  · cases h
    rfl
  · exact h.elim
theorem RT.none (h : RT K g H x .none) : x = .non := by
  rcases h with h | ⟨a, _, h⟩
  · cases h
    rfl
  · exact h.elim
theorem RT.list {ds : List D} (h : RT K g H x (.list ds)) : ∃ a vs, x = .ref a ∧ SqL K H a vs ∧ RDs K g.Z H vs ds := by
  rcases h with h | ⟨a, e, vs, h1, h2, _⟩
  · cases h with
    | list s r => exact ⟨_, _, rfl, s.seq, r⟩
  · exact ⟨a, vs, e, .inl (.inl h1), h2⟩
theorem RT.tuple {ds : List D} (h : RT K g H x (.tuple ds)) : ∃ a vs, x = .ref a ∧ SqT K H a vs ∧ RDs K g.Z H vs ds ∧ RD K g.Z H x (.tuple ds) := by
  rcases h with h | ⟨a, _, h⟩
  · cases h with
    | tuple s r => exact ⟨_, _, rfl, s, r, .tuple s r⟩
  · exact h.elim
theorem RT.seq {ds : List D} (h : RT K g H x d) (e : seqOf d = some ds) : ∃ a vs, x = .ref a ∧ (SqL K H a vs ∨ SqT K H a vs) ∧ RDs K g.Z H vs ds := by
  cases d <;> simp only [seqOf] at e <;> try cases e
  · obtain ⟨a, vs, h1, h2, h3⟩ := h.list
    exact ⟨a, vs, h1, .inl h2, h3⟩
  · obtain ⟨a, vs, h1, h2, h3, _⟩ := h.tuple
    exact ⟨a, vs, h1, .inr h2, h3⟩
theorem RT.dp (h : RT K g H x d) (c : d.canLay0 = true) : Dp K H x d := by
  rcases h with h | ⟨a, rfl, h⟩
  · exact h.dp c
  · cases d <;> try exact h.elim
    · obtain ⟨vs, e, r, _⟩ := h
      exact .lst (.inl (.inl e)) (RDs.dp r c)
    · simp [PyData.canLay0] at c
/-! ### operators -/
def opS : Op2 → Operator
  | .add => .Add | .sub => .Sub | .mul => .Mult | .fdiv => .FloorDiv | .mod => .Mod | .pow => .Pow
theorem wo_cat {xs ys : List V} {a b : Addr} (ha : SqL X.K H a xs) (hb : SqL X.K H b ys) (hz : xs.length + ys.length ≤ sizeLine) (q : ∀ p, H p = none → Q (.ref p) (upd H p (.lst (xs ++ ys)))) : WO X (binaryOp .Add) (.ref a) (.ref b) H Q := by
  intro pins s σ v u I rx ry
  cases rx
  cases ry
  obtain ⟨l1, r1, ⟨⟨c1, d1, t1, k1⟩, n1, o1, rfl, _, e1⟩, _⟩ := I.list ha
  obtain ⟨l2, r2, ⟨⟨c2, d2, t2, k2⟩, n2, o2, rfl, _, e2⟩, _⟩ := I.list hb
  simp only at e1 e2
  subst e1 e2
  have h1 := r1.length
  have h2 := r2.length
  have e : l1.toArray ++ l2.toArray = (l1 ++ l2).toArray := by simp
  refine concat_meets ⟨_, o1, rfl⟩ ⟨_, o2, rfl⟩ noFill_list_add seq_list_add PySem.F.slot_list_add PySem.F.entry_list_add (PySem.F.args_list_add_2 _ _)
    (list_addW a b l1.toArray l2.toArray n1 n2 d1 d2 k1 k2 (by rw [List.size_toArray, List.size_toArray]; omega)) ⟨o1, o2, ?_⟩
  rw [e]
  exact ⟨.ref _, _, I.lnew (t' := s.toks) (r1.append r2) (by rw [List.length_append]; omega), rfl, q _ I.fresh⟩
theorem wo_fdiv {i j : Int} (hj : divOk j = true) (q : Q (.int (i.fdiv j)) H) : WO X (binaryOp .FloorDiv) (.int i) (.int j) H Q := by
  intro pins s σ v u I rx ry
  obtain ⟨t, rfl⟩ := rx
  obtain ⟨t', rfl⟩ := ry
  simp only [divOk, Bool.and_eq_true, decide_eq_true_eq] at hj
  exact floordiv_int hj.1 ⟨.int _, H, I.tok _, ⟨_, rfl⟩, q⟩ (.inl (PyProof.noPylong_of_log2 hj.2))
theorem wo_mul {i j : Int} (hj : mulOk i j = true) (q : Q (.int (i * j)) H) : WO X (binaryOp .Mult) (.int i) (.int j) H Q := by
  simp only [mulOk, Bool.or_eq_true, decide_eq_true_eq] at hj
  rcases hj with (hj | hj) | hj
  · exact WO.of op_mul ⟨i, j, rfl, rfl, .inl ⟨by omega, by omega⟩, q⟩
  · exact WO.of op_mul ⟨i, j, rfl, rfl, .inr ⟨by omega, by omega⟩, q⟩
  · exact WO.of op_mulW ⟨i, j, rfl, rfl, hj, q⟩
theorem int_rmul_listW (a : Int) (t : Tok) (l : Addr) (items : Array Value) (n : Nat) (dd : Option Addr) (sl : Array (Option Value)) :
    Meets (Builtin.«int.__rmul__» ⟨[.int a t, .ref l], []⟩) (fun _ R s => s.heap.get? l = some { cls := .type "list", dict := dd, data := .seq items n, slots := sl } ∧ R (.ok (.ret Value.notImplemented)) s) :=
  .of_wp fun prog w A R s h => by
    obtain ⟨hp, g, d, tk, os⟩ := s
    obtain ⟨hl, h⟩ := h
    wp_walk using wpAny_loadPart' hl
    exact ⟨_, rfl, h⟩
theorem list_mulW (l : Addr) (items : Array Value) (n : Nat) (dd : Option Addr) (sl : Array (Option Value)) (x : Int) (u : Tok) (hc0 : ¬(!Builtin.List.listFitsIndex x) = true) (hc1 : ¬items.size * x.toNat > (2 ^ 63 - 1) / 8) (hc2 : ¬Builtin.List.listTooLong (items.size * x.toNat) = true)
    (hsz : (List.foldl (fun x1 x2 => x1 ++ x2) #[] (List.replicate (if items.isEmpty = true then 0 else x.toNat) items)).size ≤ sizeLine) :
    Meets (Builtin.«list.__mul__» ⟨[.ref l, .int x u], []⟩) (fun _ R s => s.heap.get? l = some { cls := .type "list", dict := dd, data := .seq items n, slots := sl } ∧
      R (.ok (.ret (Value.ref s.heap.objs.size))) { s with heap := s.heap.push { cls := Value.type "list", data := Data.seq (List.foldl (fun x1 x2 => x1 ++ x2) #[] (List.replicate (if items.isEmpty = true then 0 else x.toNat) items)) }, toks := s.toks }) :=
  .of_wp fun prog w A R s h => by
    obtain ⟨hp, g, d, tk, os⟩ := s
    obtain ⟨hl, h⟩ := h
    wp_walk using wpAny_loadPart' hl
    refine wpAny_ite_false (decide_eq_false (Nat.not_lt.mpr hsz)) ?_
    wp_walk using wpAny_loadPart' hl
    exact ⟨_, rfl, h⟩
theorem wo_repL {a : Addr} {xs : List V} {k : Int} (ha : SqL X.K H a xs) (h0 : xs ≠ []) (h1 : 2 ≤ k) (h2 : k ≤ 1000) (hz : xs.length ≤ 1000) (q : ∀ p, H p = none → Q (.ref p) (upd H p (.lst (List.replicate k.toNat xs).flatten))) : WO X (binaryOp .Mult) (.ref a) (.int k) H Q := by
  intro pins s σ v u I rx ry
  cases rx
  obtain ⟨t, rfl⟩ := ry
  obtain ⟨its, r, ⟨⟨cls, dd, data, sl⟩, n, ho, hc, _, hd⟩, _⟩ := I.list ha
  simp only at hc hd
  subst hc hd
  have hle : its.length = xs.length := r.length.symm
  have hn : its ≠ [] := fun e => h0 (by
    rw [e] at hle
    exact List.eq_nil_of_length_eq_zero hle.symm)
  have hi : its.toArray.isEmpty = false := by
    cases its with
    | nil => exact absurd rfl hn
    | cons a b => rfl
  have a1 : k.toNat * xs.length ≤ 1000 * 1000 := Nat.mul_le_mul (by omega) hz
  have flen : (List.replicate k.toNat its).flatten.length ≤ sizeLine := by
    rw [PyProof.Rows.lm_len_rep_flat, hle, sizeLine_eq]
    omega
  have hlen : its.toArray.size * k.toNat ≤ sizeLine := by
    rw [List.size_toArray, hle, Nat.mul_comm, sizeLine_eq]
    omega
  have hcap : ¬ its.toArray.size * k.toNat > (2 ^ 63 - 1) / 8 := by
    have : (sizeLine : Nat) ≤ (2 ^ 63 - 1) / 8 := by decide
    omega
  have hfit : ¬ (!Builtin.List.listFitsIndex k) = true := by
    rw [fitsIndex_both (by omega) (by omega)]
    exact Bool.false_ne_true
  have hlong : ¬ Builtin.List.listTooLong (its.toArray.size * k.toNat) = true := by
    rw [notLongL hlen]
    exact Bool.false_ne_true
  have hnew : List.foldl (fun x1 x2 => x1 ++ x2) #[] (List.replicate (if its.toArray.isEmpty = true then 0 else k.toNat) its.toArray) = (List.replicate k.toNat its).flatten.toArray := by
    rw [hi, if_neg Bool.false_ne_true, size_rep]
  refine wpAny_binaryOp_repeat_ref (T := "list") (U := "int") (by decide) ⟨_, ho, rfl⟩ (fun s' => typeIs_int s' k t) noFill_list_mul F.fills_int_mul F.slot_int_rmul repeat_list F.slot_int_index.lookup
    (call_meets F.slot_int_rmul (typeIs_int s k t) F.entry_int_rmul (F.args_int_rmul_2 _ _) (int_rmul_listW k t a its.toArray n dd sl)
      ⟨ho, rfl, ⟨_, ho, rfl⟩, call_meets F.slot_list_mul ⟨_, ho, rfl⟩ F.entry_list_mul (F.args_list_mul_2 _ _) (list_mulW a its.toArray n dd sl k t hfit hcap hlong (by rw [hnew, List.size_toArray]; exact flen)) ⟨ho, ?_⟩⟩)
  rw [hnew]
  exact ⟨.ref _, _, I.lnew (t' := s.toks) (r.rep k.toNat) (by rw [PyProof.Rows.lm_len_rep_flat, sizeLine_eq]; omega), rfl, q _ I.fresh⟩
theorem bin_ok {o : Op2} {b : Bool} {r : D} (hx : RT K g H x d) (hy : RT K g H y e) (eK : X.K = K) (ok : Ok K g H st) (h : bin o d e = some (b, r)) (q : Fin K pk g H st ⟨b, .dat r⟩ Q) : WO X (binaryOp (opS o)) x y H Q := by
  subst eK
  cases o
  case add =>
    cases d <;> cases e <;> simp only [bin] at h <;> try cases h
    · have e1 := hx.int
      have e2 := hy.int
      subst e1 e2
      exact WO.of op_add ⟨_, _, rfl, rfl, q.plain ok (.int _)⟩
    · have e1 := hx.str
      have e2 := hy.str
      subst e1 e2
      cases hz : fits _ <;> rw [hz] at h <;> cases h
      exact WO.of op_add_str ⟨_, _, rfl, rfl, of_decide_eq_true hz, q.plain ok (.str _)⟩
    · obtain ⟨a, vs, rfl, s1, r1⟩ := hx.list
      obtain ⟨b, us, rfl, s2, r2⟩ := hy.list
      cases hz : fits _ <;> rw [hz] at h <;> cases h
      have hz := of_decide_eq_true hz
      rw [← r1.length, ← r2.length] at hz
      exact wo_cat s1 s2 hz fun p n => q.lst ok (r1.append r2) n
    · obtain ⟨a, vs, rfl, s1, r1, w1⟩ := hx.tuple
      obtain ⟨b, us, rfl, s2, r2, w2⟩ := hy.tuple
      cases hz : fits _ <;> rw [hz] at h <;> cases h
      have hz := of_decide_eq_true hz
      rw [← r1.length, ← r2.length] at hz
      refine WO.of op_catA ⟨a, b, vs, us, rfl, rfl, s1, s2, hz, fun ev => ?_, fun _ eu => ?_, fun _ _ p n => q.tup ok (r1.append r2) n⟩
      · subst ev
        cases r1
        exact q.plain ok w2
      · subst eu
        cases r2
        exact q.plain ok (by rw [List.append_nil]; exact w1)
  case sub =>
    cases d <;> cases e <;> simp only [bin] at h <;> try cases h
    have e1 := hx.int
    have e2 := hy.int
    subst e1 e2
    exact WO.of op_sub ⟨_, _, rfl, rfl, q.plain ok (.int _)⟩
  case mul =>
    cases d <;> cases e <;> simp only [bin] at h <;> try cases h
    · have e1 := hx.int
      have e2 := hy.int
      subst e1 e2
      cases hz : mulOk _ _ <;> rw [hz] at h <;> cases h
      exact wo_mul hz (q.plain ok (.int _))
    · obtain ⟨a, vs, rfl, s1, r1⟩ := hx.list
      have e2 := hy.int
      subst e2
      cases hz : repOk _ _ <;> rw [hz] at h <;> cases h
      simp only [repOk, Bool.and_eq_true, decide_eq_true_eq] at hz
      obtain ⟨⟨⟨h0, h1⟩, h2⟩, h3⟩ := hz
      refine wo_repL s1 (fun ev => ?_) h1 h2 (by rw [r1.length]; exact h3) fun p n => q.lst ok (r1.replicate (v := .non) (d := .none) _) n
      subst ev
      cases r1
      simp at h0
    · obtain ⟨a, vs, rfl, s1, r1, w1⟩ := hx.tuple
      have e2 := hy.int
      subst e2
      rename_i xs k
      cases hz : repOk xs k
      · rw [hz] at h
        cases h1 : rep1 xs k <;> rw [h1] at h <;> cases h
        simp only [rep1, Bool.and_eq_true, Bool.or_eq_true, decide_eq_true_eq] at h1
        obtain ⟨h1, h2⟩ := h1
        refine WO.of op_repT1 ⟨a, _, vs, rfl, rfl, s1, ?_, h2, q.plain ok w1⟩
        rcases h1 with h1 | h1
        · left
          cases r1 with
          | nil => rfl
          | cons _ _ => simp at h1
        · exact .inr h1
      rw [hz] at h
      cases h
      simp only [repOk, Bool.and_eq_true, decide_eq_true_eq] at hz
      obtain ⟨⟨⟨h0, h1⟩, h2⟩, h3⟩ := hz
      refine WO.of op_repT ⟨a, _, vs, rfl, rfl, s1, fun ev => ?_, h1, h2, by rw [r1.length]; exact h3, fun p n => q.tup ok (r1.replicate (v := .non) (d := .none) _) n⟩
      subst ev
      cases r1
      simp at h0
  case fdiv =>
    cases d <;> cases e <;> simp only [bin] at h <;> try cases h
    have e1 := hx.int
    have e2 := hy.int
    subst e1 e2
    cases hz : divOk _ <;> rw [hz] at h <;> cases h
    exact wo_fdiv hz (q.plain ok (.int _))
  case mod =>
    cases d <;> cases e <;> simp only [bin] at h <;> try cases h
    have e1 := hx.int
    have e2 := hy.int
    subst e1 e2
    rename_i i j
    cases hz : decide (j ≠ 0) <;> rw [hz] at h <;> cases h
    exact WO.of op_modN ⟨_, _, rfl, rfl, of_decide_eq_true hz, q.plain ok (.int _)⟩
  case pow =>
    cases d <;> cases e <;> simp only [bin] at h <;> try cases h
    have e1 := hx.int
    have e2 := hy.int
    subst e1 e2
    cases hz : powOk _ _ <;> rw [hz] at h <;> cases h
    simp only [powOk, Bool.and_eq_true, decide_eq_true_eq] at hz
    exact WO.of op_pow ⟨_, _, rfl, rfl, ⟨hz.1.1, hz.1.2, hz.2⟩, q.plain ok (.int _)⟩
/-! ### comparisons -/
def cpS : Cp → CmpOp
  | .eq => .Eq | .ne => .NotEq | .lt => .Lt | .le => .LtE | .gt => .Gt | .ge => .GtE | .isIn => .In | .notIn => .NotIn | .is => .Is | .isNot => .IsNot
theorem canLay_of {d : D} (h : shp d = true) : d.canLay0 = true := (Bool.and_eq_true_iff.mp h).1
theorem eqD_cases {d e : D} {b : Bool} (h : eqD d e = some b) : (∃ x y, d = .str x ∧ e = .str y ∧ b = decide (x = y)) ∨ (shp d = true ∧ shp e = true ∧ b = PyData.eqv d e) ∨ (∃ xs ys, d = .list xs ∧ e = .list ys ∧ xs.length ≠ ys.length ∧ b = false) ∨ ∃ z zs, d = .tuple (z :: zs) ∧ e = .tuple [] ∧ b = false := by
  by_cases ht : ∃ z zs, d = .tuple (z :: zs) ∧ e = .tuple []
  · obtain ⟨z, zs, rfl, rfl⟩ := ht
    exact .inr (.inr (.inr ⟨_, _, rfl, rfl, (Option.some.inj h).symm⟩))
  by_cases hs : ∃ x y, d = .str x ∧ e = .str y
  · obtain ⟨x, y, rfl, rfl⟩ := hs
    exact .inl ⟨x, y, rfl, rfl, (Option.some.inj h).symm⟩
  · by_cases hl : ∃ xs ys, d = .list xs ∧ e = .list ys ∧ xs.length ≠ ys.length
    · obtain ⟨xs, ys, rfl, rfl, hn⟩ := hl
      have h : (bif decide (xs.length = ys.length) then (bif shp (.list xs) && shp (.list ys) then some (PyData.eqv (.list xs) (.list ys)) else none) else some false) = some b := h
      rw [decide_eq_false hn] at h
      exact .inr (.inr (.inl ⟨xs, ys, rfl, rfl, hn, (Option.some.inj h).symm⟩))
    · have h : (bif shp d && shp e then some (PyData.eqv d e) else none) = some b := by
        cases d <;> cases e <;> first
          | exact h
          | exact (hs ⟨_, _, rfl, rfl⟩).elim
          | (rename_i xs ys
             have hn : xs.length = ys.length := Classical.byContradiction fun q => hl ⟨xs, ys, rfl, rfl, q⟩
             have h : (bif decide (xs.length = ys.length) then (bif shp (.list xs) && shp (.list ys) then some (PyData.eqv (.list xs) (.list ys)) else none) else some false) = some b := h
             rw [decide_eq_true hn] at h
             exact h)
          | (rename_i xs ys
             cases xs <;> cases ys <;> first
               | exact h
               | exact (ht ⟨_, _, rfl, rfl⟩).elim)
          | (rename_i xs y
             cases xs <;> exact h)
          | (rename_i xs
             cases xs <;> exact h)
      cases hz : shp d && shp e <;> rw [hz] at h <;> cases h
      have hz := Bool.and_eq_true_iff.mp hz
      exact .inr (.inl ⟨hz.1, hz.2, rfl⟩)
/-! an empty dict is none of some strings -/
theorem dict_obj {pins : List (Addr × Obj)} {s : Shared} {σ : L2.St} {a : Addr} {kv : List (Key × V)} (I : Inv X pins σ H s) (sd : Rd H a (.dK kv)) : ∃ es n dd sl, s.heap.get? a = some { cls := .type "dict", dict := dd, data := .dict es n, slots := sl } := by
  have ob : ObjOk X.prog X.w H s.heap a (.dK kv) := by
    rcases sd with sd | ⟨o, sd⟩
    · exact I.hok _ _ sd
    · exact (I.hok _ _ sd).2
  obtain ⟨_, hb, vs, kv, ⟨cls, dd, data, sl⟩, es, ep, ho, hx, hda, _, hp, _⟩ := ob
  have h1 : cls = .type "dict" := hx.1
  have h2 : data = .dict es ep := hda
  subst h1 h2
  exact ⟨_, _, _, _, ho⟩
theorem RT.dK {ds : List (D × D)} (h : RT K g H x (.dict ds)) : ∃ a kv, x = .ref a ∧ Rd H a (.dK kv) := by
  rcases h with h | ⟨a, rfl, kv, e, _⟩
  · cases h with
    | dict z s r => exact ⟨_, _, rfl, s⟩
  · exact ⟨a, kv, rfl, .inl e⟩
theorem allS_lay : ∀ {ys : List D}, allS ys = true → PyData.canLayAll0 ys = true
  | [], _ => rfl
  | .str _ :: r, h => by
    have h := Bool.and_eq_true_iff.mp h
    have := allS_lay (ys := r) h.2
    simp [PyData.canLayAll0, PyData.canLay0, this, h.1]
theorem allS_mem {h : Heap} : ∀ {ys : List D} {us : List Value} {as : List Addr}, allS ys = true → ReadsAll h us ys as → ∀ y ∈ us, ∃ b t, y = .str b t
  | [], _, _, _, r, y, hy => by
    cases r
    cases hy
  | .str _ :: r, _, _, h, q, y, hy => by
    cases q with
    | cons q1 q2 =>
      rcases List.mem_cons.mp hy with rfl | hy
      · cases q1
        exact ⟨_, _, rfl⟩
      · exact allS_mem (ys := r) (Bool.and_eq_true_iff.mp h).2 q2 y hy
theorem wo_ninD {ys : List D} {d : D} (hu : X.A.units + 65 < cLine) (hx : RT X.K g H x d) (hy : RT X.K g H y (.tuple ys)) (h0 : isD0 d = true) (hs : allS ys = true) (q : Q (.bl true) H) : WO X (compareOp .NotIn) x y H Q := by
  obtain ⟨ds, rfl⟩ : ∃ ds, d = .dict ds := by
    cases d <;> first
      | exact ⟨_, rfl⟩
      | cases h0
  obtain ⟨a, kv, rfl, sd⟩ := hx.dK
  intro pins s σ v u I rx ry
  cases rx
  obtain ⟨es, n, dd, sl, ho⟩ := dict_obj I sd
  obtain ⟨bs, rb⟩ := Dp.reads I _ y u (hy.dp (show (PyData.tuple ys).canLay0 = true from by simpa [PyData.canLay0] using allS_lay hs)) ry
  cases rb with
  | tuple h1 h2 h3 h4 =>
    refine SeqAt.notIn_tupleAt (fun _ => false) ⟨_, h1, h2, _, h3⟩ (fun z hz => ?_) ?_
    · obtain ⟨b, t, rfl⟩ := allS_mem hs h4 z (by simpa using hz)
      exact SeqAt.EqAt.str_dct b t ho (by show X.A.units + 1 < cLine; omega)
    · have e : ∀ vs : Array Value, vs.any (fun _ => false) = false := fun vs => by
        rw [← Array.any_toList]
        induction vs.toList with
        | nil => rfl
        | cons a l ih => simpa using ih
      rw [e]
      exact ⟨.bl true, H, I, rfl, q⟩
theorem wo_eqLen {a b : Addr} {xs ys : List V} (hu : X.A.units < cLine) (ha : SqL X.K H a xs) (hb : SqL X.K H b ys) (hn : xs.length ≠ ys.length) (q : Q (.bl false) H) : WO X (compareOp .Eq) (.ref a) (.ref b) H Q := by
  intro pins s σ v u I rx ry
  cases rx
  cases ry
  obtain ⟨l1, r1, ⟨o1, n1, ho1, hc1, _, hd1⟩, _⟩ := I.list ha
  obtain ⟨l2, r2, ⟨o2, n2, ho2, hc2, _, hd2⟩, _⟩ := I.list hb
  have h1 := r1.length
  have h2 := r2.length
  refine SeqAt.eq_list_lengthsAt ⟨o1, ho1, hc1, n1, hd1⟩ ⟨o2, ho2, hc2, n2, hd2⟩ ?_ hu ⟨.bl _, H, I, rfl, q⟩
  rw [List.size_toArray, List.size_toArray, bne_iff_ne]
  omega
theorem wo_neLen {a b : Addr} {xs ys : List V} (hu : X.A.units < cLine) (ha : SqL X.K H a xs) (hb : SqL X.K H b ys) (hn : xs.length ≠ ys.length) (q : Q (.bl true) H) : WO X (compareOp .NotEq) (.ref a) (.ref b) H Q := by
  intro pins s σ v u I rx ry
  cases rx
  cases ry
  obtain ⟨l1, r1, ⟨o1, n1, ho1, hc1, _, hd1⟩, _⟩ := I.list ha
  obtain ⟨l2, r2, ⟨o2, n2, ho2, hc2, _, hd2⟩, _⟩ := I.list hb
  have h1 := r1.length
  have h2 := r2.length
  refine SeqAt.RcNeAt.lists_lengths ⟨o1, ho1, hc1, n1, hd1⟩ ⟨o2, ho2, hc2, n2, hd2⟩ ?_ hu _ _ _ _ ⟨.bl _, H, I, rfl, q⟩
  rw [List.size_toArray, List.size_toArray, bne_iff_ne]
  omega
theorem RT.tup {ds : List D} (h : RT K g H x (.tuple ds)) : ∃ a xs, x = .ref a ∧ SqT K H a xs ∧ xs.length = ds.length := by
  rcases h with h | ⟨a, rfl, h⟩
  · cases h with
    | tuple hs w => exact ⟨_, _, rfl, hs, w.length⟩
  · exact h.elim
theorem wo_eqNil {z : D} {zs : List D} (hu : X.A.units < cLine) (hx : RT X.K g H x (.tuple (z :: zs))) (hy : RT X.K g H y (.tuple [])) (q : Q (.bl false) H) : WO X (compareOp .Eq) x y H Q := by
  obtain ⟨a, xs, rfl, s1, l1⟩ := hx.tup
  obtain ⟨b, ys, rfl, s2, l2⟩ := hy.tup
  intro pins s σ v u I rx ry
  cases rx
  cases ry
  obtain ⟨i1, r1, t1, _⟩ := I.tuple s1
  obtain ⟨i2, r2, t2, _⟩ := I.tuple s2
  have h1 := r1.length
  have h2 := r2.length
  have z1 : i1.toArray.size = zs.length + 1 := by rw [List.size_toArray, ← h1, l1]; rfl
  have z2 : i2.toArray.size = 0 := by rw [List.size_toArray, ← h2, l2]; rfl
  refine SeqAt.eq_tupleAt (e := fun _ => true) t1 t2 hu (fun j j1 j2 => by omega) ?_
  rw [z1, z2, show ((zs.length + 1 == 0) = false) from rfl, Bool.and_false]
  exact ⟨.bl _, H, I, rfl, q⟩
theorem wo_neNil {z : D} {zs : List D} (hu : X.A.units < cLine) (hx : RT X.K g H x (.tuple (z :: zs))) (hy : RT X.K g H y (.tuple [])) (q : Q (.bl true) H) : WO X (compareOp .NotEq) x y H Q := by
  obtain ⟨a, xs, rfl, s1, l1⟩ := hx.tup
  obtain ⟨b, ys, rfl, s2, l2⟩ := hy.tup
  intro pins s σ v u I rx ry
  cases rx
  cases ry
  obtain ⟨i1, r1, t1, _⟩ := I.tuple s1
  obtain ⟨i2, r2, t2, _⟩ := I.tuple s2
  have h1 := r1.length
  have h2 := r2.length
  have z1 : i1.toArray.size = zs.length + 1 := by rw [List.size_toArray, ← h1, l1]; rfl
  have z2 : i2.toArray.size = 0 := by rw [List.size_toArray, ← h2, l2]; rfl
  refine SeqAt.RcNeAt.tuples (e := fun _ => true) t1 t2 hu (fun j j1 j2 => by omega) _ _ _ _ ?_
  rw [z1, z2, show ((zs.length + 1 == 0) = false) from rfl, Bool.and_false]
  exact ⟨.bl _, H, I, rfl, q⟩
theorem cmp_ok {o : Cp} {b : Bool} (hx : RT K g H x d) (hy : RT K g H y e) (eK : X.K = K) (hu : X.A.units + 65 < cLine) (ok : Ok K g H st) (h : cmpD o d e = some b) (q : Q (.bl b) H) : WO X (compareOp (cpS o)) x y H Q := by
  subst eK
  cases o
  case eq =>
    rcases eqD_cases h with ⟨u, v, rfl, rfl, rfl⟩ | ⟨h1, h2, rfl⟩ | ⟨xs, ys, rfl, rfl, hn, rfl⟩ | ⟨z, zs, rfl, rfl, rfl⟩
    · have e1 := hx.str
      have e2 := hy.str
      subst e1 e2
      refine WO.of op_eq ⟨rfl, ?_⟩
      have e : decide ((V.str u) = V.str v) = decide (u = v) := by simp
      rw [e]
      exact q
    · exact WO.of (op_eqD (by omega)) ⟨d, e, hx.dp (canLay_of h1), hy.dp (canLay_of h2), h1, h2, q⟩
    · obtain ⟨a, vs, rfl, s1, r1⟩ := hx.list
      obtain ⟨b, us, rfl, s2, r2⟩ := hy.list
      exact wo_eqLen (by omega) s1 s2 (by rw [r1.length, r2.length]; exact hn) q
    · exact wo_eqNil (by omega) hx hy q
  case ne =>
    cases h0 : eqD d e with
    | none =>
      simp only [cmpD, h0] at h
      cases h
    | some k =>
      simp only [cmpD, h0] at h
      have h : (!k) = b := Option.some.inj h
      subst h
      rcases eqD_cases h0 with ⟨u, v, rfl, rfl, rfl⟩ | ⟨h1, h2, rfl⟩ | ⟨xs, ys, rfl, rfl, hn, rfl⟩ | ⟨z, zs, rfl, rfl, rfl⟩
      · have e1 := hx.str
        have e2 := hy.str
        subst e1 e2
        refine WO.of op_ne ⟨rfl, ?_⟩
        have e : decide ((V.str u) = V.str v) = decide (u = v) := by simp
        first
          | (rw [e]; exact q)
          | (simpa [e] using q)
      · exact WO.of (op_neD (by omega)) ⟨d, e, hx.dp (canLay_of h1), hy.dp (canLay_of h2), h1, h2, q⟩
      · obtain ⟨a, vs, rfl, s1, r1⟩ := hx.list
        obtain ⟨b, us, rfl, s2, r2⟩ := hy.list
        exact wo_neLen (by omega) s1 s2 (by rw [r1.length, r2.length]; exact hn) q
      · exact wo_neNil (by omega) hx hy q
  case lt =>
    cases d <;> cases e <;> simp only [cmpD] at h <;> cases h
    have e1 := hx.int
    have e2 := hy.int
    subst e1 e2
    exact WO.of op_lt ⟨_, _, rfl, rfl, q⟩
  case le =>
    cases d <;> cases e <;> simp only [cmpD] at h <;> cases h
    have e1 := hx.int
    have e2 := hy.int
    subst e1 e2
    exact WO.of op_le ⟨_, _, rfl, rfl, q⟩
  case gt =>
    cases d <;> cases e <;> simp only [cmpD] at h <;> cases h
    have e1 := hx.int
    have e2 := hy.int
    subst e1 e2
    exact WO.of op_gt ⟨_, _, rfl, rfl, q⟩
  case ge =>
    cases d <;> cases e <;> simp only [cmpD] at h <;> cases h
    have e1 := hx.int
    have e2 := hy.int
    subst e1 e2
    exact WO.of op_ge ⟨_, _, rfl, rfl, q⟩
  case isIn =>
    cases e <;> simp only [cmpD] at h <;> try cases h
    · rename_i ys
      cases hz : shp d && shp (.list ys) <;> rw [hz] at h <;> cases h
      have hz := Bool.and_eq_true_iff.mp hz
      exact WO.of (op_inD hu) ⟨d, _, hx.dp (canLay_of hz.1), hy.dp (canLay_of hz.2), hz.1, hz.2, q⟩
    · rename_i ys
      cases hz : shp d && shp (.tuple ys) <;> rw [hz] at h <;> cases h
      have hz := Bool.and_eq_true_iff.mp hz
      intro pins s σ v u I rx ry
      obtain ⟨as, ra⟩ := Dp.reads I d x v (hx.dp (canLay_of hz.1)) rx
      obtain ⟨bs, rb⟩ := Dp.reads I _ y u (hy.dp (canLay_of hz.2)) ry
      exact SeqAt.in_tuple_reads rb ra (canLay_of hz.2) (canLay_of hz.1) (room_in_shaped hz.1 hu) ⟨.bl _, H, I, rfl, q⟩
  case notIn =>
    cases e <;> simp only [cmpD] at h <;> try cases h
    · rename_i ys
      cases hz : shp d && shp (.list ys) <;> rw [hz] at h <;> cases h
      have hz := Bool.and_eq_true_iff.mp hz
      exact WO.of (op_notInD hu) ⟨d, _, hx.dp (canLay_of hz.1), hy.dp (canLay_of hz.2), hz.1, hz.2, q⟩
    · rename_i ys
      cases hz : shp d && shp (.tuple ys)
      · rw [hz] at h
        cases hs : isD0 d && allS ys <;> rw [hs] at h <;> cases h
        have hs := Bool.and_eq_true_iff.mp hs
        exact wo_ninD hu hx hy hs.1 hs.2 q
      rw [hz] at h
      cases h
      have hz := Bool.and_eq_true_iff.mp hz
      intro pins s σ v u I rx ry
      obtain ⟨as, ra⟩ := Dp.reads I d x v (hx.dp (canLay_of hz.1)) rx
      obtain ⟨bs, rb⟩ := Dp.reads I _ y u (hy.dp (canLay_of hz.2)) ry
      exact SeqAt.notIn_tuple_reads rb ra (canLay_of hz.2) (canLay_of hz.1) (room_in_shaped hz.1 hu) ⟨.bl _, H, I, rfl, q⟩
  case is =>
    cases e with
    | none =>
      simp only [cmpD] at h
      cases h
      have e2 := hy.none
      subst e2
      refine WO.of op_isN ⟨rfl, ?_⟩
      rw [show decide (x = V.non) = isNone d by
        rcases hx with hx | ⟨a, rfl, hx⟩
        · cases hx <;> simp [isNone]
        · cases d <;> simp [isNone]
          exact hx.elim]
      exact q
    | bool c =>
      cases d <;> simp only [cmpD] at h <;> cases h
      have e1 := hx.bool
      have e2 := hy.bool
      subst e1 e2
      exact WO.of op_is_bl ⟨_, _, rfl, rfl, q⟩
    | _ => cases d <;> simp [cmpD] at h
  case isNot =>
    cases e with
    | none =>
      simp only [cmpD] at h
      cases h
      have e2 := hy.none
      subst e2
      refine WO.of op_notN ⟨rfl, ?_⟩
      rw [show decide (x = V.non) = isNone d by
        rcases hx with hx | ⟨a, rfl, hx⟩
        · cases hx <;> simp [isNone]
        · cases d <;> simp [isNone]
          exact hx.elim]
      exact q
    | bool c =>
      cases d <;> simp only [cmpD] at h <;> cases h
      have e1 := hx.bool
      have e2 := hy.bool
      subst e1 e2
      exact WO.of op_isnot_bl ⟨_, _, rfl, rfl, q⟩
    | _ => cases d <;> simp [cmpD] at h
/-! ### items, slices -/
theorem RDs.atI {Z : Addr → Prop} {vs : List V} {ds : List D} {k : Int} {d : D} (r : RDs K Z H vs ds) (h : ixD ds k = some d) : ∃ v, L2.atI vs k = some v ∧ RD K Z H v d := by
  unfold ixD L2.atI at h
  unfold L2.atI
  rw [r.length]
  cases hk : ixN ds.length k with
  | none =>
    rw [hk] at h
    cases h
  | some j =>
    rw [hk] at h
    exact r.get h
theorem RDs.cut {Z : Addr → Prop} {vs : List V} {ds : List D} (lo hi : Option Int) (r : RDs K Z H vs ds) : RDs K Z H (L2.cutV vs lo hi) (cutD ds lo hi) := by
  unfold L2.cutV cutD
  rw [r.length]
  exact (r.drop _).take _
/-- an item of a list or tuple -/
theorem ix_rd {ds : List D} {k : Int} {r : D} (hx : RT K g H x d) (hs : seqOf d = some ds) (h : ixD ds k = some r) (eK : X.K = K) (ok : Ok K g H st) (q : Fin K pk g H st (plain r) Q) : rIx X.K x (.int k) H Q := by
  subst eK
  obtain ⟨a, vs, rfl, s, w⟩ := hx.seq hs
  obtain ⟨v, e, rv⟩ := w.atI h
  rcases s with s | s
  · exact .inl ⟨a, vs, k, v, rfl, rfl, s, e, q.plain ok rv⟩
  · exact .inr (.inl ⟨a, vs, k, v, rfl, rfl, s, e, q.plain ok rv⟩)
def rSlD (K : PySem.W.Frag) : V → Option Int → Option Int → Hp → VK → Prop := fun x lo hi H Q => rSlL K x lo hi H Q ∨ rSlA K x lo hi H Q
theorem sl_data : SlR X (rSlD X.K) := sl_list.or sl_tupA
theorem cutD_whole {ds : List D} {lo hi : Option Int} (h : HT.sIx ds.length 0 lo = 0 ∧ HT.sIx ds.length ds.length hi = ds.length) : cutD ds lo hi = ds := by
  unfold cutD
  rw [h.1, h.2, List.drop_zero, Nat.sub_zero, List.take_length]
theorem slice_rd {lo hi : Option Int} {b : Bool} {r : D} (hx : RT K g H x d) (h : sliceD d lo hi = some (b, r)) (eK : X.K = K) (ok : Ok K g H st) (q : Fin K pk g H st ⟨b, .dat r⟩ Q) : rSlD X.K x lo hi H Q := by
  subst eK
  cases d <;> simp only [sliceD] at h <;> cases h
  · obtain ⟨a, vs, rfl, s, w⟩ := hx.list
    exact .inl ⟨a, vs, rfl, s, fun p n => q.lst ok (w.cut lo hi) n⟩
  · obtain ⟨a, vs, rfl, s, w, w1⟩ := hx.tuple
    refine .inr ⟨a, vs, rfl, s, fun z => ?_, fun _ p n => q.tup ok (w.cut lo hi) n⟩
    rw [w.length] at z
    exact q.plain ok (by rw [cutD_whole z]; exact w1)
/-! ### built-in functions -/
theorem args_gcd4 (a b c d : Value) : argsOk "math.gcd" ⟨[a, b, c, d], []⟩ := by
  unfold argsOk
  kernel_rfl
theorem run_gcd4 (a : Int) (t : Tok) (b : Int) (u : Tok) (c : Int) (v : Tok) (d : Int) (w : Tok) :
    Gives (Builtin.«math.gcd» ⟨[.int a t, .int b u, .int c v, .int d w], []⟩) (.int ((((Nat.gcd 0 a.natAbs).gcd b.natAbs).gcd c.natAbs).gcd d.natAbs : Nat)) :=
  .of_wp fun M A E s Q h => by
    obtain ⟨hp, g, d, tk, os⟩ := s
    wp_walk
    exact ⟨_, rfl, h⟩
def rGcd4 : List V → Hp → VK → Prop := fun vs H Q => ∃ a b c d : Int, vs = [.int a, .int b, .int c, .int d] ∧ Q (.int (Nat.gcd (Nat.gcd (Nat.gcd a.natAbs b.natAbs) c.natAbs) d.natAbs : Nat)) H
theorem cr_gcd4 {X : Cx} : CallR X (.builtin "math.gcd") rGcd4 := by
  intro pins s σ H vs us Q I r h
  obtain ⟨a, b, c, d, rfl, q⟩ := h
  cases r with
  | cons r1 r =>
    cases r with
    | cons r2 r =>
      cases r with
      | cons r3 r =>
        cases r with
        | cons r4 r =>
          cases r
          obtain ⟨t1, rfl⟩ := r1
          obtain ⟨t2, rfl⟩ := r2
          obtain ⟨t3, rfl⟩ := r3
          obtain ⟨t4, rfl⟩ := r4
          have g := run_gcd4 a t1 b t2 c t3 d t4
          rw [Nat.gcd_zero_left] at g
          exact PySem.call_function_meets PySem.W.MGF.kind_gcd PySem.W.MGF.plain_gcd PySem.W.MGF.entry_gcd (args_gcd4 _ _ _ _) g.meets ⟨.int _, H, I.tok _, ⟨_, rfl⟩, q⟩
def bltV : Blt → Value
  | .len => .builtin "len" | .abs => .builtin "abs" | .int => .type "int" | .tuple => .type "tuple" | .list => .type "list" | .sum => .builtin "sum" | .min => .builtin "min" | .max => .builtin "max"
  | .any => .builtin "any" | .all => .builtin "all" | .repr => .builtin "repr" | .gcd => .builtin "math.gcd" | .sorted => .builtin "sorted" | .str => .type "str"
inductive RTs (K : PySem.W.Frag) (g : G) (H : Hp) : List V → List D → Prop
  | nil : RTs K g H [] []
  | cons {v : V} {vs : List V} {d : D} {ds : List D} : RT K g H v d → RTs K g H vs ds → RTs K g H (v :: vs) (d :: ds)
theorem RTs.step {g1 : G} {H1 : Hp} (s : Step g H g1 H1) (o : Ok K g H st) : ∀ {vs : List V} {ds : List D}, RTs K g H vs ds → RTs K g1 H1 vs ds
  | _, _, .nil => .nil
  | _, _, .cons r t => .cons (r.step s o) (RTs.step s o t)
theorem RDs.bools {Z : Addr → Prop} : ∀ {vs : List V} {ds : List D} {bs : List Bool}, RDs K Z H vs ds → boolsOf ds = some bs → vs = bs.map V.bl
  | _, _, _, .nil, e => by
    cases e
    rfl
  | _, _, _, .cons r t, e => by
    rename_i d ds
    cases d <;> simp only [boolsOf] at e <;> try cases e
    rename_i b
    cases hb : boolsOf ds with
    | none =>
      rw [hb] at e
      cases e
    | some c =>
      rw [hb] at e
      cases e
      cases r
      rw [List.map_cons, ← RDs.bools t hb]
theorem RDs.ints {Z : Addr → Prop} : ∀ {vs : List V} {ds : List D} {is : List Int}, RDs K Z H vs ds → intsOf ds = some is → vs = is.map V.int
  | _, _, _, .nil, e => by
    cases e
    rfl
  | _, _, _, .cons r t, e => by
    rename_i d ds
    cases d <;> simp only [intsOf] at e <;> try cases e
    rename_i b
    cases hb : intsOf ds with
    | none =>
      rw [hb] at e
      cases e
    | some c =>
      rw [hb] at e
      cases e
      cases r
      rw [List.map_cons, ← RDs.ints t hb]
theorem RDs.ofInts {Z : Addr → Prop} : ∀ (is : List Int), RDs K Z H (is.map V.int) (is.map PyData.int)
  | [] => .nil
  | _ :: is => .cons (.int _) (RDs.ofInts is)
theorem minI_le : ∀ (r : List Int) (a : Int), minI a r ∈ a :: r ∧ ∀ y ∈ a :: r, minI a r ≤ y
  | [], a => ⟨List.mem_cons_self, fun y h => by
    have := List.mem_singleton.mp h
    subst this
    exact Int.le_refl _⟩
  | b :: r, a => by
    obtain ⟨h1, h2⟩ := minI_le r (if b < a then b else a)
    have e : minI a (b :: r) = minI (if b < a then b else a) r := rfl
    rw [e]
    refine ⟨?_, fun y hy => ?_⟩
    · rcases List.mem_cons.mp h1 with q | q
      · rw [q]
        split
        · exact List.mem_cons_of_mem _ List.mem_cons_self
        · exact List.mem_cons_self
      · exact List.mem_cons_of_mem _ (List.mem_cons_of_mem _ q)
    · have h3 := h2 _ List.mem_cons_self
      have h4 : (if b < a then b else a) ≤ a := by split <;> omega
      have h5 : (if b < a then b else a) ≤ b := by split <;> omega
      rcases List.mem_cons.mp hy with rfl | hy
      · omega
      · rcases List.mem_cons.mp hy with rfl | hy
        · omega
        · exact h2 y (List.mem_cons_of_mem _ hy)
theorem maxI_le : ∀ (r : List Int) (a : Int), maxI a r ∈ a :: r ∧ ∀ y ∈ a :: r, y ≤ maxI a r
  | [], a => ⟨List.mem_cons_self, fun y h => by
    have := List.mem_singleton.mp h
    subst this
    exact Int.le_refl _⟩
  | b :: r, a => by
    obtain ⟨h1, h2⟩ := maxI_le r (if a < b then b else a)
    have e : maxI a (b :: r) = maxI (if a < b then b else a) r := rfl
    rw [e]
    refine ⟨?_, fun y hy => ?_⟩
    · rcases List.mem_cons.mp h1 with q | q
      · rw [q]
        split
        · exact List.mem_cons_of_mem _ List.mem_cons_self
        · exact List.mem_cons_self
      · exact List.mem_cons_of_mem _ (List.mem_cons_of_mem _ q)
    · have h3 := h2 _ List.mem_cons_self
      have h4 : a ≤ (if a < b then b else a) := by split <;> omega
      have h5 : b ≤ (if a < b then b else a) := by split <;> omega
      rcases List.mem_cons.mp hy with rfl | hy
      · omega
      · rcases List.mem_cons.mp hy with rfl | hy
        · omega
        · exact h2 y (List.mem_cons_of_mem _ hy)
theorem nu2min (i j : Int) : nuMin2 (.int i) (.int j) = some (.int (if j < i then j else i)) := by
  show some (if decide (j < i) = true then V.int j else V.int i) = _
  by_cases h : j < i
  · rw [decide_eq_true h, if_pos rfl, if_pos h]
  · rw [decide_eq_false h, if_neg Bool.false_ne_true, if_neg h]
theorem nu2max (i j : Int) : nuMax2 (.int i) (.int j) = some (.int (if i < j then j else i)) := by
  show some (if decide (i < j) = true then V.int j else V.int i) = _
  by_cases h : i < j
  · rw [decide_eq_true h, if_pos rfl, if_pos h]
  · rw [decide_eq_false h, if_neg Bool.false_ne_true, if_neg h]
theorem nu3min (i j k : Int) : nuMin3 (.int i) (.int j) (.int k) = some (.int (if k < (if j < i then j else i) then k else (if j < i then j else i))) := by
  unfold nuMin3
  rw [nu2min]
  exact nu2min _ _
theorem nu3max (i j k : Int) : nuMax3 (.int i) (.int j) (.int k) = some (.int (if (if i < j then j else i) < k then k else (if i < j then j else i))) := by
  unfold nuMax3
  rw [nu2max]
  exact nu2max _ _
theorem sort_uniq {ns ms : List Int} (p : ms.Perm ns) (s : ms.Pairwise (· ≤ ·)) : ms = ns.mergeSort fun a b => decide (a ≤ b) := by
  have h := List.pairwise_mergeSort (le := fun a b : Int => decide (a ≤ b)) (fun a b c h1 h2 => by simp at *; omega) (fun a b => by simp; omega) ns
  refine List.Perm.eq_of_pairwise (le := fun a b => a ≤ b) (fun a b _ _ h1 h2 => Int.le_antisymm h1 h2) s (h.imp fun q => of_decide_eq_true q) (p.trans (List.mergeSort_perm ns _).symm)
mutual
theorem RD.reads {pins : List (Addr × Obj)} {s : Shared} {σ : L2.St} {Z : Addr → Prop} (I : Inv X pins σ H s) : ∀ {v : V} {d : D} {u : Value}, RD X.K Z H v d → d.hasDict = false → RelV v u → ∃ as, Reads s.heap u d as
  | _, _, _, .none, _, r => by
    cases r
    exact ⟨_, Reads.none⟩
  | _, _, _, .bool b, _, r => by
    cases r
    exact ⟨_, Reads.bool b⟩
  | _, _, _, .int i, _, r => by
    obtain ⟨t, rfl⟩ := r
    exact ⟨_, Reads.int i t⟩
  | _, _, _, .str i, _, r => by
    obtain ⟨t, rfl⟩ := r
    exact ⟨_, Reads.str i t⟩
  | _, _, _, .tuple hs w, hd, r => by
    cases r
    obtain ⟨its, rv, ⟨o, ho, hc, n, hda⟩, _⟩ := I.tuple hs
    obtain ⟨as, hr⟩ := RDs.reads I w hd rv
    exact ⟨_, Reads.tuple ho hc hda hr⟩
  | _, _, _, .list hs w, hd, r => by
    cases r
    obtain ⟨its, rv, ⟨o, n, ho, hc, _, hda⟩, _⟩ := I.list hs.seq
    obtain ⟨as, hr⟩ := RDs.reads I w hd rv
    exact ⟨_, Reads.list ho hc hda hr⟩
  | _, _, _, .dict _ _ _, hd, _ => by simp [PyData.hasDict] at hd
theorem RDs.reads {pins : List (Addr × Obj)} {s : Shared} {σ : L2.St} {Z : Addr → Prop} (I : Inv X pins σ H s) : ∀ {vs : List V} {ds : List D} {us : List Value}, RDs X.K Z H vs ds → PyData.hasDictAll ds = false → Vals vs us → ∃ as, ReadsAll s.heap us ds as
  | _, _, _, .nil, _, r => by
    cases r
    exact ⟨_, ReadsAll.nil⟩
  | _, _, _, .cons w t, hd, r => by
    simp only [PyData.hasDictAll, Bool.or_eq_false_iff] at hd
    cases r with
    | cons r1 r2 =>
      obtain ⟨as, h1⟩ := RD.reads I w hd.1 r1
      obtain ⟨bs, h2⟩ := RDs.reads I t hd.2 r2
      exact ⟨_, ReadsAll.cons h1 h2⟩
end
theorem RT.reads {pins : List (Addr × Obj)} {s : Shared} {σ : L2.St} {u : Value} (I : Inv X pins σ H s) (h : RT X.K g H x d) (hd : d.hasDict = false) (r : RelV x u) : ∃ as, Reads s.heap u d as := by
  rcases h with h | ⟨a, rfl, h⟩
  · exact h.reads I hd r
  · cases d <;> try exact h.elim
    · obtain ⟨vs, e, w, _⟩ := h
      cases r
      obtain ⟨its, rv, ⟨o, n, ho, hc, _, hda⟩, _⟩ := I.list (.inl (.inl e))
      obtain ⟨as, hr⟩ := RDs.reads I w hd rv
      exact ⟨_, Reads.list ho hc hda hr⟩
    · simp [PyData.hasDict] at hd
/-- an empty dict -/
theorem reads_dict0 {pins : List (Addr × Obj)} {s : Shared} {σ : L2.St} {a : Addr} (I : Inv X pins σ H s) (sd : Rd H a (.dK [])) : ∃ as, Reads s.heap (.ref a) (.dict []) as ∧ sysModules ∉ as := by
  have ob : ObjOk X.prog X.w H s.heap a (.dK []) := by
    rcases sd with sd | ⟨o, sd⟩
    · exact I.hok _ _ sd
    · exact (I.hok _ _ sd).2
  obtain ⟨_, hb, vs, kv, o, es, ep, ho, hx, hda, _, hp, _⟩ := ob
  cases kv
  have e : es.toList = [] := by
    have := hp
    cases q : es.toList with
    | nil => rfl
    | cons _ _ =>
      rw [q] at hp
      cases hp
  refine ⟨[a], Reads.dict (as := []) (bs := []) ho hx.1 hda ?_ ?_, fun m => ?_⟩
  · rw [e]
    exact .nil
  · rw [e]
    exact .nil
  · have := List.mem_singleton.mp m
    subst this
    simp at hb
/-- no list lies where the modules' table does -/
theorem list_sm {h : Heap} {a : Addr} {o : Obj} {vs : Array Value} {n : Nat} (hsm : ∃ m, h.Ns sysModules m) (ho : h.get? a = some o) (hd : o.data = .seq vs n) : a ≠ sysModules := fun e => by
  obtain ⟨m, o', es, ep, e1, e2, _⟩ := hsm
  rw [e, e1] at ho
  cases ho
  rw [e2] at hd
  cases hd
mutual
theorem RD.reads2 {pins : List (Addr × Obj)} {s : Shared} {σ : L2.St} {Z : Addr → Prop} (hsm : ∃ m, s.heap.Ns sysModules m) (I : Inv X pins σ H s) : ∀ {v : V} {d : D} {u : Value}, RD X.K Z H v d → dOk d = true → RelV v u → ∃ as, Reads s.heap u d as ∧ sysModules ∉ as
  | _, _, _, .none, _, r => by
    cases r
    exact ⟨_, Reads.none, List.not_mem_nil⟩
  | _, _, _, .bool b, _, r => by
    cases r
    exact ⟨_, Reads.bool b, List.not_mem_nil⟩
  | _, _, _, .int i, _, r => by
    obtain ⟨t, rfl⟩ := r
    exact ⟨_, Reads.int i t, List.not_mem_nil⟩
  | _, _, _, .str i, _, r => by
    obtain ⟨t, rfl⟩ := r
    exact ⟨_, Reads.str i t, List.not_mem_nil⟩
  | _, _, _, .tuple hs w, hd, r => by
    cases r
    obtain ⟨its, rv, ⟨o, ho, hc, n, hda⟩, _⟩ := I.tuple hs
    obtain ⟨as, hr, hn⟩ := RDs.reads2 hsm I w hd rv
    exact ⟨_, Reads.tuple ho hc hda hr, hn⟩
  | _, _, _, .list hs w, hd, r => by
    cases r
    obtain ⟨its, rv, ⟨o, n, ho, hc, _, hda⟩, _⟩ := I.list hs.seq
    obtain ⟨as, hr, hn⟩ := RDs.reads2 hsm I w hd rv
    exact ⟨_, Reads.list ho hc hda hr, fun m => (List.mem_cons.mp m).elim (fun e => list_sm hsm ho hda e.symm) hn⟩
  | _, _, _, .dict (a := a) z sd w, hd, r => by
    cases r
    cases w with
    | cons _ _ => simp [dOk] at hd
    | nil =>
      have ob : ObjOk X.prog X.w H s.heap a (.dK []) := by
        rcases sd with sd | ⟨o, sd⟩
        · exact I.hok _ _ sd
        · exact (I.hok _ _ sd).2
      obtain ⟨_, hb, vs, kv, o, es, ep, ho, hx, hda, _, hp, _⟩ := ob
      cases kv
      have e : es.toList = [] := by
        have := hp
        cases q : es.toList with
        | nil => rfl
        | cons _ _ =>
          rw [q] at hp
          cases hp
      refine ⟨[a], Reads.dict (as := []) (bs := []) ho hx.1 hda ?_ ?_, fun m => ?_⟩
      · rw [e]
        exact .nil
      · rw [e]
        exact .nil
      · have := List.mem_singleton.mp m
        subst this
        simp at hb
theorem RDs.reads2 {pins : List (Addr × Obj)} {s : Shared} {σ : L2.St} {Z : Addr → Prop} (hsm : ∃ m, s.heap.Ns sysModules m) (I : Inv X pins σ H s) : ∀ {v : List V} {d : List D} {u : List Value}, RDs X.K Z H v d → dOks d = true → Vals v u → ∃ as, ReadsAll s.heap u d as ∧ sysModules ∉ as
  | _, _, _, .nil, _, r => by
    cases r
    exact ⟨_, ReadsAll.nil, List.not_mem_nil⟩
  | _, _, _, .cons w t, hd, r => by
    obtain ⟨h1, h2⟩ := Bool.and_eq_true_iff.mp (show (dOk _ && dOks _) = true from hd)
    cases r with
    | cons r1 r2 =>
      obtain ⟨as, a1, a2⟩ := RD.reads2 hsm I w h1 r1
      obtain ⟨bs, b1, b2⟩ := RDs.reads2 hsm I t h2 r2
      exact ⟨_, ReadsAll.cons a1 b1, fun m => (List.mem_append.mp m).elim a2 b2⟩
end
theorem RT.reads2 {pins : List (Addr × Obj)} {s : Shared} {σ : L2.St} {u : Value} (hsm : ∃ m, s.heap.Ns sysModules m) (I : Inv X pins σ H s) (h : RT X.K g H x d) (hd : d.hasDict = false ∨ dOk d = true) (r : RelV x u) : ∃ as, Reads s.heap u d as ∧ (d.hasDict = true → sysModules ∉ as) := by
  rcases hd with hd | hd
  · obtain ⟨as, w⟩ := h.reads I hd r
    exact ⟨as, w, PyData.noDict_hsm hd⟩
  · rcases h with h | ⟨a, rfl, h⟩
    · obtain ⟨as, w, n⟩ := h.reads2 hsm I hd r
      exact ⟨as, w, fun _ => n⟩
    · cases d <;> try exact h.elim
      · obtain ⟨vs, e, w, _⟩ := h
        cases r
        obtain ⟨its, rv, ⟨o, n, ho, hc, _, hda⟩, _⟩ := I.list (.inl (.inl e))
        obtain ⟨as, hr, hn⟩ := RDs.reads2 hsm I w hd rv
        exact ⟨_, Reads.list ho hc hda hr, fun _ m => (List.mem_cons.mp m).elim (fun e => list_sm hsm ho hda e.symm) hn⟩
      · obtain ⟨kvs, e, w, _⟩ := h
        cases w with
        | cons _ _ => simp [dOk] at hd
        | nil =>
          cases r
          obtain ⟨as, h1, h2⟩ := reads_dict0 I (.inl e)
          exact ⟨as, h1, fun _ => h2⟩
theorem wc_repr (hb : ∃ m, X.base.Ns sysModules m) (hg : X.A.guards = some []) (hu : X.A.units + 150 < cLine) (hx : RT K g H x d) (eK : X.K = K) (h : showOk d = true) (q : Q (.str d.shown) H) : WC X (.builtin "repr") [x] H Q := by
  subst eK
  simp only [showOk, Bool.and_eq_true, Bool.or_eq_true, decide_eq_true_eq, Bool.not_eq_true'] at h
  obtain ⟨⟨⟨h1, hl⟩, h3⟩, h4⟩ := h
  have h2 : d.shown.length ≤ sizeLine := of_decide_eq_true hl
  intro pins s σ us I r
  have hsm : ∃ m, s.heap.Ns sysModules m := hb.imp fun m q => q.keeps I.bk
  obtain ⟨u, eu, ru⟩ := vals1 r
  subst eu
  cases d with
  | none =>
    have e := hx.none
    subst e
    cases ru
    exact PySem.P.repr_of_none ⟨.str _, H, I.tok _, ⟨_, rfl⟩, q⟩
  | bool b =>
    have e := hx.bool
    subst e
    cases ru
    exact PySem.P.repr_of_bool ⟨.str _, H, I.tok _, ⟨_, rfl⟩, q⟩
  | int i =>
    have e := hx.int
    subst e
    obtain ⟨t, rfl⟩ := ru
    simp only [PyData.showable, decide_eq_true_eq] at h3
    exact PySem.P.repr_of_int h3 ⟨.str _, H, I.tok _, ⟨_, rfl⟩, q⟩
  | str z =>
    have e := hx.str
    subst e
    obtain ⟨t, rfl⟩ := ru
    exact PySem.P.repr_of_str ⟨.str _, H, I.tok _, ⟨_, rfl⟩, by simpa only [PyData.shown] using q⟩ (by simpa only [PyData.shown] using h2)
  | list ds =>
    obtain ⟨as, w, hm⟩ := hx.reads2 hsm I h4 ru
    obtain ⟨a, vs, rfl, _⟩ := hx.list
    cases ru
    exact repr_of_reads' w h3 hm hg (by omega) (fun _ _ e => e) (fun h' u tk hk => ⟨.str _, H, I.kept hk, ⟨_, rfl⟩, q⟩) h2
  | tuple ds =>
    obtain ⟨as, w, hm⟩ := hx.reads2 hsm I h4 ru
    obtain ⟨a, vs, rfl, _⟩ := hx.tuple
    cases ru
    exact repr_of_reads' w h3 hm hg (by omega) (fun _ _ e => e) (fun h' u tk hk => ⟨.str _, H, I.kept hk, ⟨_, rfl⟩, q⟩) h2
  | dict ds =>
    obtain ⟨as, w, hm⟩ := hx.reads2 hsm I h4 ru
    rcases hx with hx | ⟨a, rfl, hx⟩
    · cases hx with
      | dict z s r =>
        cases ru
        exact repr_of_reads' w h3 hm hg (by omega) (fun _ _ e => e) (fun h' u tk hk => ⟨.str _, H, I.kept hk, ⟨_, rfl⟩, q⟩) h2
    · cases ru
      exact repr_of_reads' w h3 hm hg (by omega) (fun _ _ e => e) (fun h' u tk hk => ⟨.str _, H, I.kept hk, ⟨_, rfl⟩, q⟩) h2
theorem intsC : ∀ {d : D} {ds : List D} {is : List Int}, intsOf (d :: ds) = some is → ∃ i is', is = i :: is' ∧ d = .int i ∧ intsOf ds = some is'
  | .int i, ds, is, h => by
    have h : (intsOf ds).map (i :: ·) = some is := h
    cases hx : intsOf ds with
    | none =>
      rw [hx] at h
      cases h
    | some a =>
      rw [hx] at h
      cases h
      exact ⟨_, _, rfl, rfl, rfl⟩
  | .none, _, _, h => by cases h
  | .bool _, _, _, h => by cases h
  | .str _, _, _, h => by cases h
  | .list _, _, _, h => by cases h
  | .tuple _, _, _, h => by cases h
  | .dict _, _, _, h => by cases h
theorem blt_ok {f : Blt} {xs : List V} {ds : List D} {b : Bool} {r : D} (hb : ∃ m, X.base.Ns sysModules m) (hg : X.A.guards = some []) (hu : X.A.units + 150 < cLine) (hc : X.calm = true) (hx : RTs K g H xs ds) (eK : X.K = K) (ok : Ok K g H st) (h : bltF f ds = some (b, r)) (q : Fin K pk g H st ⟨b, .dat r⟩ Q) : WC X (bltV f) xs H Q := by
  subst eK
  cases hx with
  | nil => cases h
  | cons h1 t =>
    cases t with
    | nil =>
      rename_i v d
      cases f
      case len =>
        replace h : bLen d = some (b, r) := h
        cases d <;> simp only [bLen] at h <;> try cases h
        · have e := h1.str
          subst e
          cases hz : fits _ <;> rw [hz] at h <;> cases h
          exact WC.of call_len_str ⟨_, rfl, of_decide_eq_true hz, q.plain ok (.int _)⟩
        · obtain ⟨a, vs, rfl, s, w⟩ := h1.list
          exact WC.of call_len_seq ⟨a, vs, rfl, .inl s, by rw [w.length]; exact q.plain ok (.int _)⟩
        · obtain ⟨a, vs, rfl, s, w, _⟩ := h1.tuple
          exact WC.of call_len_seq ⟨a, vs, rfl, .inr s, by rw [w.length]; exact q.plain ok (.int _)⟩
      case abs =>
        replace h : bAbs d = some (b, r) := h
        cases d <;> simp only [bAbs] at h <;> try cases h
        have e := h1.int
        subst e
        rename_i i
        refine WC.of call_abs ⟨_, rfl, ?_⟩
        rw [show (if i < 0 then -i else i) = ((i.natAbs : Nat) : Int) by split <;> omega]
        exact q.plain ok (.int _)
      case int =>
        replace h : bInt d = some (b, r) := h
        cases d <;> simp only [bInt] at h <;> try cases h
        · have e := h1.bool
          subst e
          exact WC.of call_int1 (.inr ⟨_, rfl, q.plain ok (.int _)⟩)
        · have e := h1.int
          subst e
          exact WC.of call_int1 (.inl ⟨_, rfl, q.plain ok (.int _)⟩)
      case tuple =>
        replace h : bTup d = some (b, r) := h
        cases d <;> simp only [bTup] at h <;> try cases h
        · obtain ⟨a, vs, rfl, s, w⟩ := h1.list
          exact WC.of call_tuple_of ⟨a, vs, rfl, .inl ⟨s, fun l n => q.tup ok w n⟩⟩
        · obtain ⟨a, vs, rfl, s, w, w1⟩ := h1.tuple
          exact WC.of call_tuple_of ⟨a, vs, rfl, .inr ⟨s, q.plain ok w1⟩⟩
      case list =>
        replace h : bLst d = some (b, r) := h
        cases d <;> simp only [bLst] at h <;> try cases h
        · obtain ⟨a, vs, rfl, s, w⟩ := h1.list
          exact WC.of call_list_of ⟨a, vs, rfl, .inl s, fun l n => q.lst ok w n⟩
        · obtain ⟨a, vs, rfl, s, w, w1⟩ := h1.tuple
          exact WC.of call_list_of ⟨a, vs, rfl, .inr s, fun l n => q.lst ok w n⟩
      case str =>
        replace h : bStr d = some (b, r) := h
        cases d <;> simp only [bStr] at h <;> try cases h
        have e := h1.int
        subst e
        rename_i i
        cases hz : decide (i.natAbs.log2 < 1920) <;> rw [hz] at h <;> cases h
        exact WC.of call_str_int ⟨_, rfl, of_decide_eq_true hz, q.plain ok (.str _)⟩
      case repr =>
        replace h : (bif showOk d then some (false, PyData.str d.shown) else none) = some (b, r) := h
        cases hz : showOk d <;> rw [hz] at h <;> cases h
        exact wc_repr hb hg hu h1 rfl hz (q.plain ok (.str _))
      case any =>
        replace h : bAny d = some (b, r) := h
        cases d <;> simp only [bAny] at h <;> try cases h
        obtain ⟨a, vs, rfl, s, w⟩ := h1.list
        rename_i ds
        cases hb : boolsOf ds with
        | none =>
          rw [hb] at h
          cases h
        | some c =>
          rw [hb] at h
          cases h
          exact WC.of (cr_any hc) ⟨a, c, rfl, by rw [← w.bools hb]; exact s, q.plain ok (.bool _)⟩
      case all =>
        replace h : bAll d = some (b, r) := h
        cases d <;> simp only [bAll] at h <;> try cases h
        obtain ⟨a, vs, rfl, s, w⟩ := h1.list
        rename_i ds
        cases hb : boolsOf ds with
        | none =>
          rw [hb] at h
          cases h
        | some c =>
          rw [hb] at h
          cases h
          exact WC.of (cr_all hc) ⟨a, c, rfl, by rw [← w.bools hb]; exact s, q.plain ok (.bool _)⟩
      case min =>
        replace h : bMin d = some (b, r) := h
        cases d <;> simp only [bMin] at h <;> try cases h
        obtain ⟨a, vs, rfl, s, w⟩ := h1.list
        rename_i ds
        rcases hb : intsOf ds with _ | (_ | ⟨c, cs⟩) <;> rw [hb] at h <;> cases h
        obtain ⟨m1, m2⟩ := minI_le cs c
        refine WC.of (cr_min hc) ⟨a, c :: cs, rfl, by rw [← w.ints hb]; exact s, Nat.succ_pos _, fun m h1 h2 => ?_⟩
        have e : m = minI c cs := Int.le_antisymm (h2 _ m1) (m2 _ h1)
        rw [e]
        exact q.plain ok (.int _)
      case max =>
        replace h : bMax d = some (b, r) := h
        cases d <;> simp only [bMax] at h <;> try cases h
        obtain ⟨a, vs, rfl, s, w⟩ := h1.list
        rename_i ds
        rcases hb : intsOf ds with _ | (_ | ⟨c, cs⟩) <;> rw [hb] at h <;> cases h
        obtain ⟨m1, m2⟩ := maxI_le cs c
        refine WC.of (cr_max hc) ⟨a, c :: cs, rfl, by rw [← w.ints hb]; exact s, Nat.succ_pos _, fun m h1 h2 => ?_⟩
        have e : m = maxI c cs := Int.le_antisymm (m2 _ h1) (h2 _ m1)
        rw [e]
        exact q.plain ok (.int _)
      case sum =>
        replace h : bSum d = some (b, r) := h
        cases d <;> simp only [bSum] at h <;> try cases h
        obtain ⟨a, vs, rfl, s, w⟩ := h1.list
        rename_i ds
        rcases hb : intsOf ds with _ | cs <;> rw [hb] at h <;> cases h
        exact WC.of (cr_sum hc) ⟨a, cs, rfl, by rw [← w.ints hb]; exact s, q.plain ok (.int _)⟩
      case sorted =>
        replace h : bSrt d = some (b, r) := h
        cases d <;> simp only [bSrt] at h <;> try cases h
        obtain ⟨a, vs, rfl, s, w⟩ := h1.list
        rename_i ds
        rcases hb : intsOf ds with _ | cs <;> rw [hb] at h <;> cases h
        refine WC.of cr_sortedI ⟨a, cs, rfl, by rw [← w.ints hb]; exact s, fun ms p hp hs hn => ?_⟩
        rw [sort_uniq hp hs]
        exact q.lst ok (RDs.ofInts _) hn
      case gcd => cases h
    | cons h2 t =>
      rename_i v d w vs e es
      replace h : bltI f (intsOf (d :: e :: es)) = some (b, r) := h
      cases hi : intsOf (d :: e :: es) with
      | none =>
        rw [hi] at h
        cases h
      | some is =>
      rw [hi] at h
      obtain ⟨i, is1, rfl, r1, hi1⟩ := intsC hi
      obtain ⟨j, is2, rfl, r2, hi2⟩ := intsC hi1
      subst r1 r2
      have e1 := h1.int
      have e2 := h2.int
      subst e1 e2
      cases t with
      | nil =>
        cases hi2
        cases f
        case min => cases h; exact WC.of (call_min2 hc) ⟨_, _, rfl, q.plain ok (.int _)⟩
        case max => cases h; exact WC.of (call_max2 hc) ⟨_, _, rfl, q.plain ok (.int _)⟩
        case gcd => cases h; exact WC.of cr_gcd ⟨_, _, rfl, q.plain ok (.int _)⟩
        all_goals cases h
      | cons h3 t =>
        obtain ⟨k, is3, rfl, r3, hi3⟩ := intsC hi2
        subst r3
        have e3 := h3.int
        subst e3
        cases t with
        | nil =>
          cases hi3
          cases f
          case min => cases h; exact WC.of (call_min3Nu hc) ⟨_, _, _, _, rfl, nu3min _ _ _, q.plain ok (.int _)⟩
          case max => cases h; exact WC.of (call_max3Nu hc) ⟨_, _, _, _, rfl, nu3max _ _ _, q.plain ok (.int _)⟩
          all_goals cases h
        | cons h4 t =>
          obtain ⟨l, is4, rfl, r4, hi4⟩ := intsC hi3
          subst r4
          have e4 := h4.int
          subst e4
          cases t with
          | nil =>
            cases hi4
            cases f
            case gcd => cases h; exact WC.of cr_gcd4 ⟨_, _, _, _, rfl, q.plain ok (.int _)⟩
            all_goals cases h
          | cons h5 t =>
            obtain ⟨o, is5, rfl, r5, hi5⟩ := intsC hi4
            cases h
end
end MP
/-! What holds behind an expression: wishes, contexts, promises of defs. -/
namespace MP
open PySem PyProof.Rows L2 PySem.Spec
/-! ### the weakest readings -/
def WE (X : Cx) (e : Expr) : TE := fun σ H Q => ∀ (pins : List (Addr × Obj)) (s : Shared), Inv X pins σ H s → wpAny (model X.prog X.w) X.A (eval e X.env) (EP X pins σ Q) X.xe s
def WT (X : Cx) (e : Expr) : TT := fun σ H Q => ∀ (pins : List (Addr × Obj)) (s : Shared), Inv X pins σ H s → wpAny (model X.prog X.w) X.A (isTrue e X.env (eval e X.env)) (TP X pins σ Q) X.xe s
def WW (X : Cx) (e : Expr) : TT := fun σ H Q => ∀ (whole : Sem Value) (pins : List (Addr × Obj)) (s : Shared), Inv X pins σ H s → wpAny (model X.prog X.w) X.A (isTrue e X.env whole) (TP X pins σ Q) X.xe s
def WA (X : Cx) (es : List Expr) : TA := fun σ H Q => ∀ (pos : Pos) (pins : List (Addr × Obj)) (s : Shared), Inv X pins σ H s → wpAny (model X.prog X.w) X.A (spliced (backTo pos (starEach es X.env))) (AP X pins σ Q) X.xe s
def WP (X : Cx) (e : Option Expr) : TO := fun σ H Q => ∀ (pins : List (Addr × Obj)) (s : Shared), Inv X pins σ H s → wpAny (model X.prog X.w) X.A (evalPart e X.env) (fun u s' => ∃ o H', Inv X pins σ H' s' ∧ IsPart u o ∧ Q o H') X.xe s
def WI (X : Cx) (tg iter : Expr) : TI := fun σ H R => ∀ (pins : List (Addr × Obj)) (s : Shared), Inv X pins σ H s → wpAny (model X.prog X.w) X.A (eval iter X.env) (fun v s1 => wpAny (model X.prog X.w) X.A (pyIter v) (PIE X pins σ tg R) X.xe s1) X.xe s
def WS (X : Cx) (st : Stmt) : TS := fun D σ H => ∀ (pins : List (Addr × Obj)) (s : Shared), Inv X pins σ H s → wpAny (model X.prog X.w) X.A (exec st X.env) (SP X pins D) X.xe s
def WSs (X : Cx) (st : List Stmt) : TS := fun D σ H => ∀ (pins : List (Addr × Obj)) (s : Shared), Inv X pins σ H s → wpAny (model X.prog X.w) X.A (execs st X.env) (SP X pins D) X.xe s
section
variable {X : Cx} {e : Expr}
theorem pe_we : PE X e (WE X e) := ⟨fun pins s σ H Q I h => h pins s I⟩
theorem pt_wt : PT X e (WT X e) := ⟨fun pins s σ H Q I h => h pins s I⟩
theorem pw_ww : PW X e (WW X e) := ⟨fun w pins s σ H Q I h => h w pins s I⟩
theorem pa_wa {es : List Expr} : PA X es (WA X es) := ⟨fun pos pins s σ H Q I h => h pos pins s I⟩
theorem po_wp {o : Option Expr} : PO X o (WP X o) := ⟨fun pins s σ H Q I h => h pins s I⟩
theorem pi_wi {tg : Expr} : PI X tg e (WI X tg e) := ⟨fun pins s σ H Q I h => h pins s I⟩
theorem ps_ws {st : Stmt} : PS X st (WS X st) := ⟨fun pins s σ H D I h => h pins s I⟩
theorem pss_wss {st : List Stmt} : PSs X st (WSs X st) := ⟨fun pins s σ H D I h => h pins s I⟩
theorem WE.of {t : TE} {σ : L2.St} {H : Hp} {Q : VK} (h : PE X e t) (q : t σ H Q) : WE X e σ H Q := fun pins s I => h.run pins s σ H Q I q
theorem WT.of {t : TT} {σ : L2.St} {H : Hp} {Q : Bool → Hp → Prop} (h : PT X e t) (q : t σ H Q) : WT X e σ H Q := fun pins s I => h.run pins s σ H Q I q
theorem WW.of {t : TT} {σ : L2.St} {H : Hp} {Q : Bool → Hp → Prop} (h : PW X e t) (q : t σ H Q) : WW X e σ H Q := fun w pins s I => h.run w pins s σ H Q I q
theorem WA.of {es : List Expr} {t : TA} {σ : L2.St} {H : Hp} {Q : List V → Hp → Prop} (h : PA X es t) (q : t σ H Q) : WA X es σ H Q := fun pos pins s I => h.run pos pins s σ H Q I q
theorem WP.of {o : Option Expr} {t : TO} {σ : L2.St} {H : Hp} {Q : Option Int → Hp → Prop} (h : PO X o t) (q : t σ H Q) : WP X o σ H Q := fun pins s I => h.run pins s σ H Q I q
theorem WI.of {tg : Expr} {t : TI} {σ : L2.St} {H : Hp} {R : L2.It → Hp → Prop} (h : PI X tg e t) (q : t σ H R) : WI X tg e σ H R := fun pins s I => h.run pins s σ H R I q
theorem WS.of {st : Stmt} {t : TS} {σ : L2.St} {H : Hp} {D : Ends} (h : PS X st t) (q : t D σ H) : WS X st D σ H := fun pins s I => h.run pins s σ H D I q
theorem WSs.of {st : List Stmt} {t : TS} {σ : L2.St} {H : Hp} {D : Ends} (h : PSs X st t) (q : t D σ H) : WSs X st D σ H := fun pins s I => h.run pins s σ H D I q
theorem WE.mono {σ : L2.St} {H : Hp} {Q Q' : VK} (h : WE X e σ H Q) (q : ∀ v H', Q v H' → Q' v H') : WE X e σ H Q' := fun pins s I => thn (h pins s I) fun u s' ⟨v, H', J, r, w⟩ => ⟨v, H', J, r, q v H' w⟩
def wop (X : Cx) (f : Value → Value → Sem Value) : R2 := fun x y H Q => WO X f x y H Q
theorem op_wo {f : Value → Value → Sem Value} : OpR X f (wop X f) := fun pins s σ H x y v u Q I rx ry h => h pins s σ v u I rx ry
def wcr (X : Cx) (f : Value) : List V → Hp → VK → Prop := fun xs H Q => WC X f xs H Q
theorem cr_wc {f : Value} : CallR X f (wcr X f) := fun pins s σ H xs us Q I r h => h pins s σ us I r
end
/-! ### what must follow -/
/-- how an error lies: its class, its own dict -/
def ExcIs (K : PySem.W.Frag) (mg : Str → Option Value) (g : G) (H : Hp) (c : Str) (ds : List (Str × D)) (cls : Value) (d : Option Addr) : Prop :=
  mg c = some cls ∧ match ds with
    | [] => d = none
    | _ :: _ => ∃ dd fs, d = some dd ∧ H dd = some (.xd fs) ∧ fs.map (·.1) = ds.map (·.1) ∧ RDs K g.Z H (fs.map (·.2)) (ds.map (·.2))
def Post {α β : Type} (K : PySem.W.Frag) (mg : Str → Option Value) (W : Value → Option Addr → Hp → Prop) (Rl : Hp → G → Hp → β → α → Prop) (g : G) (H : Hp) (r : R α) (Q : β → Hp → Prop) : Prop := match r with
  | .ok x st => ∀ g' v H', Step g H g' H' → Ok K g' H' st → Rl H g' H' v x → Q v H'
  | .exc c ds st => ∀ g' cls d H', Step g H g' H' → Ok K g' H' st → ExcIs K mg g' H' c ds cls d → W cls d H'
  | .no => False
/-- a relation that looks at the beginning only for what is new -/
def Based {α β : Type} (Rl : Hp → G → Hp → β → α → Prop) : Prop := ∀ H0 H1 g H v x, (∀ a, H1 a = none → H0 a = none) → Rl H1 g H v x → Rl H0 g H v x
abbrev relE (K : PySem.W.Frag) (pk : Bool) : Hp → G → Hp → V → RV → Prop := fun H0 g H v x => ROut K pk g H H0 v x
abbrev relEq {α : Type} : Hp → G → Hp → α → α → Prop := fun _ _ _ v x => v = x
abbrev relV (K : PySem.W.Frag) : Hp → G → Hp → List V → List Val → Prop := fun _ g H v x => RVals K g H v x
abbrev relD (K : PySem.W.Frag) : Hp → G → Hp → List V → List D → Prop := fun _ g H v x => RDs K g.Z H v x
abbrev relT (K : PySem.W.Frag) : Hp → G → Hp → List V → List D → Prop := fun _ g H v x => RTs K g H v x
section
variable {K : PySem.W.Frag} {mg : Str → Option Value} {W : Value → Option Addr → Hp → Prop} {g g1 : G} {H H1 H2 : Hp} {st st1 : Store}
theorem based_e {pk : Bool} : Based (relE K pk) := fun H0 H1 g H v x h r => by
  obtain ⟨fr, y⟩ := x
  cases y with
  | loc n => cases fr <;> exact r
  | dat d =>
    cases fr with
    | false => exact r
    | true =>
      obtain ⟨a, e, n, q⟩ := r
      exact ⟨a, e, h a n, q⟩
theorem based_eq {α : Type} : Based (relEq (α := α)) := fun _ _ _ _ _ _ _ r => r
theorem based_v : Based (relV K) := fun _ _ _ _ _ _ _ r => r
theorem based_d : Based (relD K) := fun _ _ _ _ _ _ _ r => r
theorem based_t : Based (relT K) := fun _ _ _ _ _ _ _ r => r
variable {α β γ δ : Type} {Rl : Hp → G → Hp → β → α → Prop} {Rm : Hp → G → Hp → δ → γ → Prop}
theorem Post.later {r : R α} {Q : β → Hp → Prop} (b : Based Rl) (s : Step g H g1 H1) (h : Post K mg W Rl g H r Q) : Post K mg W Rl g1 H1 r Q := by
  cases r with
  | ok x st => exact fun g' v H' s' o q => h g' v H' (s.trans s') o (b _ _ _ _ _ _ s.gone q)
  | exc c ds st => exact fun g' cls d H' s' o q => h g' cls d H' (s.trans s') o q
  | no => exact h
/-- one after another -/
theorem Post.bind {r : R α} {f : α → Store → R γ} {Q : δ → Hp → Prop} {Q1 : β → Hp → Prop} (b : Based Rm) (h : Post K mg W Rm g H (r.bind f) Q)
    (k : ∀ x st g1 v H1, Step g H g1 H1 → Ok K g1 H1 st → Rl H g1 H1 v x → Post K mg W Rm g1 H1 (f x st) Q → Q1 v H1) : Post K mg W Rl g H r Q1 := by
  cases r with
  | ok x st => exact fun g' v H' s o q => k x st g' v H' s o q (h.later b s)
  | exc c ds st => exact h
  | no => exact h
theorem Post.dat {x : RV} {f : D → Store → R γ} {Q : δ → Hp → Prop} (h : Post K mg W Rm g H ((datOf x st).bind f) Q) : ∃ d, x.v = .dat d ∧ Post K mg W Rm g H (f d st) Q := by
  obtain ⟨fr, y⟩ := x
  cases y with
  | dat d => exact ⟨d, rfl, h⟩
  | loc n => exact h.elim
theorem Post.int {x : RV} {f : Int → Store → R γ} {Q : δ → Hp → Prop} (h : Post K mg W Rm g H ((intOf x st).bind f) Q) : ∃ d, x.v = .dat (.int d) ∧ Post K mg W Rm g H (f d st) Q := by
  obtain ⟨fr, y⟩ := x
  cases y with
  | dat d =>
    cases d <;> try exact h.elim
    exact ⟨_, rfl, h⟩
  | loc n => exact h.elim
theorem Post.bool {x : RV} {f : Bool → Store → R γ} {Q : δ → Hp → Prop} (h : Post K mg W Rm g H ((boolOf x st).bind f) Q) : ∃ d, x.v = .dat (.bool d) ∧ Post K mg W Rm g H (f d st) Q := by
  obtain ⟨fr, y⟩ := x
  cases y with
  | dat d =>
    cases d <;> try exact h.elim
    exact ⟨_, rfl, h⟩
  | loc n => exact h.elim
theorem Post.opt {x : Option α} {f : α → Store → R γ} {Q : δ → Hp → Prop} (h : Post K mg W Rm g H ((rOpt x st).bind f) Q) : ∃ d, x = some d ∧ Post K mg W Rm g H (f d st) Q := by
  cases x with
  | some d => exact ⟨d, rfl, h⟩
  | none => exact h.elim
theorem Post.opt' {x : Option α} {Q : β → Hp → Prop} (h : Post K mg W Rl g H (rOpt x st) Q) : ∃ d, x = some d ∧ Post K mg W Rl g H (.ok d st) Q := by
  cases x with
  | some d => exact ⟨d, rfl, h⟩
  | none => exact h.elim
theorem Post.bd {pk : Bool} {x : Option (Bool × D)} {Q : VK} (h : Post K mg W (relE K pk) g H (ofBD x st) Q) : ∃ b d, x = some (b, d) ∧ Fin K pk g H st ⟨b, .dat d⟩ Q := by
  cases x with
  | some d => exact ⟨d.1, d.2, rfl, h⟩
  | none => exact h.elim
theorem Post.bb {pk : Bool} {x : Option Bool} {Q : VK} (h : Post K mg W (relE K pk) g H (ofB x st) Q) : ∃ b, x = some b ∧ Fin K pk g H st (plain (.bool b)) Q := by
  cases x with
  | some d => exact ⟨d, rfl, h⟩
  | none => exact h.elim
theorem Post.cond {c : Bool} {x : R α} {Q : β → Hp → Prop} (h : Post K mg W Rl g H (bif c then x else .no) Q) : c = true ∧ Post K mg W Rl g H x Q := by
  cases c with
  | true => exact ⟨rfl, h⟩
  | false => exact h.elim
end
/-! ### contexts -/
structure CtxOk (X : Cx) (W : WX) (N : List Str) (sc : Scope) (lv : Nat) : Prop where
  eN : X.N = N
  nd : N.Nodup
  kind : sc.kind = .function
  calm : X.calm = true
  guards : X.A.guards = some []
  room : Room lv X.A
  takes : Takes X W
  passes : PassesOwn (model X.prog X.w) X.A X.env X.xe
  look : ∀ x k, sc.names.lookup x = some k → X.env.scope.names.lookup x = some k ∨ (k = .free ∧ X.env.scope.names.lookup x = some .cell)
  fn : ∀ x, sc.names.lookup x = some .cell → X.fn x = true
  sm : ∃ m, X.base.Ns sysModules m
def isVis (sc : Scope) (x : Str) : Bool := match sc.names.lookup x with
  | some .local => true
  | some .cell => true
  | some .free => true
  | _ => false
def isLoc (sc : Scope) (x : Str) : Bool := match sc.names.lookup x with
  | some .local => true
  | some .cell => true
  | _ => false
def isGl (sc : Scope) (x : Str) : Bool := match sc.names.lookup x with
  | some .globalImplicit => true
  | _ => false
def okName (x : Str) : Bool := !(x == ("__debug__" : Str)) && !(x == ("__classdict__" : Str)) && !(x == ("__name__" : Str))
section
variable {X : Cx} {W : WX} {N : List Str} {sc : Scope} {lv : Nat} {x : Str}
theorem CtxOk.vis (c : CtxOk X W N sc lv) (h : isVis sc x = true) : Vis X.env.scope x := by
  unfold isVis at h
  split at h
  · rename_i e
    rcases c.look x _ e with q | ⟨q, _⟩
    · exact .inl q
    · cases q
  · rename_i e
    rcases c.look x _ e with q | ⟨q, _⟩
    · exact .inr (.inl q)
    · cases q
  · rename_i e
    rcases c.look x _ e with q | ⟨_, q⟩
    · exact .inr (.inr q)
    · exact .inr (.inl q)
  · cases h
theorem CtxOk.loc (c : CtxOk X W N sc lv) (h : isLoc sc x = true) : Loc X.env.scope x ∧ (X.fn x = true ∨ X.env.scope.names.lookup x = some .local) := by
  unfold isLoc at h
  split at h
  · rename_i e
    rcases c.look x _ e with q | ⟨q, _⟩
    · exact ⟨.inl q, .inr q⟩
    · cases q
  · rename_i e
    rcases c.look x _ e with q | ⟨q, _⟩
    · exact ⟨.inr q, .inl (c.fn x e)⟩
    · cases q
  · cases h
theorem CtxOk.gl (c : CtxOk X W N sc lv) (h : isGl sc x = true) : Gl X x := by
  unfold isGl at h
  split at h
  · rename_i e
    rcases c.look x _ e with q | ⟨q, _⟩
    · exact q
    · cases q
  · cases h
theorem okName_debug (h : okName x = true) : (x == ("__debug__" : Str)) = false ∧ (x == ("__classdict__" : Str)) = false ∧ x ≠ "__name__" := by
  unfold okName at h
  simp only [Bool.and_eq_true, Bool.not_eq_true', beq_eq_false_iff_ne, ne_eq] at h
  exact ⟨beq_eq_false_iff_ne.mpr h.1.1, beq_eq_false_iff_ne.mpr h.1.2, h.2⟩
theorem lookup_relabel {env : PySem.Env} : ∀ {names : List (Str × NameKind)} {x : Str} {k : NameKind}, names.lookup x = some k →
    (names.map fun (n, k) => if (k == NameKind.free && env.scope.kind == .function && env.kindOf n == some .cell) then (n, NameKind.cell) else (n, k)).lookup x = some k ∨
    (k = .free ∧ (names.map fun (n, k) => if (k == NameKind.free && env.scope.kind == .function && env.kindOf n == some .cell) then (n, NameKind.cell) else (n, k)).lookup x = some .cell)
  | [], x, k, h => by simp at h
  | (n, j) :: r, x, k, h => by
    rw [List.map_cons]
    by_cases e : x = n
    · subst e
      rw [List.lookup_cons_self] at h
      cases h
      dsimp only
      split
      · rename_i c
        simp only [Bool.and_eq_true, beq_iff_eq] at c
        exact .inr ⟨c.1.1, List.lookup_cons_self⟩
      · exact .inl List.lookup_cons_self
    · have ne : (x == n) = false := beq_eq_false_iff_ne.mpr e
      rw [List.lookup_cons, ne] at h
      have ih := lookup_relabel (env := env) (names := r) (x := x) (k := k) h
      dsimp only
      split <;> (rw [List.lookup_cons, ne]; exact ih)
end
end MP
/-! A lambda is made: what is known stays known. -/
namespace MP
open PySem PySem.Spec PyProof.Rows L2 LamX
def WEl (X : Cx) (e : Expr) : TE := fun σ H Q => ∀ (pins : List (Addr × Obj)) (s : Shared), Inv X pins σ H s → wpAny (model X.prog X.w) X.A (eval e X.env) (EP X pins σ Q) X.xe s
section
variable {X : Cx} {pins : List (Addr × Obj)} {σ : L2.St} {H : Hp} {s : Shared}
/-- what the making of a lambda leaves -/
structure LamH (T : List (Addr × Str)) (H H1 : Hp) : Prop where
  ext : ExtN H H1
  gone : ∀ b, H1 b = none → H b = none
  tb : Tabs T H1
theorem lam_new {T : List (Addr × Str)} {c P : Addr} {params : Arguments} {body : Expr} {scope : Scope} {pos : Pos} {E Q : Value → Shared → Prop} (I : Inv X pins σ H s) (TB : TabB X.base X.mg c P) (hcode : X.env.code = .ref c)
    (hm : (P, X.env.qual ++ "<lambda>") ∈ T) (hu : ∀ p ∈ T, p.1 = P → p.2 = X.env.qual ++ "<lambda>") (hT : Tabs T H) (hdef : defaultsOf params X.env = ([], [])) (hfree : ∀ y ∈ scope.names, y.2 = .free → ∃ c, X.env.cells.lookup y.1 = some c)
    (h : ∀ (f c' : Addr) (pm ctv : Value) (H1 : Hp) (s' : Shared), Inv X pins σ H1 s' → LamH T H H1 →
      s'.heap.get? f = some (PySem.W.kla_obj "<lambda>" (X.env.qual ++ "<lambda>") params body scope (cloFrom X.env.cells scope.names []) pm c' ctv) → H1 f = none → f ∉ frs X.stack → H1 c' = some (CodeO c' (X.env.qual ++ "<lambda>")) → Q (.ref f) s') :
    wpAny (model X.prog X.w) X.A (eval (.Lambda params body scope pos) X.env) Q E s := by
  obtain ⟨ps, hP, ht, ha⟩ := hT _ hm
  have tabOk := I.hok P _ hP
  have code0 := TB.code.keeps I.bk
  have built0 : s.heap.BuiltinsAt X.mg P := TB.bm.keeps I.bk
  have offFrames : ∀ f, s.heap.objs.size ≤ f → f ∉ frs X.stack := by
    intro f hf z
    cases List.mem_cons.mp (I.stkSub _ z) with
    | inl e => exact Nat.lt_irrefl _ (Nat.lt_of_lt_of_le (by rw [e]; exact I.lt) hf)
    | inr e => exact I.nofs hf e
  refine PySem.W.kla_eval hdef ?_
  cases hc : codeAmong pos ps.toList with
  | some cv =>
    obtain ⟨c', rfl, hco⟩ := ha pos cv hc
    refine PySem.W.kla_makeFunctionHit (mg := X.mg) (c := c) (P := P) (ps := ps) (closure_ok hfree) I.ok.glob (I.mod.glob.keeps I.bk) hcode code0 tabOk ht hc built0 fun ctv h' tk hx hsz => ?_
    refine h h'.objs.size c' ((X.mg "__name__").getD .none) ctv H _ (I.kept (t' := tk) fun b o e => Heap.get?_push_of_some _ (hx b o e)) ⟨ExtN.refl H, fun _ z => z, hT⟩ (Heap.get?_push_size _ rfl) (I.hok.fresh hsz) (offFrames _ hsz) hco
  | none =>
    refine PySem.W.kla_makeFunction (mg := X.mg) (c := c) (P := P) (ps := ps) (closure_ok hfree) I.ok.glob (I.mod.glob.keeps I.bk) hcode code0 tabOk ht hc TB.gP built0 fun c' ctv h' tk hx hge hlt hrec htb => ?_
    obtain ⟨c2, oc, vs, t, e2, hoc, hd, hv⟩ := hrec
    cases e2
    have hsz : s.heap.objs.size ≤ h'.objs.size := Nat.le_trans hge (Nat.le_of_lt hlt)
    have nC : H c' = none := I.hok.fresh hge
    have up := fun (b : Addr) (o : Obj) (e : h'.get? b = some o) => Heap.get?_push_of_some (PySem.W.kla_obj "<lambda>" (X.env.qual ++ "<lambda>") params body scope (cloFrom X.env.cells scope.names []) ((X.mg "__name__").getD .none) c' ctv) e
    have J := inv_table (t' := tk) (more := #[rawInt pos.line, rawInt pos.col, .ref c']) (q := X.env.qual ++ "<lambda>") I hP (fun b o hb e => up b o (hx b o hb e)) (up _ _ htb) hge ⟨oc, vs, t, up _ _ hoc, hd, hv⟩
    generalize hH1 : upd (upd H P (.tbl (ps ++ #[rawInt pos.line, rawInt pos.col, .ref c']))) c' (CodeO c' (X.env.qual ++ "<lambda>")) = H1 at J
    have atC : H1 c' = some (CodeO c' (X.env.qual ++ "<lambda>")) := by rw [← hH1]; exact upd_same
    have atP : H1 P = some (.tbl (ps ++ #[rawInt pos.line, rawInt pos.col, .ref c'])) := by rw [← hH1, upd_ne (ne_of_none hP nC)]; exact upd_same
    have else_ : ∀ b, b ≠ c' → b ≠ P → H1 b = H b := fun b h1 h2 => by rw [← hH1, upd_ne h1, upd_ne h2]
    have ext : ExtN H H1 := fun b o e nt => by
      rw [else_ b (ne_of_none e nC) (fun z => nt ps (Option.some.inj (e.symm.trans (by rw [z]; exact hP))))]
      exact e
    have gone : ∀ b, H1 b = none → H b = none := fun b e => by
      by_cases h1 : b = c'
      · rw [h1, atC] at e; cases e
      · by_cases h2 : b = P
        · rw [h2, atP] at e; cases e
        · rw [← else_ b h1 h2]; exact e
    have tabs : Tabs T H1 := fun p hp => by
      by_cases hb : p.1 = P
      · refine ⟨_, by rw [hb]; exact atP, ?_, fun p' cv hcv => ?_⟩
        · rw [show (ps ++ #[rawInt pos.line, rawInt pos.col, Value.ref c']).toList = ps.toList ++ [rawInt pos.line, rawInt pos.col, Value.ref c'] by simp]
          exact PySem.TriplesOk_snoc _ _ _ _ ht
        · rw [hu p hp hb]
          rw [show (ps ++ #[rawInt pos.line, rawInt pos.col, Value.ref c']).toList = ps.toList ++ [rawInt pos.line, rawInt pos.col, Value.ref c'] by simp] at hcv
          rcases among_app _ ht hcv with z | z
          · obtain ⟨c0, e1, e2⟩ := ha p' cv z
            exact ⟨c0, e1, ext _ _ e2 codeO_ne⟩
          · exact ⟨c', z, atC⟩
      · obtain ⟨ps', a1, a2, a3⟩ := hT p hp
        refine ⟨ps', by rw [else_ _ (ne_of_none a1 nC) hb]; exact a1, a2, fun p' cv hcv => ?_⟩
        obtain ⟨c0, e1, e2⟩ := a3 p' cv hcv
        exact ⟨c0, e1, ext _ _ e2 codeO_ne⟩
    refine h h'.objs.size c' ((X.mg "__name__").getD .none) ctv H1 _ J ⟨ext, gone, tabs⟩ (Heap.get?_push_size _ rfl) ?_ (offFrames _ hsz) atC
    rw [else_ _ (Nat.ne_of_gt hlt) (Nat.ne_of_gt (Nat.lt_of_lt_of_le (Heap.lt_size tabOk) hsz))]
    exact I.hok.fresh hsz
/-- the callable is called: what its body wishes -/
theorem lam_act {CXg : CXT} {Eg : XK} {Ng : List Str} {qg : Str} {sg : Scope} {HZ : Hp} {g f c' : Addr} {cdg pm ctv : Value} {params : Arguments} {body : Expr} {scope : Scope} {k i : Nat} {a : Str} {pn : List (Addr × Obj)} {xe : Value → Shared → Prop} {W : WX} {E : XK} {tb : TE} {p1 p2 : Pos}
    (I : Inv X pins σ H s) (L : LamS X.env.scope scope) (hf : s.heap.get? f = some (PySem.W.kla_obj "<lambda>" (X.env.qual ++ "<lambda>") params body scope (cloFrom X.env.cells scope.names []) pm c' ctv)) (hfn : H f = none) (hfr : f ∉ frs X.stack)
    (hbind : bindArgs (PySem.W.kla_fn "<lambda>" (X.env.qual ++ "<lambda>") params body scope (cloFrom X.env.cells scope.names []) pm (.ref c') ctv) ⟨[], []⟩ = pure [])
    (tk : Takes ((cxOf CXg X.prog X.w X.K X.mg X.base Ng qg sg g cdg X.A X.stack s H Eg).tr pn xe) W) (hW : ∀ cls d σ' H', E cls d H' → W cls d σ' H') (hr : Room (k + 1) (X.A.deeper (envOfC qg sg s.heap.objs.size g cdg)))
    (hbody : ∀ (A : Around) (outer : List PySem.Env) (s : Shared) (H : Hp), A.guards = X.A.guards → Room k (A.deeper (lamEnv X scope s.heap.objs.size f c')) → PE (lamCx X A outer s H E scope f c') body tb)
    (hN : Ng[i]? = some a) (hv : Vis sg a) (hd : (a == ("__debug__" : Str)) = false) (hcd : (a == ("__classdict__" : Str)) = false) :
    PE ((cxOf CXg X.prog X.w X.K X.mg X.base Ng qg sg g cdg X.A X.stack s H Eg).tr pn xe) (.Call (.Name a p1) [] [] p2)
      (fun σZ HZ Q => σZ[i]? = some (some (.ref f)) ∧ HZ c' = some (CodeO c' (X.env.qual ++ "<lambda>")) ∧ tb σ HZ Q) := by
  refine ⟨fun pinsZ sZ σZ HZ Q IZ ⟨hs, hc, ht⟩ => ?_⟩
  refine wpAny_Call_Name_kw (thn ((pe_var (pos := p1) (i := i) hN hv hd hcd).run pinsZ sZ σZ HZ (fun v H1 => v = .ref f ∧ H1 = HZ) IZ ⟨.ref f, hs, rfl, rfl⟩) fun u s1 ⟨v, H1, I1, r1, ev, eH⟩ => ?_)
  subst ev
  subst eH
  obtain rfl : u = Value.ref f := r1
  have fAt := I1.base.keep f _ hf hfn hfr (fun z => nomatch (show f ∈ ([] : List Addr) from z))
  refine PySem.W.callWith_F0 ⟨_, _, _, _, fAt⟩ ?_
  have hx : Passes (L2.CX X.prog X.w) ((cxOf CXg X.prog X.w X.K X.mg X.base Ng qg sg g cdg X.A X.stack s H Eg).tr pn xe) E := passes_call tk hW
  obtain ⟨⟨oc, vs, t, hoc, hdc, hvc⟩, _, _⟩ := I1.hok c' _ hc
  have run : codeAny (model X.prog X.w) (X.A.deeper (envOfC qg sg s.heap.objs.size g cdg)) (.call (.ref f) ⟨[], []⟩) (CR (L2.CX X.prog X.w) (envOfC qg sg s.heap.objs.size g cdg :: X.stack) X.prog X.w H1 s1 Q E) s1 := by
    refine PySem.W.kla_callFunE hr.depth fAt rfl L.co L.gen rfl ⟨c', oc, vs, t, rfl, hoc, hdc, hvc⟩ ?_
    rw [hbind]
    refine wpAny_pure (wpAny_newFunctionEnv (fun y hy => (L.own y hy).2) (fun y hy => absurd hy (by simp)) (fun h1 hns hsb => ⟨I1.nolimit.fresh _ hsb, ?_⟩) L.kind)
    have kp : ∀ b o, s1.heap.get? b = some o → h1.get? b = some o := fun b o e => hsb.extBut b o (Nat.ne_of_lt (Heap.lt_size e)) (Heap.get?_push_of_some _ e)
    have J : Inv (lamCx X (X.A.deeper (envOfC qg sg s.heap.objs.size g cdg)) (envOfC qg sg s.heap.objs.size g cdg :: X.stack) s1 H1 E scope f c') [] σ H1 { s1 with heap := h1, toks := s1.toks + ([] : List (Str × Value)).length } :=
      lam_start2 I L I1.env0 hr.hd I1.base hns kp
    refine PySem.W.kla_codeExpr (wpAny_mono ((hbody (X.A.deeper (envOfC qg sg s.heap.objs.size g cdg)) _ s1 H1 rfl (hr.deeper _)).run [] _ _ H1 Q J ht) (fun v s' hq => ?_) fun e s' hq => hq)
    obtain ⟨w', H', J', rv, q⟩ := hq
    exact ⟨w', H', J'.os, J'.bare, J'.base, J'.hok, rv, q⟩
  refine wpAny_call (codeAny_mono run fun r s' hq => ?_)
  cases r with
  | error e => exact hx pinsZ σZ H1 s1 e s' I1 hq
  | ok fl =>
    cases fl with
    | ret u => exact I1.after hq
    | next => exact False.elim hq
    | brk => exact False.elim hq
    | cont => exact False.elim hq
/-- x(lambda: body) -/
theorem we_lamc0 {T : List (Addr × Str)} {TT : (XK → Hp → VK → Prop) → Hp → VK → Prop} {x a : Str} {g c P : Addr} {k : Nat} {pg : Arguments} {bg : List Stmt} {sg : Scope} {dV kV doc pm cdv ct oc : Value} {an od : Option Addr} {osl : Array (Option Value)} {Ng : List Str}
    {params : Arguments} {body : Expr} {scope : Scope} {t : XK → TE} {p lpos pos : Pos} {Q : VK} (hg : Gl X x) (hm : X.mg x = some (.ref g)) (hk : PySem.W.keepIn X.K (.ref g) = true)
    (lk : X.K.lookup g = some ⟨oc, od, .func (PySem.W.fnOf x x pg bg sg dV kV doc pm an cdv ct), osl⟩) (hcg : PySem.W.codeIn X.K cdv x = true) (hb : L2.Binds X.K (PySem.W.fnOf x x pg bg sg dV kV doc pm an cdv ct) [a] []) (Sg : FnScope Ng [a] sg) (hNg : Ng[0]? = some a) (hva : Vis sg a)
    (hG : GivesTo X Ng x sg g cdv bg a (X.env.qual ++ "<lambda>") TT)
    (TB : TabB X.base X.mg c P) (hcode : X.env.code = .ref c) (hmT : (P, X.env.qual ++ "<lambda>") ∈ T) (hu : ∀ p ∈ T, p.1 = P → p.2 = X.env.qual ++ "<lambda>") (hr : Room (k + 2) X.A) (L : LamS X.env.scope scope) (hdef : defaultsOf params X.env = ([], []))
    (hbind : ∀ (q : Str) (cl : List (Str × Addr)) (pm cv ctv : Value), bindArgs (PySem.W.kla_fn "<lambda>" q params body scope cl pm cv ctv) ⟨[], []⟩ = pure [])
    (hbody : ∀ (A : Around) (outer : List PySem.Env) (s : Shared) (H : Hp) (E : XK) (f c' : Addr), A.guards = X.A.guards → Room k (A.deeper (lamEnv X scope s.heap.objs.size f c')) → PE (lamCx X A outer s H E scope f c') body (t E))
    (hdb : (x == ("__debug__" : Str)) = false) (hd : (a == ("__debug__" : Str)) = false) (hcd : (a == ("__classdict__" : Str)) = false)
    (hT : Tabs T H) (h : ∀ H1, LamH T H H1 → TT (fun E H' Q' => t E σ H' Q') H1 Q) : WEl X (.Call (.Name x p) [.Lambda params body scope lpos] [] pos) σ H Q := by
  intro pins s I
  refine wpAny_Call_Name_kw (ld_glob I hg hm ?_ hdb)
  refine PySem.W.callWith_K (h₀ := X.base) I.ok.mod.kin hk ?_ (by rfl) (by rfl)
  show wpAny _ _ (spliced ((false, eval (.Lambda params body scope lpos) X.env) :: backTo pos (starEach [] X.env))) _ _ s
  refine Calls.spliced_cons (lam_new I TB hcode hmT hu hT hdef (L.has I.ok) fun f c' pm' ctv H1 s' I1 lh hf hfn hfr hco => ?_)
  refine Calls.spliced_nil ⟨I1.kIn, ?_⟩
  have run : codeAny (model X.prog X.w) X.A (.call (.ref g) ⟨[.ref f], []⟩) (CR C8.CX0 X.stack X.prog X.w H1 s' Q C8.E0) s' := by
    refine run_ofS (N := Ng) (ps := [a]) (us := [.ref f]) (vs := [.ref f]) lk hcg Sg hr I1.env0 (hb s' [.ref f] I1.kIn rfl) (.cons rfl .nil) rfl fun hr' => ?_
    obtain ⟨t', ht', hq'⟩ := hG f c' s' H1 Q (fun E H' Q' => t E σ H' Q') (fun W pn xe E p1 p2 tk hW => lam_act (HZ := H1) (i := 0) I1 L hf hfn hfr (hbind _ _ _ _ _) tk hW hr' (fun A outer s H hg2 hr2 => hbody A outer s H E f c' hg2 hr2) hNg hva hd hcd) hco (h H1 lh)
    exact ⟨t', ht'.nox, hq'⟩
  refine wpAny_call (codeAny_mono run fun r s2 hq => ?_)
  cases r with
  | error e => exact (show False from hq).elim
  | ok fl =>
    cases fl with
    | ret u => exact I1.after hq
    | next => exact False.elim hq
    | brk => exact False.elim hq
    | cont => exact False.elim hq
end
end MP
/-! Errors of the program's own, made: a class whose own __init__ only says super().__init__ of a text. -/
namespace MP
open PySem PySem.W PySem.Calls PyProof.Rows
/-- the text of __init__ -/
def init0B : List Stmt → Bool
  | [.Expr (.Call (.Attribute (.Call (.Name x _) [] [] _) n p2) [.Constant (.str _) _ _] [] p4) _] => x == "super" && n == "__init__" && p2.endLine == p4.line
  | _ => false
def init0A (a : Arguments) : Bool := (match a.args with | [b] => b.arg == "self" | _ => false) && a.posonlyargs.isEmpty && a.vararg.isNone && a.kwonlyargs.isEmpty && a.kwarg.isNone && a.defaults.isEmpty
def init0S (sc : Scope) : Bool := sc.names.lookup ("self" : Str) == some .local && sc.names.lookup ("super" : Str) == some .globalImplicit && sc.names.lookup ("__class__" : Str) == some .free && sc.kind == .function && !sc.isGenerator && !sc.isCoroutine && sc.names.all fun x => x.2 != .cell
abbrev veL : List Value := [.type "ValueError", .type "Exception", .type "BaseException", .type "object"]
structure ExB (prog : Program) (K : Frag) (C : Addr) : Prop where
  cls : ∃ nm q N bs bm sn sub ab col dd k0 k1 k2 k3 k5, K.lookup C = some (excClassObj nm q C N bs bm true sn sub ab col dd k0 k1 k2 k3 k5 "ValueError.__new__") ∧ HandSPX.refsVE bm = true
  exC : subIn K (.ref C) (.type "BaseException") = some true
  veC : subIn K (.ref C) (.type "ValueError") = some true
  tyC : typeIn K (.ref C) = some (.type "type")
  kC : keepIn K (.ref C) = true
  sup : ks_superIn K C C "__init__" = some (some (.builtin "ValueError.__init__"))
  mro : mroIn K C (.ref C) = some true
  exi : excInitIn K C veL "ValueError.__new__" = true
  nsup : nsIn K mainGlobals "super" = some none
  nany : nsIn K cStatics "thirdparty.any" = some none
  htop : (prog.main.scope.names.lookup ("super" : Str)).isSome = false
structure Ex0 (prog : Program) (K : Frag) (C : Addr) : Prop extends ExB prog K C where
  fn : ∃ (fI cda cc : Addr) (oc ccl cl dV kV doc pm ct : Value) (od cdd cld an : Option Addr) (osl ccs csl : Array (Option Value)) (vs : Array Value) (file : Str) (tf : Tok) (qual : Str) (args : Arguments) (body : List Stmt) (scope : Scope),
    findIn K (.ref C) "__init__" = some (some (.ref fI)) ∧ typeIn K (.ref fI) = some (.type "function") ∧
    K.lookup fI = some ⟨oc, od, .func (ksFn "__init__" qual args body scope dV kV doc pm an (.ref cda) ct cc), osl⟩ ∧ codeIn K (.ref cda) qual = true ∧
    K.lookup cda = some ⟨ccl, cdd, .fields vs, ccs⟩ ∧ vs[2]? = some (.str file tf) ∧ ((prog.main.file : Str) == file) = true ∧
    K.lookup cc = some ⟨cl, cld, .cell (some (.ref C)), csl⟩ ∧ init0B body = true ∧ init0A args = true ∧ init0S scope = true ∧
    (∀ (s : Shared) (u : Value), BindsTo s (ksFn "__init__" qual args body scope dV kV doc pm an (.ref cda) ct cc) ⟨[u], []⟩ [("self", u)])
/-- an __init__ that says super().__init__(text) and keeps copied(p) as f -/
def init1B (f p : Str) : List Stmt → Bool
  | [.Expr (.Call (.Attribute (.Call (.Name x _) [] [] _) n p2) [.Constant (.str _) _ _] [] p4) _, .Assign [.Attribute (.Name s _) g _] (.Call (.Name c _) [.Name y _] [] _) _] =>
    x == "super" && n == "__init__" && p2.endLine == p4.line && s == "self" && g == f && c == "copied" && y == p && !(p == "__debug__") && !(p == "__classdict__")
  | _ => false
def init1A (p : Str) (a : Arguments) : Bool := (match a.args with | [b, c] => b.arg == "self" && c.arg == p | _ => false) && a.posonlyargs.isEmpty
def init1S (p : Str) (sc : Scope) : Bool := init0S sc && NdefX.nscB ["self", p, "__class__"] ["self", p] ["__class__"] sc && sc.names.lookup ("copied" : Str) == some .globalImplicit
structure Ex1 (prog : Program) (K : Frag) (C : Addr) (f : Str) : Prop extends ExB prog K C where
  sa : findIn K (.ref C) "__setattr__" = some (some (.builtin "object.__setattr__"))
  hno : findIn K (.ref C) f = some none
  fn : ∃ (fI cda cc : Addr) (oc ccl cl dV kV doc pm ct : Value) (od cdd cld an : Option Addr) (osl ccs csl : Array (Option Value)) (vs : Array Value) (file : Str) (tf : Tok) (qual p : Str) (args : Arguments) (body : List Stmt) (scope : Scope),
    findIn K (.ref C) "__init__" = some (some (.ref fI)) ∧ typeIn K (.ref fI) = some (.type "function") ∧
    K.lookup fI = some ⟨oc, od, .func (ksFn "__init__" qual args body scope dV kV doc pm an (.ref cda) ct cc), osl⟩ ∧ codeIn K (.ref cda) qual = true ∧
    K.lookup cda = some ⟨ccl, cdd, .fields vs, ccs⟩ ∧ vs[2]? = some (.str file tf) ∧ ((prog.main.file : Str) == file) = true ∧
    K.lookup cc = some ⟨cl, cld, .cell (some (.ref C)), csl⟩ ∧ init1B f p body = true ∧ init1A p args = true ∧ init1S p scope = true ∧
    (∀ (s : Shared) (u v : Value), BindsTo s (ksFn "__init__" qual args body scope dV kV doc pm an (.ref cda) ct cc) ⟨[u, v], []⟩ [("self", u), (p, v)])
section
variable {prog : Program} {w : World} {A : Around} {E : Value → Shared → Prop} {R : Result → Shared → Prop} {s : Shared} {K : Frag} {mg : Str → Option Value} {base : Heap} {C : Addr}
theorem super_node {q : Str} {scope : Scope} {p0 p1 : Pos} {attr : Str} {whole : Sem Value} {fd : FuncData} {ar : Arg} {vs : Array Value} {file : Str} {tf : Tok} {oc ccl cl : Value} {od cdd cld : Option Addr} {osl ccs csl : Array (Option Value)} {cdD : ClassData} {Q : Value → Shared → Prop}
    {h₀ : Heap} {L f cda cc x D : Addr} {m mb : Str → Option Value} {news : List (Addr × Obj)} {ox : Obj} {odx : Option Obj} {stm : List Stmt}
    (F : Fr h₀ L s.heap m) (X₀ : K.In h₀) (N : News h₀ L s.heap news) (Tg : h₀.Ns mainGlobals mg) (Tb : h₀.Ns builtinsNs mb) (Tv : ∀ x : Str, x ≠ "__name__" → mb x = bootBuiltins x)
    (hf : K.lookup f = some ⟨oc, od, .func fd, osl⟩) (hp : (fd.params.posonlyargs ++ fd.params.args).head? = some ar) (hv : m ar.arg = some (.ref x)) (I : InstAt s.heap x ox C odx)
    (hcode : K.lookup cda = some ⟨ccl, cdd, .fields vs, ccs⟩) (hvs : vs[2]? = some (.str file tf)) (hfile : ((prog.main.file : Str) == file) = true)
    (hcell : K.lookup cc = some ⟨cl, cld, .cell (some (.ref D)), csl⟩) (hD : clsIn K D = some cdD) (hsub : mroIn K C (.ref D) = some true) (hsuper : nsIn K mainGlobals "super" = some none)
    (hat : (attr == ("__class__" : Str)) = false) (hks : scope.names.lookup ("super" : Str) = some .globalImplicit) (hkc : scope.names.lookup ("__class__" : Str) = some .free) (hka : scope.names.lookup ar.arg = some .local) (hk : scope.kind = .function)
    (htop : (prog.main.scope.names.lookup ("super" : Str)).isSome = false) (hboot : bootBuiltins "super" = some (.type "super"))
    (h : ∀ so h', Fr h₀ L h' m → News h₀ L h' ((so, ks_superObj D x C) :: news) → (∀ p ∈ news, p.1 < so) → Q (.ref so) { s with heap := h' }) :
    _root_.PySem.wpAt (model prog w) A (.func stm (ksEnv q scope L f (.ref cda) cc)) (attributeBase (.Call (.Name "super" p0) [] [] p1) attr (ksEnv q scope L f (.ref cda) cc) whole) Q E s := by
  have X : K.In s.heap := X₀.keeps F.keep
  obtain ⟨hh, g, d, t, os⟩ := s
  obtain ⟨oD, hD1, hD2⟩ : ∃ oD, hh.get? D = some oD ∧ oD.data = .cls cdD := by
    unfold clsIn at hD
    split at hD
    · rename_i c d cd' sl ho
      cases hD
      exact ⟨_, X _ _ ho, rfl⟩
    · cases hD
  refine ks_wpAt_super_base (env := ksEnv q scope L f (.ref cda) cc) hks hkc hat rfl (X _ _ hf) rfl hp rfl (X _ _ hcode) rfl hvs hfile htop ?_
  refine ks_loadName_global hk hks (loadGlobal_builtin (env := ksEnv q scope L f (.ref cda) cc) (Tg.keeps F.keep) (mg_none_of X₀ Tg hsuper) (Tb.keeps F.keep) ((Tv _ (by decide +kernel)).trans hboot) ⟨rfl, ?_⟩)
  refine wpAny_loadName_free hk hkc rfl ⟨_, X _ _ hcell, rfl⟩ ?_
  refine wpAny_loadName_local hk hka F.ns hv ?_
  refine ks_wpAny_isType_cls hD1 hD2 ⟨rfl, ?_⟩
  refine ks_wpAny_call_super hD1 hD2 I.at_ I.cls (fun c e => ?_) (looks_mroIn X hsub) (fun h' e k => ?_)
  · have := I.no
    unfold notCls at this
    rw [e] at this
    exact Bool.noConfusion this
  · obtain ⟨F', N', l'⟩ := ks_newsPush (s := ⟨hh, g, d, t, os⟩) F N rfl e k
    exact h _ _ F' N' l'
/-- super().__init__(text), the body of an __init__ -/
theorem init0_body {q : Str} {scope : Scope} {p0 p1 p2 p3 p4 p5 : Pos} {j : Nat} {msg : Str} {fd : FuncData} {ar : Arg} {vs : Array Value} {file : Str} {tf : Tok} {oc ccl cl : Value} {od cdd cld : Option Addr} {osl ccs csl : Array (Option Value)} {Q : Flow → Shared → Prop}
    {h₀ : Heap} {L f cda cc x t0 : Addr} {m mb : Str → Option Value} {stm : List Stmt}
    {rest : List Stmt} (T : ExB prog K C) (F : Fr h₀ L s.heap m) (X₀ : K.In h₀) (N : News h₀ L s.heap [(x, excObj C t0 none .none)]) (Tg : h₀.Ns mainGlobals mg) (Tb : h₀.Ns builtinsNs mb) (Tv : ∀ x : Str, x ≠ "__name__" → mb x = bootBuiltins x)
    (hf : K.lookup f = some ⟨oc, od, .func fd, osl⟩) (hp : (fd.params.posonlyargs ++ fd.params.args).head? = some ar) (hv : m ar.arg = some (.ref x))
    (hcode : K.lookup cda = some ⟨ccl, cdd, .fields vs, ccs⟩) (hvs : vs[2]? = some (.str file tf)) (hfile : ((prog.main.file : Str) == file) = true)
    (hcell : K.lookup cc = some ⟨cl, cld, .cell (some (.ref C)), csl⟩)
    (hks : scope.names.lookup ("super" : Str) = some .globalImplicit) (hkc : scope.names.lookup ("__class__" : Str) = some .free) (hka : scope.names.lookup ar.arg = some .local) (hk : scope.kind = .function)
    (hline : (p2.endLine == p4.line) = true)
    (h : ∀ h' tk t1, Fr h₀ L h' m → h'.get? x = some (excObj C t1 none .none) → wpAny (model prog w) A (execs rest (ksEnv q scope L f (.ref cda) cc)) Q E { s with heap := h', toks := tk }) :
    _root_.PySem.wpAt (model prog w) A (.func stm (ksEnv q scope L f (.ref cda) cc)) (execs (.Expr (.Call (.Attribute (.Call (.Name "super" p0) [] [] p1) "__init__" p2) [.Constant (.str msg) j p3] [] p4) p5 :: rest) (ksEnv q scope L f (.ref cda) cc)) Q E s := by
  obtain ⟨nm, qn, Nn, bs, bm, sn, sub, ab, col, dd, k0, k1, k2, k3, k5, hC, hbm⟩ := T.cls
  have hcl : clsIn K C = some { name := nm, bases := bs, mro := .ref C :: bm, ns := Nn, qualname := qn, hasDict := true, slotNames := sn, subclasses := sub, abstract := ab, collection := col, hasDel := false } := by unfold clsIn; rw [hC] <;> rfl
  have I : InstAt s.heap x (excObj C t0 none .none) C none := InstAt.of_exc0 N List.mem_cons_self
  have hi : interactive (ksEnv q scope L f (.ref cda) cc) = false := by
    unfold interactive
    show (scope.kind == .module && _) = false
    rw [hk]
    rfl
  have he : eval (.Call (.Attribute (.Call (.Name "super" p0) [] [] p1) "__init__" p2) [.Constant (.str msg) j p3] [] p4) (ksEnv q scope L f (.ref cda) cc) = (do
      let ov ← attributeBase (.Call (.Name "super" p0) [] [] p1) "__init__" (ksEnv q scope L f (.ref cda) cc) (eval (.Call (.Name "super" p0) [] [] p1) (ksEnv q scope L f (.ref cda) cc))
      standAt p2.atName
      let (f', first) ← holding [ov] (getMethod ov "__init__" (do return (← importBound (.Call (.Name "super" p0) [] [] p1) (ksEnv q scope L f (.ref cda) cc)).getD true))
      callWith p4 f' first (backTo p4 (starEach [.Constant (.str msg) j p3] (ksEnv q scope L f (.ref cda) cc))) []) := by
    have hform : methodCallForm 1 (backTo p4 (starEach [.Constant (.str msg) j p3] (ksEnv q scope L f (.ref cda) cc))) [] = true := rfl
    have hpos : ∀ o, methodCallPos true o (ksEnv q scope L f (.ref cda) cc) p2 p4 = pure p4 := fun o => by
      unfold methodCallPos
      simp [hline]
    rw [arm_eval_Call]
    show (attributeBase _ _ _ _ >>= fun ov => standAt p2.atName >>= fun _ => methodCall _ _ p2 p4 _ ov 1 _ []) = _
    unfold methodCall
    rw [hform, hpos]
    rfl
  refine ks_wpAt_execs_cons (ks_wpAt_Expr_any (ks_wpAt_MethodCall (super_node F X₀ N Tg Tb Tv hf hp hv I hcode hvs hfile hcell hcl T.mro T.nsup (by decide) hks hkc hka hk T.htop rfl fun so h2 F2 N2 l2 => ?_) he) hi rfl)
  refine kxs_method kxs_ValueError F2 X₀ N2 List.mem_cons_self (InstAt.of_exc0 N2 (List.mem_cons_of_mem _ List.mem_cons_self)) T.nany T.sup T.veC (by decide) fun u h3 F3 N3 l3 => ?_
  refine kxs_callWith1 (i := "ValueError.__init__") (x := x) N3 List.mem_cons_self ?_
  refine Calls.spliced_cons (Calls.Constant_str (k := j) (pos := p3) (Calls.spliced_nil ⟨?_, ?_⟩))
  · exact kxs_at N3 List.mem_cons_self
  · have xu : u ≠ x := fun z => by
      have := l3 _ (List.mem_cons_of_mem _ List.mem_cons_self)
      rw [z] at this
      exact absurd this (Nat.lt_irrefl _)
    have xs : so ≠ x := fun z => by
      have := l2 _ List.mem_cons_self
      rw [z] at this
      exact absurd this (Nat.lt_irrefl _)
    refine kxs_call (t := t0) (dv := none) (c2 := .none) F3 X₀ N3 PySem.F.excBase_ValueError T.exi List.mem_cons_self (.tail xu (.tail xs (.head fun p hp => by cases hp))) (by rw [sizeLine_eq]; exact (by decide : 1 ≤ 16777216)) fun t' h4 F4 N4 l4 => ?_
    exact PySem.wpAt_of_wpAny (h h4 _ t' F4 (N4 _ (List.mem_cons_of_mem _ (List.mem_cons_of_mem _ (List.mem_cons_of_mem _ List.mem_cons_self)))).1)
theorem init0_ok (T : Ex0 prog K C) (Md : L2.Mod K mg base) (hb : ∀ b o, base.get? b = some o → s.heap.get? b = some o) {e t0 : Addr} (he : s.heap.get? e = some (HandSPX.excO C t0)) (hne : base.get? e = none) (hroom : A.depth < recursionLimit) {fI : Addr}
    (hfI : findIn K (.ref C) "__init__" = some (some (.ref fI)))
    (hq : ∀ h' tk t1, (∀ b o, b ≠ e → s.heap.get? b = some o → h'.get? b = some o) → h'.get? e = some (HandSPX.excO C t1) → R (.ok (.ret .none)) { s with heap := h', toks := tk }) :
    codeAny (model prog w) A (.call (.ref fI) ⟨[.ref e], []⟩) R s := by
  obtain ⟨fI', cda, cc, oc, ccl, cl, dV, kV, doc, pm, ct, od, cdd, cld, an, osl, ccs, csl, vs, file, tf, qual, args, body, scope, f1, f2, f3, f4, f5, f6, f7, f8, f9, f10, f11, f12⟩ := T.fn
  rw [hfI] at f1
  cases f1
  have X : K.In s.heap := fun a o q => hb _ _ (Md.kin _ _ q)
  have hlim : s.heap.NoLimit := Md.nolimit.keeps hb
  simp only [init0S, Bool.and_eq_true, beq_iff_eq, Bool.not_eq_true'] at f11
  obtain ⟨⟨⟨⟨⟨⟨s1, s2⟩, s3⟩, s4⟩, s5⟩, s6⟩, s7⟩ := f11
  have s7' : ∀ x ∈ scope.names, x.2 ≠ .cell := fun x hx => by
    have := List.all_eq_true.mp s7 x hx
    simpa using this
  -- the text
  obtain ⟨p0, p1, p2, p3, p4, p5, j, msg, rfl, hline⟩ : ∃ p0 p1 p2 p3 p4 p5 j msg, body = [.Expr (.Call (.Attribute (.Call (.Name "super" p0) [] [] p1) "__init__" p2) [.Constant (.str msg) j p3] [] p4) p5] ∧ (p2.endLine == p4.line) = true := by
    unfold init0B at f9
    split at f9
    · rename_i x p0 p1 n p2 msg j p3 p4 p5
      simp only [Bool.and_eq_true, beq_iff_eq] at f9
      obtain ⟨⟨rfl, rfl⟩, f13⟩ := f9
      exact ⟨_, _, _, _, _, _, _, _, rfl, beq_iff_eq.mpr f13⟩
    · cases f9
  simp only [init0A, Bool.and_eq_true] at f10
  obtain ⟨⟨⟨⟨⟨a1, a2⟩, a3⟩, a4⟩, a5⟩, a6⟩ := f10
  obtain ⟨ar, ha, han⟩ : ∃ ar, args.args = [ar] ∧ ar.arg = "self" := by
    rcases h : args.args with _ | ⟨b, _ | ⟨_, _⟩⟩
    · rw [h] at a1
      cases a1
    · rw [h] at a1
      exact ⟨b, rfl, by simpa using a1⟩
    · rw [h] at a1
      cases a1
  have hpos : args.posonlyargs = [] := by simpa using a2
  have hp : (args.posonlyargs ++ args.args).head? = some ar := by rw [ha, hpos]; rfl
  obtain ⟨nm, q, N, bs, bm, sn, sub, ab, col, dd, k0, k1, k2, k3, k5, hC, hbm⟩ := T.cls
  have loc : ∀ y ∈ [(("self" : Str), Value.ref e)], scope.names.lookup y.1 = some .local := fun y hy => by
    have := List.mem_singleton.mp hy
    subst this
    exact s1
  refine ks_codeAny_call_defAt (fd := ksFn "__init__" qual args _ scope dV kV doc pm an (.ref cda) ct cc) (binds := [("self", .ref e)]) hroom (X _ _ f3) rfl hlim (codeRec_of X f4) rfl (f12 _ _) s7' loc (fun h₁ hns hk₁ => ?_) s6 s5 s4
  have X0 : K.In (hideAll s.heap [e]) := fun a o z => hideAll_get [e] (X _ _ z) fun y => by
    have y := List.mem_singleton.mp y
    subst y
    have := Md.kin _ _ z
    rw [hne] at this
    cases this
  have F0 : Fr (hideAll s.heap [e]) s.heap.objs.size h₁ (fun x => [(("self" : Str), Value.ref e)].reverse.lookup x) := ⟨hns, fun b o z => hk₁ b o (of_hideAll _ z), Nat.le_of_eq (hideAll_size _ _)⟩
  have N0 : News (hideAll s.heap [e]) s.heap.objs.size h₁ [(e, excObj C t0 none .none)] := fun p hp => by
    have hp := List.mem_singleton.mp hp
    subst hp
    exact ⟨hk₁ _ _ he, Nat.ne_of_lt (Heap.lt_size he), hideAll_none _ List.mem_cons_self⟩
  have hkeep : ∀ b o, base.get? b = some o → (hideAll s.heap [e]).get? b = some o := fun b o z => hideAll_get [e] (hb _ _ z) fun y => by
    have y := List.mem_singleton.mp y
    subst y
    rw [hne] at z
    cases z
  have glob : (hideAll s.heap [e]).Ns mainGlobals mg := Md.glob.keeps hkeep
  obtain ⟨mb, blt, bval⟩ := Md.blt
  have blt' : (hideAll s.heap [e]).Ns builtinsNs mb := blt.keeps hkeep
  refine init0_body T.toExB F0 X0 N0 glob blt' bval f3 hp (by rw [han]; rfl) f5 f6 f7 f8 s2 s3 (by rw [han]; exact s1) s4 hline fun h' tk t1 F4 g4 => wpAny_execs_nil ?_
  refine hq h' tk t1 (fun b o hbe z => F4.keep b o (hideAll_get [e] z fun y => hbe (List.mem_singleton.mp y))) g4
theorem made0_ok (T : Ex0 prog K C) (Md : L2.Mod K mg base) (hb : ∀ b o, base.get? b = some o → s.heap.get? b = some o) (hroom : A.depth + 1 < recursionLimit)
    (hq : ∀ h' tk e t1, (∀ b o, s.heap.get? b = some o → h'.get? b = some o) → s.heap.objs.size ≤ e → h'.get? e = some (HandSPX.excO C t1) → R (.ok (.ret (.ref e))) { s with heap := h', toks := tk }) :
    codeAny (model prog w) A (.call (.ref C) ⟨[], []⟩) R s := by
  obtain ⟨nm, q, N, bs, bm, sn, sub, ab, col, dd, k0, k1, k2, k3, k5, hC, hbm⟩ := T.cls
  have T' := T
  obtain ⟨fI, cda, cc, oc, ccl, cl, dV, kV, doc, pm, ct, od, cdd, cld, an, osl, ccs, csl, vs, file, tf, qual, args, body, scope, f1, f2, f3, f4, f5, f6, f7, f8, f9, f10, f11, f12⟩ := T.fn
  obtain ⟨hp, g, dr, tk, os⟩ := s
  have X : K.In hp := fun a o q => hb _ _ (Md.kin _ _ q)
  have k : ∀ b o, hp.get? b = some o → ((hp.push (kdv_tup [])).push (HandSPX.excO C hp.objs.size)).get? b = some o := fun b o e => Heap.get?_push_of_some _ (Heap.get?_push_of_some _ e)
  have hget : ((hp.push (kdv_tup [])).push (HandSPX.excO C hp.objs.size)).get? (hp.objs.size + 1) = some (HandSPX.excO C hp.objs.size) := by heap_get
  have hnx : base.get? (hp.objs.size + 1) = none := by
    cases e : base.get? (hp.objs.size + 1) with
    | none => rfl
    | some o =>
      have z : hp.get? (hp.objs.size + 1) = some o := hb _ _ e
      exact absurd (Nat.lt_of_succ_lt (Heap.lt_size z)) (Nat.lt_irrefl _)
  refine HandSPX.call_own PySem.F.excBase_ValueError (fun X => HandSPX.refsVE_contains X bm hbm) (X _ _ hC) (looks_findIn X f1) (fun self => bind_fn X self f2) (Nat.zero_le _) ?_
  refine init0_ok (s := ⟨(hp.push (kdv_tup [])).push (HandSPX.excO C hp.objs.size), g, dr, tk, os⟩) T' Md (fun b o e => k b o (hb _ _ e)) hget hnx (by show A.depth + 1 < recursionLimit; exact hroom) f1 fun h' tk' t1 k' hx => ?_
  have old : ∀ b o, hp.get? b = some o → h'.get? b = some o := fun b o e => k' b o (Nat.ne_of_lt (Nat.lt_succ_of_lt (Heap.lt_size e))) (k b o e)
  exact ⟨rfl, hq h' tk' (hp.objs.size + 1) t1 old (Nat.le_succ _) hx⟩
end
section
open L2
variable {X : L2.Cx} {C : Addr} {x : Str} {p pos : Pos}
/-- C() -/
theorem pmk0 (T : Ex0 X.prog X.K C) (gC : X.mg x = some (.ref C)) {k : Nat} (hr : Room (k + 1) X.A) (hg : Gl X x) (hd : (x == ("__debug__" : Str)) = false) : PMk X (.Call (.Name x p) [] [] pos) (fun _ H Q => Q (.ref C) none H) := by
  intro pins s σ H Q I h
  refine wpAny_Call_Name_kw (ld_glob I hg gC ?_ hd)
  refine PySem.W.callWith_K0 I.kIn T.kC ?_
  show wpAny _ _ (call (.ref C) []) _ _ _
  obtain ⟨hp, g, dr, tk, os⟩ := s
  refine wpAny_call (made0_ok T I.ok.mod (fun b o q => I.bk b o q) (by have := hr.dp; omega) fun h' tk' e t1 old new hx => ?_)
  show MkP X pins σ Q (.ref e) ⟨h', g, dr, tk', os⟩
  have ne : hp.get? e = none := by
    cases z : hp.get? e with
    | none => rfl
    | some o => exact absurd (Heap.lt_size z) (Nat.not_lt.mpr new)
  exact ⟨e, _, _, ⟨hp, g, dr, tk, os⟩, H, .ref C, none, rfl, I, old, ne, hx, ⟨rfl, rfl⟩, rfl, rfl, I.hok.fresh new, rfl, I.bare, raises_own T.exC T.tyC, h⟩
end
end MP
/-! What the written part must say of an error class, for Ex0. -/
namespace MP
open PySem PySem.W PySem.Calls PyProof.Rows
section
variable {P : Program} {K : Frag} {C N fI cda cc : Addr} {nm q qual file : Str} {bs bm sub : List Value} {sn : List Str} {ab : Bool} {col : Option Bool} {dd : Option Addr} {k0 k1 k2 k3 k5 : Option Value}
  {oc ccl cl dV kV doc pm ct : Value} {od cdd cld an : Option Addr} {osl ccs csl : Array (Option Value)} {vs : Array Value} {tf : Tok} {args : Arguments} {body : List Stmt} {scope : Scope}
theorem ex0_of
    (xL : K.lookup C = some (excClassObj nm q C N bs bm true sn sub ab col dd k0 k1 k2 k3 k5 "ValueError.__new__"))
    (rf : (HandSPX.refsVE bm && excTail veL bm) = true)
    (e1 : subIn K (.ref C) (.type "BaseException") = some true) (e2 : subIn K (.ref C) (.type "ValueError") = some true) (ty : typeIn K (.ref C) = some (.type "type")) (kC : keepIn K (.ref C) = true)
    (su : ks_superIn K C C "__init__" = some (some (.builtin "ValueError.__init__"))) (ns : nsIn K mainGlobals "super" = some none) (na : nsIn K cStatics "thirdparty.any" = some none)
    (ht : (P.main.scope.names.lookup ("super" : Str)).isSome = false)
    (fi : findIn K (.ref C) "__init__" = some (some (.ref fI))) (tI : typeIn K (.ref fI) = some (.type "function"))
    (lf : K.lookup fI = some ⟨oc, od, .func (ksFn "__init__" qual args body scope dV kV doc pm an (.ref cda) ct cc), osl⟩) (cf : codeIn K (.ref cda) qual = true)
    (lc : K.lookup cda = some ⟨ccl, cdd, .fields vs, ccs⟩) (v2 : vs[2]? = some (.str file tf)) (fl : ((P.main.file : Str) == file) = true)
    (lx : K.lookup cc = some ⟨cl, cld, .cell (some (.ref C)), csl⟩) (b1 : (init0B body && init0A args && init0S scope) = true)
    (bn : ∀ (s : Shared) (u : Value), BindsTo s (ksFn "__init__" qual args body scope dV kV doc pm an (.ref cda) ct cc) ⟨[u], []⟩ [("self", u)]) : Ex0 P K C := by
  have hcl : clsIn K C = some { name := nm, bases := bs, mro := .ref C :: bm, ns := N, qualname := q, hasDict := true, slotNames := sn, subclasses := sub, abstract := ab, collection := col, hasDel := false } := by unfold clsIn; rw [xL] <;> rfl
  simp only [Bool.and_eq_true] at rf b1
  refine { cls := ⟨nm, q, N, bs, bm, sn, sub, ab, col, dd, k0, k1, k2, k3, k5, xL, rf.1⟩, exC := e1, veC := e2, tyC := ty, kC := kC, sup := su, mro := ?_, exi := ?_, nsup := ns, nany := na, htop := ht, fn := ⟨fI, cda, cc, oc, ccl, cl, dV, kV, doc, pm, ct, od, cdd, cld, an, osl, ccs, csl, vs, file, tf, qual, args, body, scope, fi, tI, lf, cf, lc, v2, fl, lx, b1.1.1, b1.1.2, b1.2, bn⟩ }
  · unfold mroIn
    rw [hcl]
    simp
  · unfold excInitIn
    rw [xL]
    show (C == C && "ValueError.__new__" == "ValueError.__new__" && !false && excTail veL bm) = true
    rw [rf.2]
    simp
end
end MP
/-! enumerate of a tuple. -/
namespace PySem
theorem meets_enumerate_newT {v : Value} {o : Obj} {H : Heap → Prop} (B : Begins v o H) :
    Meets (Builtin.«enumerate.__new__» ⟨[.type "enumerate", v], []⟩) (fun _ R s => H s.heap ∧
      R (.ok (.ret (.ref (s.heap.push o).objs.size))) { s with heap := (s.heap.push o).push { cls := .type "enumerate", data := .fields #[.none, .bool false, .ref s.heap.objs.size, rawInt 0, .none, .none] } }) :=
  .of_wp fun prog w A R s h => by
    obtain ⟨hp, g, d, tk, os⟩ := s; obtain ⟨h1, h⟩ := h
    have hsub := sub_enumerate
    have q1 : ∀ {A' : Around} {E : Value → Shared → Prop} {Q : Value → Shared → Prop}, Q (.ref hp.objs.size) ⟨hp.push o, g, d, tk, os⟩ → wpAny (model prog w) A' (pyIter v) Q E ⟨hp, g, d, tk, os⟩ :=
      fun q => B.iter prog w _ _ ⟨hp, g, d, tk, os⟩ _ h1 q
    wp_walk using q1
    refine wpAny_stack_any fun st => wpAny_pure ?_
    split
    · rename_i c _ _ _ _ _
      cases (c == Value.type "enumerate")
      · wp_walk using q1
        exact ⟨_, rfl, h⟩
      · wp_walk using q1
        exact ⟨_, rfl, h⟩
    · wp_walk using q1
      exact ⟨_, rfl, h⟩
section
variable {prog : Program} {w : World} {A : Around} {E : Value → Shared → Prop} {s : Shared}
theorem call_enumerate_tuple {l : Addr} {items : Array Value} {Q : Value → Shared → Prop} (hL : s.heap.IsTuple l items)
    (h : ∀ h', IsEnum h' (s.heap.objs.size + 1) s.heap.objs.size 0 .none → h'.IsTupleIter s.heap.objs.size l 0 → h'.objs.size = s.heap.objs.size + 2 →
      (∀ b o, s.heap.get? b = some o → h'.get? b = some o) → Q (.ref (s.heap.objs.size + 1)) { s with heap := h' }) :
    wpAny (model prog w) A (call (.type "enumerate") [.ref l]) Q E s := by
  refine callType_new F.called_enumerate (by decide) (F.typeCall_enumerate_1 _) (F.newCall_enumerate_1 _) (fun obj => F.args_object_init_2 obj _) F.entry_enumerate_new
    (meets_enumerate_newT (begins_tuple l items)) ⟨hL, ?_⟩
  have hz : (s.heap.push { cls := .type "tuple_iterator", data := .fields #[.ref l, .int 0 0] }).objs.size = s.heap.objs.size + 1 := Heap.size_push ..
  show _ ∧ _
  rw [hz]
  have he : IsEnum ((s.heap.push { cls := .type "tuple_iterator", data := .fields #[.ref l, .int 0 0] }).push
      { cls := .type "enumerate", data := .fields #[.none, .bool false, .ref s.heap.objs.size, rawInt 0, .none, .none] }) (s.heap.objs.size + 1) s.heap.objs.size 0 .none := by
    have := Heap.get?_push_size (s.heap.push { cls := .type "tuple_iterator", data := .fields #[.ref l, .int 0 0] })
      (o := { cls := .type "enumerate", data := .fields #[.none, .bool false, .ref s.heap.objs.size, rawInt 0, .none, .none] }) rfl
    rw [hz] at this; exact this
  refine ⟨⟨_, he, rfl⟩, h _ he ⟨_, Heap.get?_push_of_some _ (Heap.get?_push_size _ rfl), rfl, rfl⟩ (by rw [Heap.size_push, hz]) fun b o x => Heap.get?_push_of_some _ (Heap.get?_push_of_some _ x)⟩
end
end PySem
namespace L2
open PySem PySem.Spec PyProof.Rows
theorem enum_endT {prog : Program} {w : World} {A : Around} {E : Value → Shared → Prop} {s : Shared} {e it l : Addr} {i : Nat} {c : Int} {items : Array Value} {old : Value} {Q : Option Value → Shared → Prop} (hh : A.handled = none)
    (he : IsEnum s.heap e it c old) (hit : s.heap.IsTupleIter it l i) (hl : s.heap.IsTuple l items) (hx : items[i]? = none)
    (hQ : ∀ h', Heap.ExtBut it s.heap h' → Q none { s with heap := h' }) : wpAny (model prog w) A (pyNext (.ref e)) Q E s := by
  have hT : s.TypeIs (.ref e) "enumerate" := ⟨_, he, rfl⟩
  unfold pyNext
  refine wpAny_bind (wpAny_attempt (wpAny_callSpecial?_slot (name := Str.ofString "__next__") hT F.slot_enumerate_next
    (wpAny_call_entry F.slot_enumerate_next hT F.entry_enumerate_next ?_ (F.args_enumerate_next_1 _))))
  show wpAny _ _ (field (.ref e) 2 >>= _) _ _ _
  refine wpAny_bind (wpAny_field he rfl (x := .ref it) rfl ?_)
  refine wpAny_bind (PySem.wpAny_nextOf_tuple_end hh hit hl hx fun h' x he' hx' => ?_)
  obtain ⟨o, ho, hc⟩ := hx'
  refine wpAny_bind (wpAny_isInstance (T := "StopIteration") (b := true) ⟨o, ho, hc⟩ isSubtype_stop ?_)
  exact wpAny_pure (hQ _ he')
/-- the tuple at a, each item in a new pair -/
def IteT (K : PySem.W.Frag) (a : Addr) : It :=
  ⟨fun i H => ∃ (xs : List V) (x : V), SqT K H a xs ∧ xs[i]? = some x, fun i H v H' => ∃ T x, v = .ref T ∧ H T = none ∧ H' = upd H T (.tup [.int (i : Nat), x]) ∧ ∀ xs, SqT K H a xs → xs[i]? = some x, fun i H => ∃ xs : List V, SqT K H a xs ∧ xs.length ≤ i⟩
theorem apart_tuple {h : Heap} {a e it : Addr} {i : Nat} {c : Int} {items : Array Value} {old : Value} (p : h.IsTuple a items) (hit : h.IsTupleIter it a i) (he : IsEnum h e it c old) : a ≠ it ∧ e ∉ [it, a] ∨ e = it := by
  obtain ⟨o, ho, hc, n, hd⟩ := p
  obtain ⟨o2, ho2, hc2, hd2⟩ := hit
  have he' : h.get? e = some _ := he
  by_cases hne : e = it
  · exact .inr hne
  refine .inl ⟨fun q => ?_, fun q => ?_⟩
  · subst q
    rw [ho] at ho2
    cases ho2
    rw [hc] at hc2
    exact absurd hc2 (by decide)
  · have e' : e = it ∨ e = a := by simpa using q
    rcases e' with q | q
    · exact hne q
    · subst q
      rw [ho] at he'
      cases he'
      have hc : Value.type "enumerate" = Value.type "tuple" := hc
      exact absurd hc (by decide)
theorem turn_enumT {P : Program} {w : World} {K : PySem.W.Frag} {elts : List Expr} {kk : Nat} {tpos : Pos} (a e it : Addr) :
    Turn P w K (.Tuple elts kk tpos) (IteT K a) [e, it] e (fun i h => (∃ old, IsEnum h e it ((i : Nat) : Int) old) ∧ h.IsTupleIter it a i ∧ e ≠ it) where
  mem := by simp
  obj := fun i h st b hb => by
    obtain ⟨⟨old, he⟩, ⟨o, ho, hc, hd⟩, _⟩ := st
    have e' : b = e ∨ b = it := by simpa using hb
    rcases e' with z | z
    · rw [z]; exact ⟨_, he, fun v q => nomatch q⟩
    · rw [z]; exact ⟨o, ho, fun v q => by rw [hd] at q; cases q⟩
  keep := fun i h h' st k => let ⟨⟨old, he⟩, hi, hne⟩ := st; ⟨⟨old, k e (by simp) _ he⟩, hi.at fun o q => k it (by simp) o q, hne⟩
  item := by
    intro X hP hw hK hc i pins s σ H E I hf st hg
    subst hP hw hK
    obtain ⟨⟨old, he⟩, hit, hne⟩ := st
    obtain ⟨xs, x, hq, hx⟩ := hg
    obtain ⟨its, rv, p, hz⟩ := I.tuple hq
    obtain ⟨u, hu, ru⟩ := rv.get hx
    have pt : s.heap.IsTuple a its.toArray := p
    have hel : e < s.heap.objs.size := Heap.lt_size he
    have hil : it < s.heap.objs.size := by obtain ⟨_, q, _⟩ := hit; exact Heap.lt_size q
    obtain ⟨n1, n2⟩ := (apart_tuple pt hit he).resolve_right hne
    have hlt : i < its.length := by
      have q := List.getElem?_eq_some_iff.1 hu
      exact q.1
    refine wpAny_pyNext_enum_itemD (Draws.tuple (A := X.A.in1) (I.ok.hd hc) it a n1 its.toArray) he ⟨hit, pt⟩ (by simpa using hlt) hne n2 fun u' h' tk hu' ho hst hT hsz hk => ?_
    have hu2 : its[i]? = some u' := by simpa using hu'
    rw [hu] at hu2
    cases hu2
    refine ⟨_, rfl, wpAny_letOwnedTupleGo_enum (s := { s with heap := h', toks := tk + 1 }) ho fun h'' he' sb => ?_⟩
    have hT2 : h''.get? s.heap.objs.size = some { cls := .type "tuple", data := .seq #[.int i tk, u] } := (sb.2 _ (Nat.ne_of_gt hel)).trans hT
    have new : ObjOk X.prog X.w (upd H s.heap.objs.size (.tup [.int (i : Nat), x])) h'' s.heap.objs.size (.tup [.int (i : Nat), x]) :=
      ⟨by show 2 ≤ sizeLine; decide, [.int i tk, u], .cons ⟨_, rfl⟩ (.cons ru .nil), ⟨_, hT2, rfl, _, rfl⟩⟩
    have I1 : Inv X pins σ (upd H s.heap.objs.size (.tup [.int (i : Nat), x])) { s with heap := h'', toks := tk + 1 } :=
      I.turnedNew (ch := [e, it]) (fun b ob hb q => (sb.2 b (fun z => hb (by simp [z]))).trans (hk b ob (fun z => hb (by simp [z])) (fun z => hb (by simp [z])) q)) hf (Nat.le_refl _) new
    refine ⟨.ref s.heap.objs.size, _, I1, rfl, ⟨_, x, rfl, I.hok.fresh (Nat.le_refl _), rfl, fun ys hy => by rw [I.tuple_inj hy hq]; exact hx⟩, ⟨⟨u, ?_⟩, hst.1.at fun o q => (sb.2 it (Ne.symm hne)).trans q, hne⟩, fun b hb => ?_⟩
    · have e1 : ((i + 1 : Nat) : Int) = (i : Int) + 1 := by omega
      rw [e1]; exact he'
    · have hb' : b < s.heap.objs.size := by
        have e' : b = e ∨ b = it := by simpa using hb
        rcases e' with z | z
        · rw [z]; exact hel
        · rw [z]; exact hil
      rw [upd_ne (Nat.ne_of_lt hb')]
      exact (hf b hb).1
  done := by
    intro X hP hw hK hc i pins s σ H E I hf st hg
    subst hP hw hK
    obtain ⟨⟨old, he⟩, hit, hne⟩ := st
    obtain ⟨xs, hq, hx⟩ := hg
    obtain ⟨its, rv, p, hz⟩ := I.tuple hq
    obtain ⟨f0, f1, f2, f3, f4, f5⟩ := hf it (by simp)
    have pt : s.heap.IsTuple a its.toArray := p
    have hl := rv.length
    obtain ⟨o, ho, hcl, hd⟩ := id hit
    have n1 : a ≠ it := ((apart_tuple pt hit he).resolve_right hne).1
    exact enum_endT (I.ok.hd hc) he hit pt (by simp; omega) fun h' eb => ⟨rfl, I.turned (t' := s.toks) (fun b o hb q => eb b o hb q) f0 f1 f3 f4 f5⟩
  self := fun A i s Q E st h => let ⟨⟨_, he⟩, _⟩ := st; wpAny_pyIter_enum he h
def iEnumT (K : PySem.W.Frag) (ta : TA) : TI := fun σ H R => ta σ H fun vs H1 => ∃ a xs, vs = [.ref a] ∧ SqT K H1 a xs ∧ R (IteT K a) H1
theorem pi_enumT {X : Cx} {e : Expr} {ta : TA} {p pos tpos : Pos} {elts : List Expr} {kk : Nat} (hg : Gl X "enumerate") (hm : X.mg "enumerate" = none) (ha : PA X [e] ta) (hs : starEach [e] X.env = [(false, eval e X.env)] := by rfl) :
    PI X (.Tuple elts kk tpos) (.Call (.Name "enumerate" p) [e] [] pos) (iEnumT X.K ta) := by
  refine ⟨fun pins s σ H R I h => ?_⟩
  refine Call_ (ld_blt I hg hm boot_enumerate (PyProof.Rows.callWith_type1 (thn (ha.run pos pins s σ H _ I h) fun us s1 ⟨vs, H1, I1, r1, q1⟩ => ?_) hs rfl))
  obtain ⟨a, xs, ex, hq, q⟩ := q1
  subst ex
  cases r1 with
  | cons r rr =>
    cases rr
    cases r
    obtain ⟨its, rv, p', hz⟩ := I1.tuple hq
    refine call_enumerate_tuple (show s1.heap.IsTuple a its.toArray from p') fun h' he hit hsz hk => wpAny_pyIter_enum he ?_
    have I2 : Inv X pins σ H1 { s1 with heap := h' } := I1.kept (t' := s1.toks) hk
    refine ⟨s1.heap.objs.size + 1, [s1.heap.objs.size + 1, s1.heap.objs.size], _, _, H1, rfl, I2, turn_enumT a (s1.heap.objs.size + 1) s1.heap.objs.size, ⟨⟨.none, he⟩, hit, Nat.succ_ne_self _⟩, fun b hb => ?_, q⟩
    have e' : b = s1.heap.objs.size + 1 ∨ b = s1.heap.objs.size := by simpa using hb
    have hle : s1.heap.objs.size ≤ b := by
      rcases e' with z | z
      · rw [z]; exact Nat.le_add_right _ _
      · rw [z]; exact Nat.le_refl _
    exact I1.fpOk hle (I1.hok.fresh hle)
end L2
/-! Which text an expression of the small language stands for. -/
namespace MP
open PySem PyProof.Rows L2 PySem.Spec
/-! ### a def's promise -/
structure FnG (P : Program) (w : World) (K : PySem.W.Frag) (mg : Str → Option Value) (base : Heap) (k : Nat) (f : Addr) (fd : FuncData) (ps : List Str) (sp : Sp) : Prop where
  len : ∀ vs H Q W, sp vs H Q W → vs.length = ps.length
  run : ∀ (A : Around) (outer : List PySem.Env) (s : Shared) (H : Hp) (args : Args) (us : List Value) (vs : List V) (Q : VK) (E : XK), A.guards = some [] → Room k A → Env0 P w K mg base A outer s H → BindsTo s fd args (ps.zip us) →
    Vals vs us → sp vs H Q E → codeAny (model P w) A (.call (.ref f) args) (CR (L2.CX P w) outer P w H s Q E) s
/-- how a lambda of a def is called -/
def lamQ (fd : FuncData) : Str := (fd.qualname ++ ".<locals>.") ++ "<lambda>"
/-- the table of code objects of the def law is known -/
def TLs (K : PySem.W.Frag) (mg : Str → Option Value) (base : Heap) (T : List (Addr × Str)) : Prop := ∀ (f : Addr) (oc : Value) (od : Option Addr) (fd : FuncData) (osl : Array (Option Value)), mg "law" = some (.ref f) → K.lookup f = some ⟨oc, od, .func fd, osl⟩ →
  ∃ c P : Addr, fd.code = .ref c ∧ LamX.TabB base mg c P ∧ (P, lamQ fd) ∈ T ∧ ∀ p ∈ T, p.1 = P → p.2 = lamQ fd
def spOf (K : PySem.W.Frag) (mg : Str → Option Value) (base : Heap) (np : Nat) (sem : Fn) : Sp := fun vs H Q E =>
  ∃ g vals st, RVals K g H vs vals ∧ Ok K g H st ∧ vals.length = np ∧ TLs K mg base g.T ∧ Post K mg E (relE K false) g H (sem vals st) Q
/-! ### what a clause answers: its text -/
def litS : Lit → Expr → Bool
  | .none, .Constant .none _ _ => true
  | .bool b, .Constant (.bool c) _ _ => decide (b = c)
  | .int i, .Constant (.int j) _ _ => decide (i = j)
  | .str x, .Constant (.str y) _ _ => decide (x = y)
  | _, _ => false
def fldS (f n : Str) : Expr → Bool
  | .Attribute (.Name x _) g _ => decide (x = n) && decide (g = f)
  | _ => false
def isiS (n B : Str) (sc : Scope) : Expr → Bool
  | .Call (.Name y _) [.Name x _, .Name b _] [] _ => decide (y = "isinstance") && isGl sc y && decide (x = n) && decide (b = B) && isGl sc b && okName b
  | _ => false
def lst1 (f n : Str) : Expr → Bool
  | .List [a] _ => fldS f n a
  | _ => false
def nil1 : Expr → Bool
  | .List [] _ => true
  | _ => false
def tup1 (s f n : Str) : Expr → Bool
  | .Tuple [.Constant (.str t) _ _, a] _ _ => decide (s = t) && fldS f n a
  | _ => false
def ite1 (g z c : Expr → Bool) : Expr → Bool
  | .IfExp t a b _ => c t && g a && z b
  | _ => false
def hxS (sc : Scope) : Hx → Option Str → Expr → Bool
  | .cst l, none, e => litS l e
  | .lst f none, some n, e => lst1 f n e
  | .lst f (some B), some n, e => ite1 (lst1 f n) nil1 (isiS n B sc) e
  | .tup s f none, some n, e => tup1 s f n e
  | .tup s f (some (B, z)), some n, e => ite1 (tup1 s f n) (litS (.str z)) (isiS n B sc) e
  | _, _, _ => false
def afS : Af → Expr → Bool
  | .lit l, e => litS l e
  | .nil, e => nil1 e
def nmS (Ng : List Str) (sc : Scope) : Option Str → Bool
  | none => true
  | some n => decide (Ng[1]? = some n) && decide (sc.names.lookup n = some .local) && okName n
def actS (a : Str) : Expr → Bool
  | .Call (.Name x _) [] [] _ => decide (x = a)
  | _ => false
/-- the text of a def that calls what it got -/
def tryS (r : Bool) (k : HK) (a : Str) (Ng : List Str) (sc : Scope) : Stmt → Bool
  | .Try [.Return (some e) _] [.ExceptHandler (some (.Name x _)) nm [.Return (some e') _] _] [] [] _ => r && actS a e && decide (x = k.c) && isGl sc x && okName x && nmS Ng sc nm && hxS sc k.h nm e'
  | .Try [.Expr e _] [.ExceptHandler (some (.Name x _)) nm [.Return (some e') _] _] [] [] _ => !r && actS a e && decide (x = k.c) && isGl sc x && okName x && nmS Ng sc nm && hxS sc k.h nm e'
  | _ => false
def retS (f : Af) : Stmt → Bool
  | .Return (some e) _ => afS f e
  | _ => false
def hkS (k : HK) (a : Str) (Ng : List Str) (sc : Scope) : List Stmt → Bool
  | [s] => k.ret && tryS true k a Ng sc s
  | [s, t] => !k.ret && tryS false k a Ng sc s && retS k.af t
  | _ => false
/-- what the class must say whose errors are caught -/
def BOk (K : PySem.W.Frag) (mg : Str → Option Value) (C : Addr) : Option Str → Prop
  | none => True
  | some B => mg "isinstance" = none ∧ ∃ D : Addr, mg B = some (.ref D) ∧ ExcC K C ∧ PySem.W.findIn K (.ref C) "__class__" = some (some (.builtin "object.__class__")) ∧ PySem.W.kitOne K (.ref C) (.ref D) = some true
def CatchF (K : PySem.W.Frag) (mg : Str → Option Value) (c f : Str) (b : Option Str) : Prop := ∃ C : Addr, mg c = some (.ref C) ∧ PySem.W.exmOne K (.ref C) (.ref C) = some true ∧ XfC K C ∧ PySem.W.findIn K (.ref C) f = some none ∧ BOk K mg C b
def CatchOk (K : PySem.W.Frag) (mg : Str → Option Value) (c : Str) : Hx → Prop
  | .cst _ => ∃ C : Addr, mg c = some (.ref C) ∧ PySem.W.exmOne K (.ref C) (.ref C) = some true
  | .lst f b => CatchF K mg c f b
  | .tup _ f b => CatchF K mg c f (b.map (·.1))
structure HFn (K : PySem.W.Frag) (mg : Str → Option Value) (x : Str) (k : HK) (g : Addr) (pg : Arguments) (bg : List Stmt) (sg : Scope) (dV kV doc pm cdv ct oc : Value) (an od : Option Addr) (osl : Array (Option Value)) (Ng : List Str) (a : Str) : Prop where
  hm : mg x = some (.ref g)
  hk : PySem.W.keepIn K (.ref g) = true
  lk : K.lookup g = some ⟨oc, od, .func (PySem.W.fnOf x x pg bg sg dV kV doc pm an cdv ct), osl⟩
  hcg : PySem.W.codeIn K cdv x = true
  hb : L2.Binds K (PySem.W.fnOf x x pg bg sg dV kV doc pm an cdv ct) [a] []
  Sg : FnScope Ng [a] sg
  N0 : Ng[0]? = some a
  vis : isVis sg a = true
  ok : okName a = true
  txt : hkS k a Ng sg bg = true
  cat : CatchOk K mg k.c k.h
/-- the name x stands for a def that reckons sem, at most lv calls deep -/
structure GlobFn (P : Program) (w : World) (K : PySem.W.Frag) (mg : Str → Option Value) (base : Heap) (lv : Nat) (x : Str) (sem : Fn) : Prop where
  ex : ∃ k f fd ps, k ≤ lv ∧ mg x = some (.ref f) ∧ PySem.W.keepIn K (.ref f) = true ∧ Binds K fd ps [] ∧ FnG P w K mg base k f fd ps (spOf K mg base ps.length sem) ∧ ∀ vals st, vals.length ≠ ps.length → sem vals st = .no
def GlobCst (K : PySem.W.Frag) (mg : Str → Option Value) (x : Str) (d : D) : Prop := ∃ u v, mg x = some u ∧ RelV v u ∧ ∀ Z H, RD K Z H v d
inductive Req where
  | fn (x : Str) (sem : Fn)
  | cst (x : Str) (d : D)
  | non (x : Str)
  | bltin (x : Str) (u : Value)
  | exc (x : Str)
  | excIs (x k : Str)
  | hfn (x : Str) (k : HK)
  | lam
  | deep (r : Req)
  | excD (c f : Str)
  | catch (c : Str) (h : Hx)
def ReqOk (P : Program) (w : World) (K : PySem.W.Frag) (mg : Str → Option Value) (base : Heap) : Nat → Req → Prop
  | lv, .fn x sem => GlobFn P w K mg base lv x sem
  | _, .cst x d => GlobCst K mg x d
  | _, .non x => mg x = none
  | _, .bltin x u => mg x = some u
  | lv, .exc x => 1 ≤ lv ∧ ∃ C : Addr, mg x = some (.ref C) ∧ Ex0 P K C ∧ PySem.W.exmOne K (.ref C) (.ref C) = some true
  | _, .excIs x k => ∃ C D : Addr, mg x = some (.ref C) ∧ mg k = some (.ref D) ∧ ExcC K C ∧ PySem.W.kitOne K (.ref C) (.ref D) = some true ∧ PySem.W.exmOne K (.ref C) (.ref C) = some true
  | lv, .hfn x k => 2 ≤ lv ∧ ∃ g pg bg sg dV kV doc pm cdv ct oc an od osl Ng a, HFn K mg x k g pg bg sg dV kV doc pm cdv ct oc an od osl Ng a
  | _, .lam => True
  | lv, .deep r => 2 ≤ lv ∧ r ≠ .lam ∧ ReqOk P w K mg base (lv - 2) r
  | lv, .excD c f => 2 ≤ lv ∧ ∃ C : Addr, mg c = some (.ref C) ∧ Ex1 P K C f ∧ ∃ sem, GlobFn P w K mg base (lv - 2) "copied" sem ∧ ∀ i st, sem [.dat (.int i)] st = .ok (plain (.int i)) st
  | _, .catch c h => CatchOk K mg c h
def Blt.req : Blt → Req
  | .gcd => .bltin "gcd" (.builtin "math.gcd")
  | f => .non f.name
section
variable {X : Cx} {W : WX} {N : List Str} {sc : Scope} {lv : Nat} {x : Str} {e : Expr} {es : List Expr} {σ : L2.St} {H : Hp} {Q : VK} {p pos : Pos}
theorem run_fnG {pins : List (Addr × Obj)} {s : Shared} {us : List Value} {vs : List V} {k : Nat} {f : Addr} {fd : FuncData} {ps : List Str} {sp : Sp} {E : XK} (F : FnG X.prog X.w X.K X.mg X.base k f fd ps sp) (hg : X.A.guards = some []) (hr : Room k X.A)
    (hb : Binds X.K fd ps []) (hx : PassesAt (L2.CX X.prog X.w) X σ E) (I : Inv X pins σ H s) (r : Vals vs us) (h : sp vs H Q E) : wpAny (model X.prog X.w) X.A (call (.ref f) us) (EP X pins σ Q) X.xe s := by
  have hl : us.length = ps.length := r.length.symm.trans (F.len _ _ _ _ h)
  have b := hb s us I.kIn (by simpa using hl)
  simp only [List.append_nil] at b
  refine wpAny_call (codeAny_mono (F.run X.A X.stack s H ⟨us, []⟩ us vs Q E hg hr I.env0 b r h) fun r s' hq => ?_)
  cases r with
  | error u => exact hx pins H s u s' I hq
  | ok fl =>
    cases fl with
    | ret u => exact I.after hq
    | next => exact hq.elim
    | brk => exact hq.elim
    | cont => exact hq.elim
/-- no item of a written list is starred -/
def notStar : Expr → Bool
  | .Starred _ _ => false
  | _ => true
theorem starEach_cons {env : PySem.Env} (h : notStar e = true) : starEach (e :: es) env = (false, eval e env) :: starEach es env := by
  cases e <;> first | rfl | cases h
theorem starEach_any {env : PySem.Env} : ∀ {es : List Expr}, (es.all notStar) = true → ((backTo pos (starEach es env)).any fun x => x.1) = false
  | [], _ => rfl
  | e :: es, h => by
    rw [List.all_cons, Bool.and_eq_true] at h
    rw [starEach_cons h.1]
    show (false || (backTo pos (starEach es env)).any fun x => x.1) = false
    rw [starEach_any h.2]
    rfl
theorem we_call {sem : Fn} (c : CtxOk X W N sc lv) (G : GlobFn X.prog X.w X.K X.mg X.base lv x sem) (hg : isGl sc x = true) (hn : okName x = true) (hs : (e :: es).all notStar = true)
    (h : WA X (e :: es) σ H fun vs H1 => ∃ g vals st, RVals X.K g H1 vs vals ∧ Ok X.K g H1 st ∧ TLs X.K X.mg X.base g.T ∧ Post X.K X.mg (fun cls d H' => W cls d σ H') (relE X.K false) g H1 (sem vals st) Q) : WE X (.Call (.Name x p) (e :: es) [] pos) σ H Q := by
  intro pins s I
  obtain ⟨k, f, fd, ps, hk, hm, kp, hb, F, hl⟩ := G.ex
  refine wpAny_Call_Name_kw (ld_glob I (c.gl hg) hm ?_ (okName_debug hn).1)
  rw [List.all_cons, Bool.and_eq_true] at hs
  refine PySem.W.callWith_K (h₀ := X.base) I.ok.mod.kin kp (thn (h pos pins s I) fun us s1 ⟨vs, H1, I1, r, g, vals, st, rv, ok, tl, q⟩ => ⟨I1.kIn, ?_⟩) (starEach_cons hs.1) (starEach_any hs.2)
  refine run_fnG F c.guards (c.room.mono hk) hb (passAt c.takes σ) I1 r ⟨g, vals, st, rv, ok, ?_, tl, q⟩
  by_cases hv : vals.length = ps.length
  · exact hv
  · rw [hl vals st hv] at q
    exact q.elim
theorem we_call0 {sem : Fn} (c : CtxOk X W N sc lv) (G : GlobFn X.prog X.w X.K X.mg X.base lv x sem) (hg : isGl sc x = true) (hn : okName x = true)
    (h : ∃ g st, Ok X.K g H st ∧ TLs X.K X.mg X.base g.T ∧ Post X.K X.mg (fun cls d H' => W cls d σ H') (relE X.K false) g H (sem [] st) Q) : WE X (.Call (.Name x p) [] [] pos) σ H Q := by
  intro pins s I
  obtain ⟨k, f, fd, ps, hk, hm, kp, hb, F, hl⟩ := G.ex
  refine wpAny_Call_Name_kw (ld_glob I (c.gl hg) hm ?_ (okName_debug hn).1)
  obtain ⟨g, st, ok, tl, q⟩ := h
  refine PySem.W.callWith_K0 I.kIn kp (run_fnG (us := []) F c.guards (c.room.mono hk) hb (passAt c.takes σ) I .nil ⟨g, [], st, .nil, ok, ?_, tl, q⟩)
  by_cases hv : ([] : List Val).length = ps.length
  · exact hv
  · rw [hl [] st hv] at q
    exact q.elim
theorem we_blt {f : Blt} (c : CtxOk X W N sc lv) (hm : ReqOk X.prog X.w X.K X.mg X.base lv f.req) (hg : isGl sc f.name = true) (hs : (e :: es).all notStar = true)
    (h : WA X (e :: es) σ H fun vs H1 => WC X (bltV f) vs H1 Q) : WE X (.Call (.Name f.name p) (e :: es) [] pos) σ H Q := by
  rw [List.all_cons, Bool.and_eq_true] at hs
  cases f
  case gcd => exact WE.of (pe_callBfun (r := wcr X (.builtin "math.gcd")) cr_wc (c.gl hg) hm pa_wa (by decide) (starEach_cons hs.1) (starEach_any hs.2)) h
  case len => exact WE.of (pe_callB (r := wcr X (.builtin "len")) cr_wc (c.gl hg) hm (by decide +kernel) pa_wa (by decide) (by decide) (starEach_cons hs.1) (starEach_any hs.2)) h
  case abs => exact WE.of (pe_callB (r := wcr X (.builtin "abs")) cr_wc (c.gl hg) hm (by decide +kernel) pa_wa (by decide) (by decide) (starEach_cons hs.1) (starEach_any hs.2)) h
  case int => exact WE.of (pe_callTy (r := wcr X (.type "int")) cr_wc (c.gl hg) hm (by decide +kernel) pa_wa (by decide) (by decide) (starEach_cons hs.1) (starEach_any hs.2)) h
  case tuple => exact WE.of (pe_callTy (r := wcr X (.type "tuple")) cr_wc (c.gl hg) hm (by decide +kernel) pa_wa (by decide) (by decide) (starEach_cons hs.1) (starEach_any hs.2)) h
  case list => exact WE.of (pe_callTy (r := wcr X (.type "list")) cr_wc (c.gl hg) hm (by decide +kernel) pa_wa (by decide) (by decide) (starEach_cons hs.1) (starEach_any hs.2)) h
  case sum => exact WE.of (pe_callB (r := wcr X (.builtin "sum")) cr_wc (c.gl hg) hm (by decide +kernel) pa_wa (by decide) (by decide) (starEach_cons hs.1) (starEach_any hs.2)) h
  case min => exact WE.of (pe_callB (r := wcr X (.builtin "min")) cr_wc (c.gl hg) hm (by decide +kernel) pa_wa (by decide) (by decide) (starEach_cons hs.1) (starEach_any hs.2)) h
  case max => exact WE.of (pe_callB (r := wcr X (.builtin "max")) cr_wc (c.gl hg) hm (by decide +kernel) pa_wa (by decide) (by decide) (starEach_cons hs.1) (starEach_any hs.2)) h
  case any => exact WE.of (pe_callB (r := wcr X (.builtin "any")) cr_wc (c.gl hg) hm (by decide +kernel) pa_wa (by decide) (by decide) (starEach_cons hs.1) (starEach_any hs.2)) h
  case all => exact WE.of (pe_callB (r := wcr X (.builtin "all")) cr_wc (c.gl hg) hm (by decide +kernel) pa_wa (by decide) (by decide) (starEach_cons hs.1) (starEach_any hs.2)) h
  case repr => exact WE.of (pe_callB (r := wcr X (.builtin "repr")) cr_wc (c.gl hg) hm (by decide +kernel) pa_wa (by decide) (by decide) (starEach_cons hs.1) (starEach_any hs.2)) h
  case sorted => exact WE.of (pe_callB (r := wcr X (.builtin "sorted")) cr_wc (c.gl hg) hm (by decide +kernel) pa_wa (by decide) (by decide) (starEach_cons hs.1) (starEach_any hs.2)) h
  case str => exact WE.of (pe_callTy (r := wcr X (.type "str")) cr_wc (c.gl hg) hm (by decide +kernel) pa_wa (by decide) (by decide) (starEach_cons hs.1) (starEach_any hs.2)) h
/-- a starred item of a display -/
theorem wa_star {Q : List V → Hp → Prop} (h : WE X e σ H fun x H1 => ∃ g d ds, RT X.K g H1 x d ∧ seqOf d = some ds ∧ (∀ vs', RDs X.K g.Z H1 vs' ds → WA X es σ H1 fun us H2 => Q (vs' ++ us) H2)) :
    WA X (.Starred e p :: es) σ H Q := by
  intro pos pins s I
  refine PySem.W.items_star (thn (h pins s I) fun v s1 ⟨x, H1, I1, r1, g, d, ds, rt, e1, q⟩ => ?_)
  obtain ⟨a, vs, rfl, sq, rv⟩ := rt.seq e1
  cases r1
  have fin : ∀ {T : String} {o : Obj} {its : List Value} {n : Nat}, (T = "list" ∨ T = "tuple") → s1.heap.get? a = some o → o.cls = .type T → o.data = .seq its.toArray n → its.length ≤ sizeLine → Vals vs its →
      wpAny (model X.prog X.w) X.A (collect (.ref a)) (fun here s₂ => wpAny (model X.prog X.w) X.A (spliced (backTo pos (starEach es X.env))) (fun us s₃ => AP X pins σ Q (here ++ us) s₃) X.xe s₂) X.xe s1 := by
    intro T o its n hT ho hc hd hz rr
    refine wpAny_collect_seq a hT ho hc hd (fun h' hk => ?_) (by simpa using hz)
    refine thn (q vs rv pos pins _ (I1.kept (t' := s1.toks) hk)) fun us s3 ⟨ws, H3, I3, r3, q3⟩ => ?_
    exact ⟨vs ++ ws, H3, I3, by simpa using rr.append r3, q3⟩
  unfold PySem.W.StarOf
  unfold notIterableAtAll
  rcases sq with sq | sq
  · obtain ⟨its, rr, ⟨o, n, ho, hc, _, hd⟩, hz⟩ := I1.list sq
    have hl := rr.length
    exact wpAny_bind (wpAny_specialOf ⟨o, ho, hc⟩ PySem.F.slot_list_iter.lookup (wpAny_pure ⟨rfl, fin (.inl rfl) ho hc hd (by omega) rr⟩))
  · obtain ⟨its, rr, ⟨o, ho, hc, n, hd⟩, hz⟩ := I1.tuple sq
    have hl := rr.length
    exact wpAny_bind (wpAny_specialOf ⟨o, ho, hc⟩ PySem.F.slot_tuple_iter.lookup (wpAny_pure ⟨rfl, fin (.inr rfl) ho hc hd (by omega) rr⟩))
end
end MP
/-! Errors that bear a number: made. -/
namespace MP
open PySem PySem.W PySem.Calls PyProof.Rows L2 PySem.Spec
theorem Ex1.oex {P : Program} {K : PySem.W.Frag} {C : Addr} {f : Str} (T : Ex1 P K C f) : OexC K C := by
  obtain ⟨nm, q, N, bs, bm, sn, sub, ab, col, dd, k0, k1, k2, k3, k5, hC, hbm⟩ := T.cls
  exact ⟨⟨nm, q, N, bs, bm, sn, sub, ab, col, dd, k0, k1, k2, k3, k5, hC, hbm⟩, T.sa, T.exC, T.tyC, T.kC⟩
theorem guards_make {A : Around} {C : Addr} {us : List Value} (h : A.guards = some []) : (A.under (.builtin "type.__call__" ⟨.ref C :: us, []⟩)).guards = some [] := by
  first | exact h | (simpa [Around.under, Code.guards, Code.isGuard, Code.isFrame, pushGuards] using h)
theorem rval_holds {K : PySem.W.Frag} {g : G} {H H' : Hp} (h : Holds g.Z g.Z H H') : ∀ {v : V} {x : Val}, RVal K g H v x → RVal K g H' v x
  | _, .dat _, r => RD.holds h r
  | _, .loc _, r => r
theorem rkv_holds {K : PySem.W.Frag} {g : G} {H H' : Hp} (h : Holds g.Z g.Z H H') : ∀ {vs : List (Key × V)} {xs : List (Str × Val)}, RKV K g H vs xs → RKV K g H' vs xs
  | _, _, .nil => .nil
  | _, _, .cons r t => .cons (rval_holds h r) (rkv_holds h t)
/-- what stands behind the call of the class -/
theorem step_made {K : PySem.W.Frag} {g g' : G} {H1 H' : Hp} {st : Store} {a dx C : Addr} {f : Str} {i : Int} (ok : Ok K g H1 st) (na : H1 a = none) (s : Step g (upd H1 a (exo a C none)) g' H') (o : Ok K g' H' st)
    (ea : H' a = some (exo a C none)) (hc : ∀ q, H' a ≠ some (LamX.CodeO a q)) (nd : H' dx = none) (hda : dx ≠ a) :
    Step g H1 g' (upd (del H' a) dx (.xd [(f, .int i)])) ∧ Ok K g' (upd (del H' a) dx (.xd [(f, .int i)])) st := by
  have back : ∀ b, (upd H1 a (exo a C none)) b = none → H1 b = none := fun b e => by
    by_cases hb : b = a
    · rw [hb]; exact na
    · rw [upd_ne hb] at e; exact e
  have nz : ¬ g'.Z a := fun z => by
    rcases s.zn a z with q | q
    · exact ok.zs a q na
    · rw [upd_same] at q; cases q
  have at_ : ∀ b, b ≠ a → b ≠ dx → (upd (del H' a) dx (.xd [(f, .int i)])) b = H' b := fun b h1 h2 => by rw [upd_ne h2, del_ne h1]
  have notA : ∀ b u, H' b = some u → (∀ C', u ≠ exo a C' none) → b ≠ a := fun b u e n z => by
    rw [z, ea] at e
    exact n C (Option.some.inj e).symm
  have st1 : Step g H1 g' (upd (del H' a) dx (.xd [(f, .int i)])) := by
    refine ⟨s.z, fun b z => (s.zn b z).imp id (back b), ?_, fun b o e n nt => ?_, fun b e => ?_, s.t⟩
    · obtain ⟨more, e, h⟩ := s.r
      exact ⟨more, e, fun b hb => back b (h b hb)⟩
    · have hb : b ≠ a := ne_of_none e na
      have q := s.keep b o (by rw [upd_ne hb]; exact e) n nt
      rw [at_ b hb (ne_of_none q nd)]
      exact q
    · by_cases hb : b = a
      · rw [hb]; exact na
      · by_cases hb2 : b = dx
        · rw [hb2, upd_same] at e; cases e
        · rw [at_ b hb hb2] at e
          exact back b (s.gone b e)
  refine ⟨st1, ⟨o.zr, fun b z e => ?_, o.len, o.nd, fun n b c e1 e2 => ?_, fun p hp => ?_⟩⟩
  · have hb : b ≠ a := fun h => nz (h ▸ z)
    by_cases hb2 : b = dx
    · rw [hb2, upd_same] at e; cases e
    · rw [at_ b hb hb2] at e
      exact o.zs b z e
  · have q := o.cell n b c e1 e2
    have hh : Holds g'.Z g'.Z H' (upd (del H' a) dx (.xd [(f, .int i)])) := by
      refine ⟨fun b xs h => ?_, fun _ z => z, fun b u z nt h => ?_⟩
      · rcases h with h | ⟨ob, h⟩
        · refine .inl ?_
          rw [at_ b (at_ne ea h exo_tup) (ne_of_none h nd)]; exact h
        · refine .inr ⟨ob, ?_⟩
          rw [at_ b (at_ne ea h exo_frz) (ne_of_none h nd)]; exact h
      · have hb : b ≠ a := fun h => nz (h ▸ z)
        rcases h with h | ⟨ob, h⟩
        · refine .inl ?_
          rw [at_ b hb (ne_of_none h nd)]; exact h
        · refine .inr ⟨ob, ?_⟩
          rw [at_ b hb (ne_of_none h nd)]; exact h
    cases c with
    | lst xs =>
      obtain ⟨vs, e, r⟩ := q
      refine ⟨vs, ?_, RDs.holds hh r⟩
      rw [at_ b (notA b _ e fun C' z => by have z' : HO.lst vs = HO.ext _ := z; cases z') (ne_of_none e nd)]
      exact e
    | dic kvs =>
      obtain ⟨kv, e, r⟩ := q
      refine ⟨kv, ?_, ?_⟩
      · rw [at_ b (notA b _ e fun C' z => by have z' : HO.dK kv = HO.ext _ := z; cases z') (ne_of_none e nd)]
        exact e
      · exact rkv_holds hh r
  · obtain ⟨ps, e1, e2, e3⟩ := o.tb p hp
    refine ⟨ps, ?_, e2, fun pos cv hcv => ?_⟩
    · rw [at_ _ (at_ne ea e1 exo_tbl) (ne_of_none e1 nd)]; exact e1
    · obtain ⟨c, e4, e5⟩ := e3 pos cv hcv
      refine ⟨c, e4, ?_⟩
      have hca : c ≠ a := fun z => hc p.2 (by rw [z] at e5; exact e5)
      rw [at_ _ hca (ne_of_none e5 nd)]; exact e5
/-- self.f = copied(p), in an __init__ -/
theorem copy_stmt {Xc : L2.Cx} {C a : Addr} {f pn : Str} {lv : Nat} {sem : Fn} {i : Int} {g : G} {st : Store} {σ0 : L2.St} {H2 : Hp} {s : Shared} {q1 q2 q3 q4 q5 q6 : Pos} (T : OexC Xc.K C) (hno : PySem.W.findIn Xc.K (.ref C) f = some none)
    (Gc : GlobFn Xc.prog Xc.w Xc.K Xc.mg Xc.base lv "copied" sem) (hsem : ∀ i st, sem [.dat (.int i)] st = .ok (plain (.int i)) st) (hr : Room lv Xc.A) (hgd : Xc.A.guards = some []) (gl : Gl Xc "copied")
    (N0 : Xc.N[0]? = some ("self" : Str)) (N1 : Xc.N[1]? = some pn) (v0 : Vis Xc.env.scope "self") (v1 : Vis Xc.env.scope pn) (d1 : (pn == ("__debug__" : Str)) = false) (d2 : (pn == ("__classdict__" : Str)) = false)
    (h0 : σ0[0]? = some (some (.ref a))) (h1 : σ0[1]? = some (some (.int i))) (J : L2.Inv Xc [] σ0 H2 s) (ea : H2 a = some (exo a C none)) (nr : a ∉ g.rho) (ok : Ok Xc.K g H2 st) (tl : TLs Xc.K Xc.mg Xc.base g.T) :
    wpAny (model Xc.prog Xc.w) Xc.A (execs [.Assign [.Attribute (.Name "self" q1) f q2] (.Call (.Name "copied" q3) [.Name pn q4] [] q5) q6] Xc.env)
      (fun fl s' => fl = .next ∧ ∃ g' H' dx σ', Step g H2 g' H' ∧ Ok Xc.K g' H' st ∧ (∀ q, H' a ≠ some (LamX.CodeO a q)) ∧ H' a = some (exo a C none) ∧ H' dx = none ∧ dx ≠ a ∧ L2.Inv Xc [] σ' (upd (upd H' dx (exd dx [(f, .int i)])) a (exo a C (some dx))) s') (fun _ _ => False) s := by
  have okX := J.ok
  have J0 := J.toTry (fun _ _ => False)
  obtain ⟨k, fc, fd, ps, hk, hm, kp, hb, F, hlen⟩ := Gc.ex
  have hl : ps.length = 1 := by
    by_cases h : ([Val.dat (.int i)] : List Val).length = ps.length
    · exact h.symm
    · have := hlen _ st h
      rw [hsem] at this
      cases this
  have hcop : WE (Xc.tr (Xc.pn ++ []) fun _ _ => False) (.Call (.Name "copied" q3) [.Name pn q4] [] q5) σ0 H2 (fun v H' => v = .int i ∧ ∃ g', Step g H2 g' H' ∧ Ok Xc.K g' H' st ∧ ∀ q, H' a ≠ some (LamX.CodeO a q)) := by
    intro pins s1 I
    have hargs : WA (Xc.tr (Xc.pn ++ []) fun _ _ => False) [Expr.Name pn q4] σ0 H2 (fun vs H' => vs = [V.int i] ∧ H' = H2) := WA.of (pa_cons (pe_var (i := 1) (pos := q4) N1 v1 d1 d2) pa_nil (starEach_cons rfl)) ⟨V.int i, h1, rfl, rfl⟩
    refine wpAny_Call_Name_kw (ld_glob I gl hm ?_ (by decide))
    refine PySem.W.callWith_K (h₀ := Xc.base) I.ok.mod.kin kp (thn (hargs q5 pins s1 I) fun us s2 ⟨vs, H3, I3, r3, e1, e2⟩ => ⟨I3.kIn, ?_⟩) (starEach_cons rfl) rfl
    subst e1
    subst e2
    refine thn (run_fnG (Q := fun v H' => v = .int i ∧ ∃ g', Step g H3 g' H' ∧ Ok Xc.K g' H' st) (E := fun _ _ _ => False) F hgd (hr.mono hk) hb (fun pins H s e s' I c => ?_) I3 r3 ⟨g, [.dat (.int i)], st, .cons (.int i) .nil, ok, hl.symm, tl, ?_⟩) fun v s4 ⟨v4, H4, I4, r4, e4, g', s', o'⟩ => ⟨v4, H4, I4, r4, e4, g', s', o', fun q z => ?_⟩
    · obtain ⟨_, _, _, _, _, _, _, _, _, _, _, _, no⟩ := c
      exact no.elim
    · rw [hsem]
      intro g' v H' s o r
      have r : RD Xc.K g'.Z H' v (.int i) := r
      cases r
      exact ⟨rfl, g', s, o⟩
    · have keep := s'.keep a _ ea nr (fun _ => exo_tbl)
      have x := I4.hok a _ z
      obtain ⟨t1, y⟩ := exo_at I4.hok keep
      have x : ObjOk Xc.prog Xc.w H4 s4.heap a (.ext fun h => ∃ (oc : Obj) (vs : Array Value) (t : Tok), h.get? a = some oc ∧ oc.data = .fields vs ∧ vs[1]? = some (.str q t)) := x
      obtain ⟨oc, vs, t, x1, x2, x3⟩ := x.1
      rw [y] at x1
      cases x1
      cases x2
      cases x3
  have P := ps_ost (X := Xc.tr (Xc.pn ++ []) fun _ _ => False) (f := f) (p' := q2) (pos := q6) (pe_var (i := 0) (pos := q1) N0 v0 (by decide) (by decide)) (pe_we (e := .Call (.Name "copied" q3) [.Name pn q4] [] q5))
  refine wpAny_mono ((pss_one P).run [] s σ0 H2 { nx := fun σ' H4 => ∃ g' H' dx, H4 = upd (upd H' dx (exd dx [(f, .int i)])) a (exo a C (some dx)) ∧ Step g H2 g' H' ∧ Ok Xc.K g' H' st ∧ (∀ q, H' a ≠ some (LamX.CodeO a q)) ∧ H' a = some (exo a C none) ∧ H' dx = none ∧ dx ≠ a, rt := fun _ _ => False } J0 ?_) (fun fl s' hs => ?_) fun _ _ x => x
  · refine hcop.mono fun v H' ⟨e, g', s', o', hc⟩ => ?_
    subst e
    have keep := s'.keep a _ ea nr (fun _ => exo_tbl)
    exact ⟨_, h0, a, C, rfl, T, hno, .inl ⟨keep, fun dx n ne => ⟨g', H', dx, rfl, s', o', hc, keep, n, ne⟩⟩⟩
  · cases fl with
    | next =>
      obtain ⟨σ', H4, J4, g', H', dx, rfl, a1, a2, a3, a4, a5, a6⟩ := hs
      exact ⟨rfl, g', H', dx, σ', a1, a2, a3, a4, a5, a6, J4.ofTry okX⟩
    | ret u =>
      obtain ⟨_, _, _, _, _, q⟩ := hs
      exact q.elim
    | brk =>
      obtain ⟨_, _, _, q⟩ := hs
      exact q.elim
    | cont =>
      obtain ⟨_, _, _, q⟩ := hs
      exact q.elim
section
variable {X : L2.Cx} {C : Addr} {x f : Str} {e : Expr} {lv : Nat} {sem : Fn} {p pos : Pos}
theorem pmk1 (T : Ex1 X.prog X.K C f) (gC : X.mg x = some (.ref C)) (Gc : GlobFn X.prog X.w X.K X.mg X.base lv "copied" sem) (hsem : ∀ i st, sem [.dat (.int i)] st = .ok (plain (.int i)) st)
    (hr : Room (lv + 2) X.A) (hgd : X.A.guards = some []) (hg : Gl X x) (hd : (x == ("__debug__" : Str)) = false) (hs : notStar e = true) :
    PMk X (.Call (.Name x p) [e] [] pos) (fun σ H Q => WE X e σ H fun v H1 => ∃ i g st, v = .int i ∧ Ok X.K g H1 st ∧ TLs X.K X.mg X.base g.T ∧ ∀ g' H2 dx, Step g H1 g' H2 → Ok X.K g' H2 st → H2 dx = some (.xd [(f, .int i)]) → Q (.ref C) (some dx) H2) := by
  intro pins s σ H Q I h
  have T' := T.oex
  obtain ⟨nm, q, N, bs, bm, sn, sub, ab, col, dd, k0, k1, k2, k3, k5, hC, hbm⟩ := T.cls
  obtain ⟨fI, cda, cc, oc, ccl, cl, dV, kV, doc, pm, ct, od, cdd, cld, an, osl, ccs, csl, vs, file, tf, qual, pn, args, body, scope, f1, f2, f3, f4, f5, f6, f7, f8, f9, f10, f11, f12⟩ := T.fn
  refine wpAny_Call_Name_kw (ld_glob I hg gC ?_ hd)
  have hA : WA X [e] σ H (fun vs H1 => ∃ i g st, vs = [V.int i] ∧ Ok X.K g H1 st ∧ TLs X.K X.mg X.base g.T ∧ ∀ g' H2 dx, Step g H1 g' H2 → Ok X.K g' H2 st → H2 dx = some (.xd [(f, .int i)]) → Q (.ref C) (some dx) H2) :=
    WA.of (pa_cons (pe_we (e := e)) pa_nil (starEach_cons hs)) (h.mono fun v H1 ⟨i, g, st, e1, r⟩ => ⟨i, g, st, by rw [e1], r⟩)
  refine PySem.W.callWith_K (h₀ := X.base) I.ok.mod.kin T'.kC (thn (hA pos pins s I) fun us s1 ⟨vs1, H1, I1, r1, i, g, st, ev, ok, tl, q1⟩ => ⟨I1.kIn, ?_⟩) (starEach_cons hs) rfl
  subst ev
  show wpAny _ _ (call (.ref C) us) _ _ _
  obtain ⟨u, rfl, ru⟩ : ∃ u, us = [u] ∧ RelV (.int i) u := by
    cases r1 with
    | cons a b => cases b; exact ⟨_, rfl, a⟩
  obtain ⟨hp, gs, dr, tk, os⟩ := s1
  have hsz : hp.objs.size ≤ hp.objs.size + 1 := Nat.le_succ _
  generalize ha : hp.objs.size + 1 = a at hsz
  have na : H1 a = none := I1.hok.fresh hsz
  have kk : ∀ b o, hp.get? b = some o → ((hp.push (PySem.W.kdv_tup [u])).push (PySem.HandSPX.excO C hp.objs.size)).get? b = some o := fun b o e => Heap.get?_push_of_some _ (Heap.get?_push_of_some _ e)
  have hget : ((hp.push (PySem.W.kdv_tup [u])).push (PySem.HandSPX.excO C hp.objs.size)).get? a = some (PySem.HandSPX.excO C hp.objs.size) := by rw [← ha]; heap_get
  have I2 : Inv X pins σ (upd H1 a (exo a C none)) ⟨(hp.push (PySem.W.kdv_tup [u])).push (PySem.HandSPX.excO C hp.objs.size), gs, dr, tk, os⟩ := I1.laid (t' := tk) (a := a) (o := exo a C none) (h' := (hp.push (PySem.W.kdv_tup [u])).push (PySem.HandSPX.excO C hp.objs.size)) kk hsz (exo_ok hget)
  have hne : X.base.get? a = none := by
    cases z : X.base.get? a with
    | none => rfl
    | some o => exact absurd (Heap.lt_size (I1.bk _ _ z)) (Nat.not_lt.mpr hsz)
  refine wpAny_call (PySem.HandSPX.call_own F.excBase_ValueError (fun Y => PySem.HandSPX.refsVE_contains Y bm hbm) (I1.kIn _ _ hC) (PySem.W.looks_findIn I1.kIn f1) (fun self => PySem.W.bind_fn I1.kIn self f2) (by rw [sizeLine_eq]; exact (by decide : 1 ≤ 16777216)) ?_)
  rw [ha]
  generalize hh2 : (hp.push (PySem.W.kdv_tup [u])).push (PySem.HandSPX.excO C hp.objs.size) = hp2 at kk hget I2
  have KX2 : X.K.In hp2 := I2.kIn
  have hlim : hp2.NoLimit := I2.nolimit
  simp only [init1S, init0S, Bool.and_eq_true, beq_iff_eq, Bool.not_eq_true'] at f11
  obtain ⟨⟨⟨⟨⟨⟨⟨⟨s1, s2⟩, s3⟩, s4⟩, s5⟩, s6⟩, s7⟩, s8⟩, s9⟩ := f11
  have NS := NdefX.nscope_by s8
  obtain ⟨p0, p1, p2, p3, p4, p5, j, msg, q1', q2', q3', q4', q5', q6', rfl, hline, hpn1, hpn2⟩ : ∃ p0 p1 p2 p3 p4 p5 j msg q1' q2' q3' q4' q5' q6', body = [.Expr (.Call (.Attribute (.Call (.Name "super" p0) [] [] p1) "__init__" p2) [.Constant (.str msg) j p3] [] p4) p5, .Assign [.Attribute (.Name "self" q1') f q2'] (.Call (.Name "copied" q3') [.Name pn q4'] [] q5') q6'] ∧ (p2.endLine == p4.line) = true ∧ (pn == ("__debug__" : Str)) = false ∧ (pn == ("__classdict__" : Str)) = false := by
    unfold init1B at f9
    split at f9
    · simp only [Bool.and_eq_true, beq_iff_eq, Bool.not_eq_true'] at f9
      obtain ⟨⟨⟨⟨⟨⟨⟨⟨rfl, rfl⟩, g1⟩, rfl⟩, rfl⟩, rfl⟩, rfl⟩, g2⟩, g3⟩ := f9
      exact ⟨_, _, _, _, _, _, _, _, _, _, _, _, _, _, rfl, beq_iff_eq.mpr g1, g2, g3⟩
    · cases f9
  obtain ⟨ar, ar2, haa, han, han2, hpos⟩ : ∃ ar ar2, args.args = [ar, ar2] ∧ ar.arg = "self" ∧ ar2.arg = pn ∧ args.posonlyargs = [] := by
    unfold init1A at f10
    obtain ⟨g1, g2⟩ := Bool.and_eq_true_iff.mp f10
    split at g1
    · rename_i b c e
      simp only [Bool.and_eq_true, beq_iff_eq] at g1
      exact ⟨b, c, e, g1.1, g1.2, by simpa using g2⟩
    · cases g1
  have hpa : (args.posonlyargs ++ args.args).head? = some ar := by rw [haa, hpos]; rfl
  have s7' : ∀ x ∈ scope.names, x.2 ≠ .cell := fun x hx => by
    have := List.all_eq_true.mp s7 x hx
    simpa using this
  have s10 : scope.names.lookup pn = some .local := NS.par pn (by simp)
  have loc : ∀ y ∈ [(("self" : Str), Value.ref a), (pn, u)], scope.names.lookup y.1 = some .local := fun y hy => by
    rcases List.mem_cons.mp hy with e | hy
    · subst e; exact s1
    · have := List.mem_singleton.mp hy
      subst this
      exact s10
  refine ks_codeAny_call_defAt (s := ⟨hp2, gs, dr, tk, os⟩) (fd := ksFn "__init__" qual args _ scope dV kV doc pm an (.ref cda) ct cc) (binds := [("self", .ref a), (pn, u)]) (by rw [make_depth]; have := hr.dp; omega) (KX2 _ _ f3) rfl hlim (codeRec_of KX2 f4) rfl (f12 _ _ _) s7' loc (fun h1 hns hk1 => ?_) s6 s5 s4
  have X0 : X.K.In (hideAll hp2 [a]) := fun b o z => hideAll_get [a] (KX2 _ _ z) fun y => by
    have y := List.mem_singleton.mp y
    subst y
    have := I2.ok.mod.kin _ _ z
    rw [show X.base.get? b = none from hne] at this
    cases this
  have F0 : Fr (hideAll hp2 [a]) hp2.objs.size h1 (fun x => [(("self" : Str), Value.ref a), (pn, u)].reverse.lookup x) := ⟨hns, fun b o z => hk1 b o (of_hideAll _ z), Nat.le_of_eq (hideAll_size _ _)⟩
  have N0 : News (hideAll hp2 [a]) hp2.objs.size h1 [(a, excObj C hp.objs.size none .none)] := fun p hp => by
    have hp := List.mem_singleton.mp hp
    subst hp
    exact ⟨hk1 _ _ hget, Nat.ne_of_lt (Heap.lt_size hget), hideAll_none _ List.mem_cons_self⟩
  have hkeep : ∀ b o, X.base.get? b = some o → (hideAll hp2 [a]).get? b = some o := fun b o z => hideAll_get [a] (I2.bk b o z) fun y => by
    have y := List.mem_singleton.mp y
    subst y
    rw [hne] at z
    cases z
  have glob : (hideAll hp2 [a]).Ns mainGlobals X.mg := I2.ok.mod.glob.keeps hkeep
  obtain ⟨mb, blt, bval⟩ := I2.ok.mod.blt
  have blt' : (hideAll hp2 [a]).Ns builtinsNs mb := blt.keeps hkeep
  have hself : [(("self" : Str), Value.ref a), (pn, u)].reverse.lookup ("self" : Str) = some (Value.ref a) := by
    have nd := NS.nd
    have e : (("self" : Str) == pn) = false := by
      simp only [List.nodup_cons, List.mem_cons, not_or] at nd
      exact beq_eq_false_iff_ne.mpr nd.1.1
    show [(pn, u), (("self" : Str), Value.ref a)].lookup ("self" : Str) = _
    rw [List.lookup_cons, e, List.lookup_cons_self]
  refine init0_body T.toExB F0 X0 N0 glob blt' bval f3 hpa (by rw [han]; exact hself) f5 f6 f7 f8 s2 s3 (by rw [han]; exact s1) s4 hline fun h3 tk3 t1 F4 g4 => ?_
  -- the rest of the body, at a state that has the exception as it is now
  have exA : excObj C t1 none .none = PySem.HandSPX.excO C t1 := rfl
  generalize hG : hp2.update a (fun _ => PySem.HandSPX.excO C t1) = G
  have Gne : ∀ b, b ≠ a → G.get? b = hp2.get? b := fun b hb => by rw [← hG]; exact Heap.get?_update_ne _ _ _ _ hb
  have Ga : G.get? a = some (PySem.HandSPX.excO C t1) := by rw [← hG]; exact Heap.get?_update_self _ hget rfl
  have Gsz : G.objs.size = hp2.objs.size := by rw [← hG]; exact Heap.size_update _ _ _
  have euu : upd (upd H1 a (exo a C none)) a (exo a C none) = upd H1 a (exo a C none) := by
    funext b
    by_cases hb : b = a
    · rw [hb, upd_same, upd_same]
    · rw [upd_ne hb]
  have J2 : Inv X pins σ (upd H1 a (exo a C none)) ⟨G, gs, dr, tk, os⟩ := by
    have J := I2.write (t' := tk) (x := a) (e := a) (h' := G) (o := exo a C none) (by rw [upd_same]; exact True.intro) (.inl rfl) (fun b o hb e => by rw [Gne b hb]; exact e) ⟨_, Ga⟩ (exo_ok Ga)
    rw [euu] at J
    exact J
  have hrm := hr.make C [u] []
  have e0 := J2.env0.make C [u] []
  let F : NdefX.NF := ⟨"__init__", qual, args, [.Expr (.Call (.Attribute (.Call (.Name "super" p0) [] [] p1) "__init__" p2) [.Constant (.str msg) j p3] [] p4) p5, .Assign [.Attribute (.Name "self" q1') f q2'] (.Call (.Name "copied" q3') [.Name pn q4'] [] q5') q6'], scope, [("__class__", cc)], cda⟩
  have ccB : hp2.get? cc = some ⟨cl, cld, .cell (some (.ref C)), csl⟩ := KX2 _ _ f8
  have cca : cc ≠ a := fun z => by
    have := I2.ok.mod.kin _ _ f8
    rw [z, hne] at this
    cases this
  have CA : NdefX.CellsAt F.cl ["__class__"] [some (V.ref C)] G (upd H1 a (exo a C none)) := by
    have one : ∀ y c, F.cl.lookup y = some c → y = "__class__" ∧ c = cc := fun y c e => by
      have e : [(("__class__" : Str), cc)].lookup y = some c := e
      rw [List.lookup_cons] at e
      split at e
      · rename_i h
        exact ⟨by simpa using h, (Option.some.inj e).symm⟩
      · cases e
    have cell : G.IsCell cc (some (.ref C)) := ⟨_, by rw [Gne cc cca]; exact ccB, rfl⟩
    refine ⟨rfl, fun y c e => ?_, fun y z c e1 e2 => ?_, fun k y e => ?_⟩
    · obtain ⟨_, rfl⟩ := one y c e
      refine ⟨?_, _, cell⟩
      rw [upd_ne cca]
      exact (I1.env0.bs _ _ (I1.ok.mod.kin _ _ f8)).2
    · rw [(one y c e1).1, (one z c e2).1]
    · match k, e with
      | 0, e =>
        cases Option.some.inj e
        refine ⟨cc, List.lookup_cons_self, fun v hv => ?_⟩
        cases Option.some.inj (Option.some.inj hv)
        exact ⟨.ref C, rfl, cell⟩
      | k + 1, e => cases e
  have rv2 : Vals [V.ref a, V.int i] [Value.ref a, u] := .cons rfl (.cons ru .nil)
  have Jc : Inv (NdefX.ncx (L2.CX X.prog X.w) X.prog X.w X.K X.mg X.base ["self", pn, "__class__"] F fI _ X.stack ⟨G, gs, dr, tk, os⟩ (upd H1 a (exo a C none)) (fun _ _ _ => False)) [] (NdefX.startF ["self", pn, "__class__"] [V.ref a, V.int i] [some (V.ref C)]) (upd H1 a (exo a C none)) ⟨h3, gs, dr, tk3, os⟩ :=
    NdefX.inv_startN (tk := tk3) (ps := ["self", pn]) (us := [Value.ref a, u]) NS hrm.hd e0 rfl rv2 CA (by rw [show (⟨G, gs, dr, tk, os⟩ : Shared).heap.objs.size = hp2.objs.size from Gsz]; exact F4.ns) (fun b o e => by
      by_cases hb : b = a
      · rw [hb] at e ⊢
        have e : G.get? a = some o := e
        rw [Ga] at e
        cases e
        exact g4
      · have e : G.get? b = some o := e
        rw [Gne b hb] at e
        exact F4.keep b o (hideAll_get [a] e fun y => hb (List.mem_singleton.mp y)))
  have hfin := copy_stmt (Xc := NdefX.ncx (L2.CX X.prog X.w) X.prog X.w X.K X.mg X.base ["self", pn, "__class__"] F fI (X.A.under (.builtin "type.__call__" ⟨.ref C :: [u], []⟩)) X.stack ⟨G, gs, dr, tk, os⟩ (upd H1 a (exo a C none)) (fun _ _ _ => False)) (q1 := q1') (q2 := q2') (q3 := q3') (q4 := q4') (q5 := q5') (q6 := q6') (i := i) (g := g) (st := st) T' T.hno Gc hsem (hrm.deeper _ : Room lv _) (guards_make (C := C) (us := [u]) hgd) s9 rfl rfl (.inl s1) (.inl s10) hpn1 hpn2 rfl rfl Jc upd_same (ok.notIn na) (ok.new na) tl
  have hL : hp2.objs.size = G.objs.size := Gsz.symm
  show wpAny (model X.prog X.w) ((X.A.under (.builtin "type.__call__" ⟨.ref C :: [u], []⟩)).deeper (ksEnv qual scope hp2.objs.size fI (.ref cda) cc)) (execs _ (ksEnv qual scope hp2.objs.size fI (.ref cda) cc)) _ _ ⟨h3, gs, dr, tk3, os⟩
  refine wpAny_mono (Q := fun fl s' => fl = .next ∧ ∃ g' H' dx σ', Step g (upd H1 a (exo a C none)) g' H' ∧ Ok X.K g' H' st ∧ (∀ q, H' a ≠ some (LamX.CodeO a q)) ∧ H' a = some (exo a C none) ∧ H' dx = none ∧ dx ≠ a ∧ L2.Inv (NdefX.ncx (L2.CX X.prog X.w) X.prog X.w X.K X.mg X.base ["self", pn, "__class__"] F fI (X.A.under (.builtin "type.__call__" ⟨.ref C :: [u], []⟩)) X.stack ⟨G, gs, dr, tk, os⟩ (upd H1 a (exo a C none)) (fun _ _ _ => False)) [] σ' (upd (upd H' dx (exd dx [(f, .int i)])) a (exo a C (some dx))) s') (E := fun _ _ => False)
    (by rw [hL]; exact hfin) (fun fl s' ⟨efl, g', H', dx, σ', a1, a2, a3, a4, a5, a6, J4⟩ => ?_) fun _ _ z => z.elim
  subst efl
  obtain ⟨b1, b2⟩ := step_made (dx := dx) (f := f) (i := i) ok na a1 a2 a4 a3 a5 a6
  obtain ⟨hp4, gs4, dr4, tk4, os4⟩ := s'
  have ed1 : H1 dx = none := by
    have := a1.gone dx a5
    rw [upd_ne a6] at this
    exact this
  refine ⟨rfl, mk_end (raises_own T.exC T.tyC) I1 hsz (fun b o e => (Gne b (Nat.ne_of_lt (Nat.lt_of_lt_of_le (Heap.lt_size e) hsz))).trans (kk b o e)) J4.base J4.hok J4.os J4.bare upd_same (by rw [upd_ne a6]; exact upd_same) ed1 ?_⟩
  have eq : upd (del (upd (upd H' dx (exd dx [(f, .int i)])) a (exo a C (some dx))) a) dx (.xd [(f, .int i)]) = upd (del H' a) dx (.xd [(f, .int i)]) := by
    funext b
    by_cases h1 : b = dx
    · rw [h1, upd_same, upd_same]
    · rw [upd_ne h1, upd_ne h1]
      by_cases h2 : b = a
      · rw [h2, del_same, del_same]
      · rw [del_ne h2, del_ne h2, upd_ne h2, upd_ne h1]
  rw [eq]
  exact q1 g' _ dx b1 b2 upd_same
end
end MP
/-! A clause that catches an error: its answer; a def that calls what it got. -/
namespace PySem.W
open PySem PySem.Spec PySem.Calls PyProof.Rows
section
variable {prog : Program} {w : World} {A : Around} {E : Value → Shared → Prop} {s : Shared} {K : Frag} {x D : Addr} {ox : Obj} {od : Option Obj}
theorem mpx_find (hc : (clsIn K D).isSome = true) {a g : Value} {name : Str} (ha : findIn K (.ref D) name = some (some a)) (hg : specialIn K a "__get__" = some (some g)) (ht : takesIn K a = some true) : findObj K D od name = some (.bind g a) := by
  obtain ⟨cd, hc⟩ := Option.isSome_iff_exists.mp hc
  unfold findObj
  rw [hc, Option.bind_some, ha, Option.bind_some]
  simp [hg, ht]
/-- the class that an error says it has, whatever dict it has -/
theorem mpx_class {Q : Option Value → Shared → Prop} (C : L2.ExcC K D) (X : K.In s.heap) (I : InstAt s.heap x ox D od) (h : Q (some (.ref D)) { s with toks := s.toks + 1 }) : wpAny (model prog w) A (getAttr? (.ref x) "__class__") Q E s := by
  have hf : findObj K D od "__class__" = some (.bind (.builtin "getset_descriptor.__get__") (.builtin "object.__class__")) := mpx_find (by obtain ⟨cd, hc, _⟩ := any_some C.hd; rw [hc]; rfl) C.ha C.hn C.ht
  obtain ⟨hp, g, d, t, os⟩ := s
  have L0 := I.type (M := model prog w)
  have L1 := looks_findIn (M := model prog w) X C.hg
  have L2 := looks_findIn (M := model prog w) X C.hk
  have L3 := looks_find (M := model prog w) X I hf
  have sub : Looks (model prog w) hp (isInstance (.ref x) (.type "BaseException")) true := L0.andThen (looks_subIn X C.hs)
  have ne : (Value.builtin "BaseException.__getattribute__" == Value.builtin "object.__getattribute__") = false := by decide +kernel
  have hx1 : (onTheHeap (Value.ref D) && Value.builtin "BaseException.__getattribute__" == Value.builtin "object.__getattribute__") = false := by rw [ne]; rfl
  unfold getAttr? getAttrBy? getAttrBy
  refine wpAny_bind (wpAny_mkText (wpAny_bind (wpAny_attempt (wpAny_holding (wpAny_bind (L0.at (wpAny_bind (L1.at ?_))))))))
  show wpAny _ _ (if (onTheHeap (Value.ref D) && Value.builtin "BaseException.__getattribute__" == Value.builtin "object.__getattribute__") = true then _ else _) _ _ _
  rw [hx1, if_neg Bool.false_ne_true]
  unfold getAttrByItsOwn hookBefore
  refine wpAny_bind ?_
  rw [if_pos (show onTheHeap (Value.ref D) = true from rfl)]
  refine L2.at (wpAny_bind (wpAny_attempt (wpAny_holding ?_)))
  unfold callGetattribute
  rw [show (false && onTheHeap (Value.builtin "BaseException.__getattribute__")) = false from rfl, if_neg Bool.false_ne_true]
  unfold boundAndCalled
  rw [PySem.F.excAttr_ValueError.ga.bind (.ref x)]
  refine wpAny_bind (wpAny_pure ?_)
  show wpAny _ _ (call (.builtin "BaseException.__getattribute__") [.ref x, .str "__class__" t]) _ _ _
  refine wpAny_call (codeAny_call_builtin PySem.F.excAttr_ValueError.ga.plain PySem.F.entry_bexc_ga ?_)
  refine @check_slot (model prog w) _ _ ⟨hp, g, d, t + 1, os⟩ "BaseException.__getattribute__" "BaseException" "__getattribute__" (.ref x) [.str "__class__" t] [] _ (by decide +kernel) (by decide +kernel) sub (PySem.F.args_bexc_ga (.ref x) (.str "__class__" t)) ?_
  unfold Builtin.«object.__getattribute__»
  refine wpAny_bind (wpAny_of_eq (a := ((Value.ref x : Value), [Value.str "__class__" t])) (by first | rfl | (simp only [slotArgs]; rfl)) ?_)
  refine wpAny_bind (wpAny_pure (wpAny_bind (L0.at (wpAny_bind (L3.at ?_)))))
  show wpAny _ _ (holding [Value.builtin "object.__class__"] (call (.builtin "getset_descriptor.__get__") [.builtin "object.__class__", .ref x, .ref D]) >>= ret) _ _ _
  refine wpAny_bind (wpAny_holding (wpAny_call (class_get (s := ⟨hp, g, d, t + 1, os⟩) (ox := ox) (od := od) X I C.hm ?_)))
  refine wpAny_pure ?_
  show wpAny _ _ (handedOut (.ref D)) _ _ _
  rw [handedOut_of (v := .ref D) rfl]
  first
    | exact wpAny_pure (wpAny_pure h)
    | exact wpAny_pure h
    | exact wpAny_pure (wpAny_bind (wpAny_pure (wpAny_pure h)))
theorem mpx_kitx (C : L2.ExcC K D) : KitX K (.ref x) (.ref D) (fun h => InstAt h x ox D od) := by
  obtain ⟨cd, hc, _⟩ := any_some C.hd
  have there : ∃ c' d' cd' sl', K.lookup D = some (⟨c', d', .cls cd', sl'⟩ : Obj) := by
    unfold clsIn at hc
    split at hc
    · rename_i c' d' cd' sl' ho
      exact ⟨c', d', cd', sl', ho⟩
    · cases hc
  obtain ⟨c', d', cd', sl', ho⟩ := there
  refine { ty := fun _ _ _ I => I.type, it := fun _ _ X _ => ?_, ne := fun h tp dd its n sl X htp => ?_, ca := fun X I k => mpx_class C X I k }
  · intro A' Q' E' s' k q
    unfold isType loadHead
    exact wpAny_bind (wpAny_loadPart (k _ _ (X _ _ ho)) (wpAny_pure q))
  · refine Bool.eq_false_iff.mpr fun q => ?_
    have e : D = tp := Value.ref.inj (beq_iff_eq.mp q)
    subst e
    cases (X _ _ ho).symm.trans htp
end
end PySem.W
namespace MP
open PySem PyProof.Rows L2 PySem.Spec
/-- isinstance(e, c), e the error that the suite holds, which has a dict -/
theorem call_isF {X : L2.Cx} {a D dd : Addr} {oe : Obj} {pn : List (Addr × Obj)} (C : ExcC X.K D) (hz : Zc (.ref D) (some dd) oe) (hf : ∃ vs, oe.data = .fields vs) :
    CallR (X.suite a ((a, oe) :: pn)) (.builtin "isinstance") (fun xs H Q => ∃ (c : V) (cv : Value) (b : Bool), xs = [.ref a, c] ∧ (∀ u, RelV c u → u = cv) ∧ PySem.W.kitOne X.K (.ref D) cv = some b ∧ (∃ fs, H dd = some (.xd fs)) ∧ Q (.bl b) H) := by
  intro pins s σ H xs us Q I r h
  obtain ⟨c, cv, b, rfl, hcv, e, ⟨fs, ed⟩, q⟩ := h
  cases r with
  | cons rx rr =>
    cases rr with
    | cons rt rr =>
      cases rr
      cases rx
      have ec := hcv _ rt
      subst ec
      obtain ⟨hget, _⟩ := I.pin (a, oe) (List.mem_append.mpr (.inl List.mem_cons_self))
      obtain ⟨vs, hv⟩ := hf
      have hx : ObjOk X.prog X.w H s.heap dd (.xd fs) := I.hok dd _ ed
      obtain ⟨mA, hns, hr⟩ := hx
      obtain ⟨od, ho, hl⟩ := lookIn_ns hns
      have J : PySem.W.InstAt s.heap a oe D (some od) := ⟨hget, hz.1, by unfold PySem.W.notCls; rw [hv] <;> rfl, by rw [hz.2]; exact ho⟩
      exact PySem.W.kia_one (PySem.W.mpx_kitx C) I.kIn J e (fun z => nomatch z) fun tk => ⟨.bl b, H, I.kept (t' := tk) fun _ _ z => z, rfl, q⟩
/-! ### what a clause answers -/
def litV : Lit → V
  | .none => .non
  | .bool b => .bl b
  | .int i => .int i
  | .str x => .str x
def DatIs : Hx → Option Addr → Hp → Int → Prop
  | .cst _, _, _, _ => True
  | .lst f _, d, H, j => ∃ dx, d = some dx ∧ H dx = some (.xd [(f, .int j)])
  | .tup _ f _, d, H, j => ∃ dx, d = some dx ∧ H dx = some (.xd [(f, .int j)])
def HxOut : Hx → Int → Hp → V → Hp → Prop
  | .cst l, _, H, v, H' => H' = H ∧ v = litV l
  | .lst _ _, j, H, v, H' => ∃ q, H q = none ∧ H' = upd H q (.lst [.int j]) ∧ v = .ref q
  | .tup s _ _, j, H, v, H' => ∃ q, H q = none ∧ H' = upd H q (.tup [.str s, .int j]) ∧ v = .ref q
def AfOut : Af → Hp → V → Hp → Prop
  | .lit l, H, v, H' => H' = H ∧ v = litV l
  | .nil, H, v, H' => ∃ q, H q = none ∧ H' = upd H q (.lst []) ∧ v = .ref q
section
variable {X : L2.Cx} {a C : Addr} {oe : Obj} {cls : Value} {d : Option Addr} {pn : List (Addr × Obj)} {c n : Str} {i : Nat} {e' : Expr} {rp : Pos}
theorem pe_lit {X : L2.Cx} {l : Lit} {e : Expr} (h : litS l e = true) : PE X e (tC (litV l)) := by
  unfold litS at h
  split at h
  · exact pe_non
  · rw [of_decide_eq_true h]; exact pe_bl
  · rw [of_decide_eq_true h]; exact pe_int
  · rw [of_decide_eq_true h]; exact pe_str
  · cases h
theorem fld_ok {f : Str} {e : Expr} (h : fldS f n e = true) : ∃ p q, e = .Attribute (.Name n p) f q := by
  unfold fldS at h
  split at h
  · simp only [Bool.and_eq_true, decide_eq_true_eq] at h
    rw [h.1, h.2]
    exact ⟨_, _, rfl⟩
  · cases h
theorem isi_ok {B : Str} {sc : Scope} {e : Expr} (h : isiS n B sc e = true) : ∃ p1 p2 p3 p4, e = .Call (.Name "isinstance" p1) [.Name n p2, .Name B p3] [] p4 ∧ isGl sc "isinstance" = true ∧ isGl sc B = true ∧ okName B = true := by
  unfold isiS at h
  split at h
  · simp only [Bool.and_eq_true, decide_eq_true_eq] at h
    obtain ⟨⟨⟨⟨⟨rfl, h2⟩, rfl⟩, rfl⟩, h5⟩, h6⟩ := h
    exact ⟨_, _, _, _, rfl, h2, h5, h6⟩
  · cases h
theorem lst1_ok {f : Str} {e : Expr} (h : lst1 f n e = true) : ∃ p1 p2 p3, e = .List [.Attribute (.Name n p1) f p2] p3 := by
  unfold lst1 at h
  split at h
  · obtain ⟨p, q, rfl⟩ := fld_ok h
    exact ⟨_, _, _, rfl⟩
  · cases h
theorem nil1_ok {e : Expr} (h : nil1 e = true) : ∃ p, e = .List [] p := by
  unfold nil1 at h
  split at h
  · exact ⟨_, rfl⟩
  · cases h
theorem tup1_ok {s f : Str} {e : Expr} (h : tup1 s f n e = true) : ∃ k1 k2 p1 p2 p3 p4, e = .Tuple [.Constant (.str s) k1 k2, .Attribute (.Name n p1) f p2] p3 p4 := by
  unfold tup1 at h
  split at h
  · simp only [Bool.and_eq_true, decide_eq_true_eq] at h
    obtain ⟨p, q, rfl⟩ := fld_ok h.2
    rw [h.1]
    exact ⟨_, _, _, _, _, _, rfl⟩
  · cases h
theorem ite1_ok {g z c : Expr → Bool} {e : Expr} (h : ite1 g z c e = true) : ∃ t a b p, e = .IfExp t a b p ∧ c t = true ∧ g a = true ∧ z b = true := by
  unfold ite1 at h
  split at h
  · simp only [Bool.and_eq_true] at h
    exact ⟨_, _, _, _, rfl, h.1.1, h.1.2, h.2⟩
  · cases h
/-- the reading of a clause that has a name -/
def tsH (K : PySem.W.Frag) (mg : Str → Option Value) (c : Str) (h : Hx) (i : Nat) (a : Addr) (cls : Value) (d : Option Addr) : TS := fun D σ H =>
  (i < σ.length → σ[i]? = some (some (.ref a))) ∧ mg c = some cls ∧ ∃ j, DatIs h d H j ∧ ∀ v H2, HxOut h j H v H2 → D.rt v H2
theorem hx_pss {sc : Scope} {h : Hx} (hn : X.N[i]? = some n) (hv : Vis X.env.scope n) (hd : okName n = true) (gl : ∀ x, isGl sc x = true → Gl X x) (ck : CatchOk X.K X.mg c h) (hz : Zc cls d oe) (hf : ∃ vs, oe.data = .fields vs) (ht : hxS sc h (some n) e' = true) :
    PSs (X.suite a ((a, oe) :: pn)) [.Return (some e') rp] (tsH X.K X.mg c h i a cls d) := by
  have hdn := okName_debug hd
  refine ⟨fun pins s σ H D I q => ?_⟩
  obtain ⟨q1, q2, j, q3, q4⟩ := q
  have hi : σ[i]? = some (some (.ref a)) := q1 (by
    have e : σ.length = X.N.length := I.len
    rw [e]
    exact (List.getElem?_eq_some_iff.mp hn).1)
  have var : ∀ p, PE (X.suite a ((a, oe) :: pn)) (.Name n p) _ := fun p => pe_var (X := X.suite a ((a, oe) :: pn)) (i := i) (pos := p) hn hv hdn.1 hdn.2.1
  have both : ∀ {f : Str} {b : Option Str} {dx : Addr}, CatchF X.K X.mg c f b → d = some dx → H dx = some (.xd [(f, .int j)]) → ∃ C, cls = .ref C ∧ XfC X.K C ∧ PySem.W.findIn X.K (.ref C) f = some none ∧ BOk X.K X.mg C b := fun {f b dx} ⟨C, gC, ex, xf, hno, bo⟩ _ _ => by
    rw [gC] at q2
    exact ⟨C, (Option.some.inj q2).symm, xf, hno, bo⟩
  cases h with
  | cst l => cases ht
  | lst f b =>
    obtain ⟨dx, rfl, ed⟩ := q3
    obtain ⟨C, rfl, xf, hno, bo⟩ := both ck rfl ed
    have fld : ∀ p1 p2, PE (X.suite a ((a, oe) :: pn)) (.Attribute (.Name n p1) f p2) _ := fun p1 p2 => pe_xf (pos := p2) xf hno hz hf (var p1)
    have fq : ∀ (Q : VK), Q (.int j) H → tXf a (.ref C) (some dx) C f (tVar i) σ H Q := fun Q hQ => ⟨.ref a, hi, rfl, rfl, dx, _, .int j, rfl, ed, List.lookup_cons_self, hQ⟩
    have out : ∀ q, H q = none → D.rt (.ref q) (upd H q (.lst [.int j])) := fun q hq => q4 _ _ ⟨q, hq, rfl, rfl⟩
    have sz : [V.int j].length ≤ sizeLine := by show 1 ≤ sizeLine; rw [sizeLine_eq]; omega
    cases b with
    | none =>
      obtain ⟨p1, p2, p3, rfl⟩ := lst1_ok (show lst1 f n e' = true from ht)
      exact (pss_one (ps_ret (pe_lst (pa_cons (fld p1 p2) pa_nil (starEach_cons rfl))))).run pins s σ H D I (fq _ ⟨sz, out⟩)
    | some B =>
      obtain ⟨hmi, DK, gK, EC, _, kt⟩ := bo
      obtain ⟨t, e1, e2, p4, rfl, h2, h1, h3⟩ := ite1_ok (show ite1 (lst1 f n) nil1 (isiS n B sc) e' = true from ht)
      obtain ⟨p1, p2, p3, rfl⟩ := lst1_ok h1
      obtain ⟨p5, rfl⟩ := nil1_ok h3
      obtain ⟨r1, r2, r3, r4, rfl, g1, g2, g3⟩ := isi_ok h2
      have hdk := okName_debug g3
      have isi := pe_callB (pos := r4) (p := r1) (call_isF EC hz hf (pn := pn)) (gl _ g1) hmi (by decide +kernel) (pa_cons (var r2) (pa_cons (pe_glob (pos := r3) (v := .ref DK) (gl _ g2) gK rfl hdk.1) pa_nil (starEach_cons rfl)) (starEach_cons rfl)) (by decide) (by decide) (starEach_cons rfl) rfl
      refine (pss_one (ps_ret (pe_ifExp (pt_val isi) (pe_lst (pa_cons (fld p1 p2) pa_nil (starEach_cons rfl))) (pe_lst pa_nil)))).run pins s σ H D I ?_
      refine ⟨.ref a, hi, .ref DK, .ref DK, true, rfl, fun u r => r, kt, ⟨_, ed⟩, true, rfl, ?_⟩
      dsimp only
      rw [if_pos rfl]
      exact fq _ ⟨sz, out⟩
  | tup s0 f b =>
    obtain ⟨dx, rfl, ed⟩ := q3
    obtain ⟨C, rfl, xf, hno, bo⟩ := both ck rfl ed
    have fld : ∀ p1 p2, PE (X.suite a ((a, oe) :: pn)) (.Attribute (.Name n p1) f p2) _ := fun p1 p2 => pe_xf (pos := p2) xf hno hz hf (var p1)
    have fq : ∀ (Q : VK), Q (.int j) H → tXf a (.ref C) (some dx) C f (tVar i) σ H Q := fun Q hQ => ⟨.ref a, hi, rfl, rfl, dx, _, .int j, rfl, ed, List.lookup_cons_self, hQ⟩
    have out : ∀ q, H q = none → D.rt (.ref q) (upd H q (.tup [.str s0, .int j])) := fun q hq => q4 _ _ ⟨q, hq, rfl, rfl⟩
    have sz : [V.str s0, V.int j].length ≤ sizeLine := by show 2 ≤ sizeLine; rw [sizeLine_eq]; omega
    cases b with
    | none =>
      obtain ⟨k1, k2, p1, p2, p3, p4, rfl⟩ := tup1_ok (show tup1 s0 f n e' = true from ht)
      exact (pss_one (ps_ret (pe_tup (pa_cons pe_str (pa_cons (fld p1 p2) pa_nil (starEach_cons rfl)))))).run pins s σ H D I (fq _ ⟨sz, out⟩)
    | some Bz =>
      obtain ⟨B, z⟩ := Bz
      obtain ⟨hmi, DK, gK, EC, _, kt⟩ := bo
      obtain ⟨t, e1, e2, p6, rfl, h2, h1, h3⟩ := ite1_ok (show ite1 (tup1 s0 f n) (litS (.str z)) (isiS n B sc) e' = true from ht)
      obtain ⟨k1, k2, p1, p2, p3, p4, rfl⟩ := tup1_ok h1
      obtain ⟨r1, r2, r3, r4, rfl, g1, g2, g3⟩ := isi_ok h2
      have hdk := okName_debug g3
      have isi := pe_callB (pos := r4) (p := r1) (call_isF EC hz hf (pn := pn)) (gl _ g1) hmi (by decide +kernel) (pa_cons (var r2) (pa_cons (pe_glob (pos := r3) (v := .ref DK) (gl _ g2) gK rfl hdk.1) pa_nil (starEach_cons rfl)) (starEach_cons rfl)) (by decide) (by decide) (starEach_cons rfl) rfl
      refine (pss_one (ps_ret (pe_ifExp (pt_val isi) (pe_tup (pa_cons pe_str (pa_cons (fld p1 p2) pa_nil (starEach_cons rfl)))) (pe_lit h3)))).run pins s σ H D I ?_
      refine ⟨.ref a, hi, .ref DK, .ref DK, true, rfl, fun u r => r, kt, ⟨_, ed⟩, true, rfl, ?_⟩
      dsimp only
      rw [if_pos rfl]
      exact fq _ ⟨sz, out⟩
end
/-! ### the def that calls what it got -/
/-- what the helper makes of the callable's reading -/
def TTh (mg : Str → Option Value) (k : HK) : (XK → Hp → VK → Prop) → Hp → VK → Prop := fun tl H Q =>
  tl (fun cls d H' => mg k.c = some cls ∧ ∃ j, DatIs k.h d H' j ∧ ∀ v H2, HxOut k.h j H' v H2 → Q v H2) H (fun v H' => if k.ret = true then Q v H' else ∀ v2 H2, AfOut k.af H' v2 H2 → Q v2 H2)
theorem act_ok {a : Str} {e : Expr} (h : actS a e = true) : ∃ p1 p2, e = .Call (.Name a p1) [] [] p2 := by
  unfold actS at h
  split at h
  · rw [of_decide_eq_true h]
    exact ⟨_, _, rfl⟩
  · cases h
theorem af_pe {X : L2.Cx} {af : Af} {e : Expr} (h : afS af e = true) : PE X e (fun _ H Q => ∀ v H2, AfOut af H v H2 → Q v H2) := by
  cases af with
  | lit l =>
    refine ⟨fun pins s σ H Q I q => (pe_lit (show litS l e = true from h)).run pins s σ H Q I (q _ _ ⟨rfl, rfl⟩)⟩
  | nil =>
    obtain ⟨p, rfl⟩ := nil1_ok (show nil1 e = true from h)
    exact ⟨fun pins s σ H Q I q => (pe_lst pa_nil).run pins s σ H Q I ⟨by show 0 ≤ sizeLine; omega, fun a ha => q _ _ ⟨a, ha, rfl, rfl⟩⟩⟩
theorem hfn_gives {X : L2.Cx} {x : Str} {k : HK} {g : Addr} {pg : Arguments} {bg : List Stmt} {sg : Scope} {dV kV doc pm cdv ct oc : Value} {an od : Option Addr} {osl : Array (Option Value)} {Ng : List Str} {a q : Str} (F : HFn X.K X.mg x k g pg bg sg dV kV doc pm cdv ct oc an od osl Ng a) :
    LamX.GivesTo X Ng x sg g cdv bg a q (TTh X.mg k) := by
  intro f c' s H Q tl act hc h
  have h0 : (L2.start Ng [V.ref f])[0]? = some (some (V.ref f)) := rfl
  have glZ : ∀ y, isGl sg y = true → Gl (cxOf C8.CX0 X.prog X.w X.K X.mg X.base Ng x sg g cdv X.A X.stack s H C8.E0).nox y := fun y hy => by
    unfold isGl at hy
    split at hy
    · rename_i e; exact e
    · cases hy
  -- the try, whatever its body is made of
  have tryOk : ∀ {st : Stmt} {r : Bool}, tryS r k a Ng sg st = true → PS (cxOf C8.CX0 X.prog X.w X.K X.mg X.base Ng x sg g cdv X.A X.stack s H C8.E0).nox st (fun D σ H => σ[0]? = some (some (.ref f)) ∧ H c' = some (LamX.CodeO c' q) ∧
      tl (fun cls d H' => X.mg k.c = some cls ∧ ∃ j, DatIs k.h d H' j ∧ ∀ v H2, HxOut k.h j H' v H2 → D.rt v H2) H (fun v H' => if r = true then D.rt v H' else D.nx σ H')) := by
    intro st r ht
    -- the try's own body
    obtain ⟨b1, y, py, nm, e', prr, ph, pt, rfl, hb, hy, gy, oy, hnm, hx⟩ : ∃ b1 y py nm e' prr ph pt, st = .Try [b1] [.ExceptHandler (some (.Name y py)) nm [.Return (some e') prr] ph] [] [] pt ∧
        (∀ (W : WX) (pn : List (Addr × Obj)) (xe : Value → Shared → Prop) (E : XK), Takes ((cxOf C8.CX0 X.prog X.w X.K X.mg X.base Ng x sg g cdv X.A X.stack s H C8.E0).tr pn xe) W → (∀ cls d σ' H', E cls d H' → W cls d σ' H') →
          PSs ((cxOf C8.CX0 X.prog X.w X.K X.mg X.base Ng x sg g cdv X.A X.stack s H C8.E0).tr pn xe) [b1] (fun D σ H => σ[0]? = some (some (.ref f)) ∧ H c' = some (LamX.CodeO c' q) ∧ tl E H (fun v H' => if r = true then D.rt v H' else D.nx σ H'))) ∧
        y = k.c ∧ isGl sg y = true ∧ okName y = true ∧ nmS Ng sg nm = true ∧ hxS sg k.h nm e' = true := by
      unfold tryS at ht
      split at ht
      · rename_i e p1 y py nm e' prr ph pt
        simp only [Bool.and_eq_true, decide_eq_true_eq] at ht
        obtain ⟨⟨⟨⟨⟨⟨rfl, h2⟩, h3⟩, h4⟩, h5⟩, h6⟩, h7⟩ := ht
        obtain ⟨p2, p3, rfl⟩ := act_ok h2
        exact ⟨_, _, _, _, _, _, _, _, rfl, fun W pn xe E tk hW => pss_one (ps_ret (act W pn xe E p2 p3 tk hW)), h3, h4, h5, h6, h7⟩
      · rename_i e p1 y py nm e' prr ph pt
        simp only [Bool.and_eq_true, decide_eq_true_eq, Bool.not_eq_true'] at ht
        obtain ⟨⟨⟨⟨⟨⟨rfl, h2⟩, h3⟩, h4⟩, h5⟩, h6⟩, h7⟩ := ht
        obtain ⟨p2, p3, rfl⟩ := act_ok h2
        exact ⟨_, _, _, _, _, _, _, _, rfl, fun W pn xe E tk hW => pss_one (ps_expr (act W pn xe E p2 p3 tk hW)), h3, h4, h5, h6, h7⟩
      · cases ht
    subst hy
    have hdn := okName_debug oy
    have hcat := F.cat
    cases nm with
    | none =>
      cases hk : k.h with
      | lst f' b => rw [hk] at hx; cases b <;> cases hx
      | tup s' f' b => rw [hk] at hx; cases b <;> cases hx
      | cst l =>
        rw [hk] at hx hcat
        obtain ⟨C, gC, ex⟩ := hcat
        have T := ps_try_only (X := (cxOf C8.CX0 X.prog X.w X.K X.mg X.base Ng x sg g cdv X.A X.stack s H C8.E0).nox) (c := .ref C) (np := py) (pos := pt) (pos' := ph) (body := [b1]) (suite := []) (b₀ := .Return (some e') prr) (x := k.c)
          (ts := fun _ _ _ D σ H => D.rt (litV l) H)
          (tb := fun W D σ H => ∃ E : XK, (∀ cls d σ' H', E cls d H' → W cls d σ' H') ∧ σ[0]? = some (some (.ref f)) ∧ H c' = some (LamX.CodeO c' q) ∧ tl E H (fun v H' => if r = true then D.rt v H' else D.nx σ H'))
          rfl rfl ⟨glZ _ gy, hdn.1, .inl gC⟩ LamX.takes0 (fun W pn xe tk _ => ⟨fun pins s σ H D I ⟨E, e1, e2, e3, e4⟩ => (hb W pn xe E tk e1).run pins s σ H D I ⟨e2, e3, e4⟩⟩) (fun a oe cls d pn _ _ => pss_one (ps_ret (pe_lit (show litS l e' = true from hx))))
        refine ⟨fun pins s σ H D I ⟨e1, e2, e3⟩ => T.run pins s σ H D I ⟨fun cls d H' => X.mg k.c = some cls ∧ ∃ j, DatIs k.h d H' j ∧ ∀ v H2, HxOut k.h j H' v H2 → D.rt v H2, fun cls d σ' H' ⟨z1, j, _, z3⟩ => ?_, e1, e2, ?_⟩⟩
        · rw [gC] at z1
          cases z1
          exact ⟨true, ex, fun _ a _ => z3 _ _ (by rw [hk]; exact ⟨rfl, rfl⟩), fun z => by cases z⟩
        · rw [hk]
          exact e3
    | some n =>
      have hnm : (decide (Ng[1]? = some n) && decide (sg.names.lookup n = some .local) && okName n) = true := hnm
      simp only [Bool.and_eq_true, decide_eq_true_eq] at hnm
      obtain ⟨⟨n1, n2⟩, n3⟩ := hnm
      obtain ⟨C, gC, ex⟩ : ∃ C : Addr, X.mg k.c = some (.ref C) ∧ PySem.W.exmOne X.K (.ref C) (.ref C) = some true := by
        cases hk : k.h with
        | cst l => rw [hk] at hcat; exact hcat
        | lst f' b => rw [hk] at hcat; obtain ⟨C, h1, h2, _⟩ := hcat; exact ⟨C, h1, h2⟩
        | tup s' f' b => rw [hk] at hcat; obtain ⟨C, h1, h2, _⟩ := hcat; exact ⟨C, h1, h2⟩
      have T := ps_try_as (X := (cxOf C8.CX0 X.prog X.w X.K X.mg X.base Ng x sg g cdv X.A X.stack s H C8.E0).nox) (c := .ref C) (np := py) (pos := pt) (pos' := ph) (body := [b1]) (suite := []) (b₀ := .Return (some e') prr) (x := k.c) (n := n) (i := 1)
          (ts := tsH X.K X.mg k.c k.h 1)
          (tb := fun W D σ H => ∃ E : XK, (∀ cls d σ' H', E cls d H' → W cls d σ' H') ∧ σ[0]? = some (some (.ref f)) ∧ H c' = some (LamX.CodeO c' q) ∧ tl E H (fun v H' => if r = true then D.rt v H' else D.nx σ H'))
          rfl rfl F.Sg.nd n1 n2 ⟨glZ _ gy, hdn.1, .inl gC⟩ LamX.takes0 (fun W pn xe tk _ => ⟨fun pins s σ H D I ⟨E, e1, e2, e3, e4⟩ => (hb W pn xe E tk e1).run pins s σ H D I ⟨e2, e3, e4⟩⟩)
          (fun a oe cls d pn hz hf => hx_pss (X := (cxOf C8.CX0 X.prog X.w X.K X.mg X.base Ng x sg g cdv X.A X.stack s H C8.E0).nox) (sc := sg) n1 (.inl n2) n3 glZ F.cat hz hf hx)
      refine ⟨fun pins s σ H D I ⟨e1, e2, e3⟩ => T.run pins s σ H D I ⟨fun cls d H' => X.mg k.c = some cls ∧ ∃ j, DatIs k.h d H' j ∧ ∀ v H2, HxOut k.h j H' v H2 → D.rt v H2, fun cls d σ' H' ⟨z1, j, z2, z3⟩ => ?_, e1, e2, e3⟩⟩
      have z1' := z1
      rw [gC] at z1'
      cases z1'
      exact ⟨true, ex, fun _ a _ => ⟨fun hl => List.getElem?_set_self (by simpa using hl), z1, j, z2, z3⟩, fun z => by cases z⟩
  have ht := F.txt
  unfold hkS at ht
  split at ht
  · rename_i st
    obtain ⟨hr, ht⟩ := Bool.and_eq_true_iff.mp ht
    refine ⟨_, pss_one (tryOk ht), h0, hc, ?_⟩
    have h : tl _ H (fun v H' => if k.ret = true then Q v H' else ∀ v2 H2, AfOut k.af H' v2 H2 → Q v2 H2) := h
    rw [hr] at h
    exact h
  · rename_i st rt
    simp only [Bool.and_eq_true, Bool.not_eq_true'] at ht
    obtain ⟨⟨hr, ht⟩, h2⟩ := ht
    obtain ⟨e2, p2, rfl, ha⟩ : ∃ e2 p2, rt = .Return (some e2) p2 ∧ afS k.af e2 = true := by
      unfold retS at h2
      split at h2
      · exact ⟨_, _, rfl, h2⟩
      · cases h2
    refine ⟨_, pss_cons (tryOk ht) (pss_one (ps_ret (af_pe ha))), h0, hc, ?_⟩
    have h : tl _ H (fun v H' => if k.ret = true then Q v H' else ∀ v2 H2, AfOut k.af H' v2 H2 → Q v2 H2) := h
    rw [hr] at h
    exact h
  · cases ht
end MP
/-! The text of an expression, and that the model does what is reckoned. -/
namespace MP
open PySem PyProof.Rows L2 PySem.Spec
def mLit : Lit → Const → Bool
  | .none, .none => true
  | .bool b, .bool c => decide (b = c)
  | .int i, .int j => decide (i = j)
  | .str x, .str y => decide (x = y)
  | _, _ => false
def plainIx : Expr → Bool
  | .Slice _ _ _ _ => false
  | _ => true
def notSet : Expr → Bool
  | .Set _ _ _ => false
  | _ => true
mutual
def mTg (N : List Str) : Tg → Scope → Expr → Bool
  | .nm i, sc, e => match e with
    | .Name x _ => decide (N[i]? = some x) && isLoc sc x && okName x
    | _ => false
  | .tup ts, sc, e => match e with
    | .Tuple es _ _ => mTgs N ts sc es
    | _ => false
def mTgs (N : List Str) : Tgs → Scope → List Expr → Bool
  | .nil, _, es => match es with
    | [] => true
    | _ => false
  | .cons t ts, sc, es => match es with
    | e :: r => mTg N t sc e && mTgs N ts sc r
    | [] => false
end
def tyName (t : String) : Bool := t == "int" || t == "bool" || t == "str" || t == "tuple" || t == "list" || t == "dict"
def mTyName (t : String) (sc : Scope) : Expr → Bool
  | .Name x _ => decide (x = Str.ofString t) && isGl sc x && okName x && tyName t && decide (bootBuiltins x = some (.type t))
  | _ => false
def mKeys : List Str → List (Option Expr) → Bool
  | [], [] => true
  | k :: ks, some (.Constant (.str x) _ _) :: r => decide (k = x) && mKeys ks r
  | _, _ => false
def dic2 (a x b y : Int) : Expr → Bool
  | .Dict [some (.Constant (.int a') _ _), some (.Constant (.int b') _ _)] [.Constant (.int x') _ _, .Constant (.int y') _ _] _ => decide (a = a') && decide (b = b') && decide (x = x') && decide (y = y')
  | _ => false
def dicN : List (Int × Int) → List (Option Expr) → List Expr → Bool
  | [], [], [] => true
  | (a, x) :: r, some (.Constant (.int a') _ _) :: ks, .Constant (.int x') _ _ :: vs => decide (a = a') && decide (x = x') && dicN r ks vs
  | _, _, _ => false
def cstI (d : Int) : Expr → Bool
  | .Constant (.int d') _ _ => decide (d = d')
  | _ => false
def isTupE : Expr → Bool
  | .Tuple _ _ _ => true
  | _ => false
def plainTest : Expr → Bool
  | .UnaryOp _ _ _ => false
  | .BoolOp _ _ _ => false
  | .IfExp _ _ _ _ => false
  | .Compare _ _ _ _ => false
  | _ => true
/-- a lambda without parameters -/
def noArgs (a : Arguments) : Bool := a.posonlyargs.isEmpty && a.args.isEmpty && a.vararg.isNone && a.kwonlyargs.isEmpty && a.kw_defaults.isEmpty && a.kwarg.isNone && a.defaults.isEmpty
/-- no call stands where a method's own object is told -/
def notSuper : Expr → Bool
  | .Call _ _ _ _ => false
  | _ => true
mutual
def mE (N : List Str) : Ex → Scope → Expr → Bool
  | .var i, sc, e => match e with
    | .Name x _ => decide (N[i]? = some x) && isVis sc x && okName x
    | _ => false
  | .cst c, _, e => match e with
    | .Constant k _ _ => mLit c k
    | _ => false
  | .glob y _, sc, e => match e with
    | .Name x _ => decide (y = x) && isGl sc x && okName x
    | _ => false
  | .neg a, sc, e => match e with
    | .UnaryOp o b _ => decide (o = .USub) && mE N a sc b
    | _ => false
  | .not a, sc, e => match e with
    | .UnaryOp o b _ => decide (o = .Not) && mE N a sc b
    | _ => false
  | .bin o a b, sc, e => match e with
    | .BinOp a' o' b' _ => decide (opS o = o') && mE N a sc a' && mE N b sc b'
    | _ => false
  | .cmp o a b, sc, e => match e with
    | .Compare a' os bs _ => (match os, bs with
      | [o'], [b'] => decide (cpS o = o') && mE N a sc a' && mE N b sc b' && notSet b'
      | _, _ => false)
    | _ => false
  | .chain o1 o2 a b c, sc, e => match e with
    | .Compare a' os bs _ => (match os, bs with
      | [p1, p2], [b', c'] => decide (cpS o1 = p1) && decide (cpS o2 = p2) && mE N a sc a' && mE N b sc b' && mE N c sc c' && notSet c'
      | _, _ => false)
    | _ => false
  | .and a b, sc, e => match e with
    | .BoolOp o vs pos => decide (o = .And) && (match vs with
      | [a', b'] => mE N a sc a' && mE N b sc b'
      | a' :: b' :: c' :: r => mE N a sc a' && mE N b sc (.BoolOp .And (b' :: c' :: r) pos)
      | _ => false)
    | _ => false
  | .or a b, sc, e => match e with
    | .BoolOp o vs pos => decide (o = .Or) && (match vs with
      | [a', b'] => mE N a sc a' && mE N b sc b'
      | a' :: b' :: c' :: r => mE N a sc a' && mE N b sc (.BoolOp .Or (b' :: c' :: r) pos)
      | _ => false)
    | _ => false
  | .ite c a b, sc, e => match e with
    | .IfExp c' a' b' _ => mE N c sc c' && mE N a sc a' && mE N b sc b'
    | _ => false
  | .tup es, sc, e => match e with
    | .Tuple es' _ _ => mEs N es sc es'
    | _ => false
  | .lst es, sc, e => match e with
    | .List es' _ => mEs N es sc es'
    | _ => false
  | .ix a b, sc, e => match e with
    | .Subscript a' b' _ => plainIx b' && mE N a sc a' && mE N b sc b'
    | _ => false
  | .slice a lo hi, sc, e => match e with
    | .Subscript a' s _ => (match s with
      | .Slice l h none _ => mE N a sc a' && mO N lo sc l && mO N hi sc h
      | _ => false)
    | _ => false
  | .rev a, sc, e => match e with
    | .Subscript a' (.Slice none none (some (.UnaryOp .USub (.Constant (.int i) _ _) _)) _) _ => decide (i = 1) && mE N a sc a'
    | _ => false
  | .call x _ es, sc, e => match e with
    | .Call f args kws _ => (match f, kws with
      | .Name y _, [] => decide (x = y) && isGl sc x && okName x && args.all notStar && mEs N es sc args
      | _, _ => false)
    | _ => false
  | .blt f es, sc, e => match e with
    | .Call g args kws _ => (match g, kws with
      | .Name y _, [] => decide (f.name = y) && isGl sc y && !args.isEmpty && args.all notStar && mEs N es sc args
      | _, _ => false)
    | _ => false
  | .isi a ts, sc, e => match e with
    | .Call g args kws _ => (match g, kws, args with
      | .Name y _, [], [a', t'] => decide (y = "isinstance") && isGl sc y && mE N a sc a' && notStar a' && (match ts with
        | [t] => mTyName t sc t'
        | _ => false)
      | _, _, _ => false)
    | _ => false
  | .comp elt own tg it ifs, sc, e => match e with
    | .ListComp elt' gs scope _ => (match gs with
      | [⟨tg', it', ifs', n⟩] => decide (n = 0) && blkC N sc scope own && mTg N tg scope tg' && notSet it' && mI N it sc tg' it' && mC N ifs scope ifs' && mE N elt scope elt' && tgIn tg (own.map (·.2))
      | _ => false)
    | _ => false
  | .comp2 elt own tg it ifs own1 tg1 it1 ifs1, sc, e => match e with
    | .ListComp elt' gs scope _ => (match gs with
      | [⟨tg', it', ifs', n⟩, ⟨tg1', it1', ifs1', n1⟩] => decide (n = 0) && decide (n1 = 0) && blkC N sc scope own && mTg N tg scope tg' && notSet it' && notSet it1' && mI N it sc tg' it' && mC N ifs scope ifs' && mTg N tg1 scope tg1' && mI N it1 scope tg1' it1' && mC N ifs1 scope ifs1' && mE N elt scope elt' && tgIn tg (own.map (·.2)) && tgIn tg1 (own1.map (·.2)) && own1.all (fun x => own.any fun y => y.2 == x.2)
      | _ => false)
    | _ => false
  | .dicl ks es, sc, e => match e with
    | .Dict keys values _ => mKeys ks keys && decide (ks.length = values.length) && decide (ks.length ≤ 15) && !ks.isEmpty && decide ks.Nodup && mEs N es sc values
    | _ => false
  | .dic0, _, e => match e with
    | .Dict keys values _ => keys.isEmpty && values.isEmpty
    | _ => false
  | .toloc a, sc, e => plainTest e && mE N a sc e
  | .popl a, sc, e => match e with
    | .Call f args kws pos => (match f, args, kws with
      | .Attribute a' x ap, [], [] => decide (x = "pop") && decide (ap.endLine = pos.line) && notSuper a' && mE N a sc a'
      | _, _, _ => false)
    | _ => false
  | .get2 a x b y d k, sc, e => match e with
    | .Call f args kws pos => (match f, args, kws with
      | .Attribute o m ap, [k', e'], [] => decide (m = "get") && decide (ap.endLine = pos.line) && dic2 a x b y o && decide (a ≠ b) && notStar k' && cstI d e' && mE N k sc k'
      | _, _, _ => false)
    | _ => false
  | .dicn, _, e => match e with
    | .Dict keys values _ => keys.isEmpty && values.isEmpty
    | _ => false
  | .dhas neg k i, sc, e => match e with
    | .Compare k' os bs _ => (match os, bs with
      | [o'], [.Name x _] => decide (o' = bif neg then .NotIn else .In) && mE N k sc k' && decide (N[i]? = some x) && isVis sc x && okName x
      | _, _ => false)
    | _ => false
  | .shas k i, sc, e => match e with
    | .Compare k' os bs _ => (match os, bs with
      | [o'], [.Name x _] => decide (o' = .In) && mE N k sc k' && decide (N[i]? = some x) && isVis sc x && okName x
      | _, _ => false)
    | _ => false
  | .dget i k, sc, e => match e with
    | .Subscript (.Name x _) k' _ => plainIx k' && mE N k sc k' && decide (N[i]? = some x) && isVis sc x && okName x
    | _ => false
  | .dsort i, sc, e => match e with
    | .Call f args kws _ => (match f, args, kws with
      | .Name y _, [.Name x _], [] => decide (y = "sorted") && isGl sc y && decide (N[i]? = some x) && isVis sc x && okName x
      | _, _, _ => false)
    | _ => false
  | .dixl kvs k, sc, e => match e with
    | .Subscript (.Dict keys values _) k' _ => plainIx k' && mE N k sc k' && dicN kvs keys values && decide (kvs.map (·.1)).Nodup && decide (kvs.length ≤ 15) && !kvs.isEmpty
    | _ => false
  | .revc a, sc, e => match e with
    | .Subscript a' (.Slice none (some (.Constant (.int z) _ _)) (some (.UnaryOp .USub (.Constant (.int i) _ _) _)) _) _ => decide (z = 0) && decide (i = 1) && mE N a sc a'
    | _ => false
  | .lrng1 a, sc, e => match e with
    | .Call f args kws _ => (match f, args, kws with
      | .Name x _, [e2], [] => (match e2 with
       | .Call f2 args2 kws2 _ => (match f2, args2, kws2 with
        | .Name y _, [a'], [] => decide (x = "list") && isGl sc x && decide (y = "range") && isGl sc y && notStar a' && mE N a sc a'
        | _, _, _ => false)
       | _ => false)
      | _, _, _ => false)
    | _ => false
  | .lrng2 a b, sc, e => match e with
    | .Call f args kws _ => (match f, args, kws with
      | .Name x _, [e2], [] => (match e2 with
       | .Call f2 args2 kws2 _ => (match f2, args2, kws2 with
        | .Name y _, [a', b'], [] => decide (x = "list") && isGl sc x && decide (y = "range") && isGl sc y && notStar a' && mE N a sc a' && notStar b' && mE N b sc b'
        | _, _, _ => false)
       | _ => false)
      | _, _, _ => false)
    | _ => false
  | .cntL a k, sc, e => match e with
    | .Call f args kws pos => (match f, args, kws with
      | .Attribute a' x ap, [k'], [] => decide (x = "count") && decide (ap.endLine = pos.line) && notSuper a' && notStar k' && mE N a sc a' && mE N k sc k'
      | _, _, _ => false)
    | _ => false
  | .popi a k, sc, e => match e with
    | .Call f args kws pos => (match f, args, kws with
      | .Attribute a' x ap, [k'], [] => decide (x = "pop") && decide (ap.endLine = pos.line) && notSuper a' && notStar k' && mE N a sc a' && mE N k sc k'
      | _, _, _ => false)
    | _ => false
  | .lenl a, sc, e => match e with
    | .Call f args kws _ => (match f, args, kws with
      | .Name y _, [a'], [] => decide (y = "len") && isGl sc y && notStar a' && mE N a sc a'
      | _, _, _ => false)
    | _ => false
  | .lamc f _ b, sc, e => match e with
    | .Call g args kws _ => (match g, args, kws with
      | .Name y _, [e1], [] => (match e1 with
        | .Lambda params body scope _ => decide (f = y) && isGl sc y && okName y && noArgs params && LamX.lamSB sc scope && mE N b scope body
        | _ => false)
      | _, _, _ => false)
    | _ => false
def mEs (N : List Str) : Exs → Scope → List Expr → Bool
  | .nil, _, es => match es with
    | [] => true
    | _ => false
  | .cons e r, sc, es => match es with
    | e' :: r' => notStar e' && mE N e sc e' && mEs N r sc r'
    | [] => false
  | .star e r, sc, es => match es with
    | .Starred e' _ :: r' => mE N e sc e' && mEs N r sc r'
    | _ => false
def mO (N : List Str) : Opt → Scope → Option Expr → Bool
  | .non, _, o => match o with
    | none => true
    | some _ => false
  | .som e, sc, o => match o with
    | some e' => mE N e sc e'
    | none => false
def mC (N : List Str) : Opt → Scope → List Expr → Bool
  | .non, _, o => match o with
    | [] => true
    | _ :: _ => false
  | .som e, sc, o => match o with
    | [e'] => mE N e sc e'
    | _ => false
def mI (N : List Str) : It → Scope → Expr → Expr → Bool
  | .seq e, sc, _, e' => mE N e sc e'
  | .rng1 a, sc, _, e' => match e' with
    | .Call g args kws _ => (match g, kws, args with
      | .Name y _, [], [a'] => decide (y = "range") && isGl sc y && notStar a' && mE N a sc a'
      | _, _, _ => false)
    | _ => false
  | .rng2 a b, sc, _, e' => match e' with
    | .Call g args kws _ => (match g, kws, args with
      | .Name y _, [], [a', b'] => decide (y = "range") && isGl sc y && notStar a' && notStar b' && mE N a sc a' && mE N b sc b'
      | _, _, _ => false)
    | _ => false
  | .rng3 a b c, sc, _, e' => match e' with
    | .Call g args kws _ => (match g, kws, args with
      | .Name y _, [], [a', b', c'] => decide (y = "range") && isGl sc y && notStar a' && notStar b' && notStar c' && mE N a sc a' && mE N b sc b' && mE N c sc c'
      | _, _, _ => false)
    | _ => false
  | .enum a, sc, tg, e' => isTupE tg && (match e' with
    | .Call g args kws _ => (match g, kws, args with
      | .Name y _, [], [a'] => decide (y = "enumerate") && isGl sc y && notStar a' && mE N a sc a'
      | _, _, _ => false)
    | _ => false)
  | .zip a b, sc, tg, e' => isTupE tg && (match e' with
    | .Call g args kws _ => (match g, kws, args with
      | .Name y _, [], [a', b'] => decide (y = "zip") && isGl sc y && notStar a' && notStar b' && mE N a sc a' && mE N b sc b'
      | _, _, _ => false)
    | _ => false)
/-- all slots that a target stores are among some -/
def tgIn : Tg → List Nat → Bool
  | .nm i, vs => vs.contains i
  | .tup ts, vs => tgsIn ts vs
def tgsIn : Tgs → List Nat → Bool
  | .nil, _ => true
  | .cons t ts, vs => tgIn t vs && tgsIn ts vs
end
mutual
/-- what an expression asks of the module's names -/
def rqE : Ex → List Req
  | .var _ => []
  | .cst _ => []
  | .glob x d => [.cst x d]
  | .neg a => rqE a
  | .not a => rqE a
  | .bin _ a b => rqE a ++ rqE b
  | .cmp _ a b => rqE a ++ rqE b
  | .chain _ _ a b c => rqE a ++ rqE b ++ rqE c
  | .and a b => rqE a ++ rqE b
  | .or a b => rqE a ++ rqE b
  | .ite c a b => rqE c ++ rqE a ++ rqE b
  | .tup es => rqEs es
  | .lst es => rqEs es
  | .ix a b => rqE a ++ rqE b
  | .slice a lo hi => rqE a ++ rqO lo ++ rqO hi
  | .rev a => rqE a
  | .call x s es => .fn x s :: rqEs es
  | .blt f es => f.req :: rqEs es
  | .isi a ts => .non "isinstance" :: ts.map (fun t => .non (Str.ofString t)) ++ rqE a
  | .comp e _ _ it ifs => rqI it ++ rqO ifs ++ rqE e
  | .comp2 e _ _ it ifs _ _ it1 ifs1 => rqI it ++ rqO ifs ++ rqI it1 ++ rqO ifs1 ++ rqE e
  | .dicl _ es => rqEs es
  | .dic0 => []
  | .toloc a => rqE a
  | .popl a => rqE a
  | .popi a k => rqE a ++ rqE k
  | .cntL a k => rqE a ++ rqE k
  | .lrng1 a => .non "list" :: .non "range" :: rqE a
  | .lrng2 a b => .non "list" :: .non "range" :: (rqE a ++ rqE b)
  | .get2 _ _ _ _ _ k => rqE k
  | .dicn => []
  | .dhas _ k _ => rqE k
  | .shas k _ => rqE k
  | .dget _ k => rqE k
  | .dsort _ => [.non "sorted"]
  | .dixl _ k => rqE k
  | .revc a => rqE a
  | .lenl a => .non "len" :: rqE a
  | .lamc f k b => .lam :: .hfn f k :: (rqE b).map Req.deep
def rqEs : Exs → List Req
  | .nil => []
  | .cons e r => rqE e ++ rqEs r
  | .star e r => rqE e ++ rqEs r
def rqO : Opt → List Req
  | .non => []
  | .som e => rqE e
def rqI : It → List Req
  | .seq e => rqE e
  | .rng1 a => .non "range" :: rqE a
  | .rng2 a b => .non "range" :: (rqE a ++ rqE b)
  | .rng3 a b c => .non "range" :: (rqE a ++ rqE b ++ rqE c)
  | .enum e => .non "enumerate" :: rqE e
  | .zip a b => .non "zip" :: (rqE a ++ rqE b)
end
end MP
/-! t[::-1] of a tuple; isinstance of data. -/
namespace MP
open PySem PyProof.Rows L2 PySem.Spec
section
variable {prog : Program} {w : World} {s : Shared} {A : Around} {E : Value → Shared → Prop}
theorem rev_applied {sl : Addr} {vs : Value} {n : Nat} {Q : Int × Int × Nat → Shared → Prop} (hs : s.heap.IsSliceOf sl .none .none vs) (ps : IsPart vs (some (-1))) (h : Q ((n : Int) - 1, -1, n) s) :
    wpAny (model prog w) A (Builtin.Slice.sliceApplied (.ref sl) (pure (Int.ofNat n))) Q E s := by
  obtain ⟨ob, h1, h2, h3⟩ := hs
  unfold Builtin.Slice.sliceApplied
  unfold Builtin.Slice.sliceFields
  refine wpAny_bind (wpAny_bind (wpAny_field h1 h3 (x := .none) rfl (wpAny_bind (wpAny_field h1 h3 (x := .none) rfl (wpAny_bind (wpAny_field h1 h3 (x := vs) rfl (wpAny_pure ?_)))))))
  refine wpAny_bind (HT.slicePart_ ps ?_)
  show wpAny _ _ (if ((-1 : Int) == 0) = true then _ else _) _ _ s
  rw [if_neg (show ¬ ((-1 : Int) == 0) = true by decide)]
  refine wpAny_bind (HT.slicePart_ .none (wpAny_bind (HT.slicePart_ .none (wpAny_bind (wpAny_pure ?_)))))
  show wpAny _ _ (pure ((n : Int) - 1, (-1 : Int), Builtin.Slice.slicePlaces ((n : Int) - 1) (-1) (-1))) _ _ s
  have e : Builtin.Slice.slicePlaces ((n : Int) - 1) (-1) (-1) = n := by
    rw [Builtin.Slice.slicePlaces, if_neg (show ¬ ((-1 : Int) > 0) by decide)]
    by_cases hn : n = 0
    · rw [if_neg (show ¬ ((n : Int) - 1 > -1) by omega)]
      omega
    · rw [if_pos (show (n : Int) - 1 > -1 by omega), show (- -1 : Int) = 1 by decide, Int.ediv_one]
      omega
  rw [e]
  exact wpAny_pure h
theorem revc_applied {sl : Addr} {vs vu : Value} {n : Nat} {Q : Int × Int × Nat → Shared → Prop} (hs : s.heap.IsSliceOf sl .none vu vs) (ps : IsPart vs (some (-1))) (pu : IsPart vu (some 0)) (hn : 1 ≤ n) (h : Q ((n : Int) - 1, -1, n - 1) s) :
    wpAny (model prog w) A (Builtin.Slice.sliceApplied (.ref sl) (pure (Int.ofNat n))) Q E s := by
  obtain ⟨ob, h1, h2, h3⟩ := hs
  unfold Builtin.Slice.sliceApplied
  unfold Builtin.Slice.sliceFields
  refine wpAny_bind (wpAny_bind (wpAny_field h1 h3 (x := .none) rfl (wpAny_bind (wpAny_field h1 h3 (x := vu) rfl (wpAny_bind (wpAny_field h1 h3 (x := vs) rfl (wpAny_pure ?_)))))))
  refine wpAny_bind (HT.slicePart_ ps ?_)
  show wpAny _ _ (if ((-1 : Int) == 0) = true then _ else _) _ _ s
  rw [if_neg (show ¬ ((-1 : Int) == 0) = true by decide)]
  refine wpAny_bind (HT.slicePart_ .none (wpAny_bind (HT.slicePart_ pu (wpAny_bind (wpAny_pure ?_)))))
  have e0 : Builtin.Slice.sliceAdjust none (some 0) (-1) (Int.ofNat n) = ((n : Int) - 1, 0) := by
    unfold Builtin.Slice.sliceAdjust
    simp
    omega
  show wpAny _ _ (pure ((Builtin.Slice.sliceAdjust none (some 0) (-1) (Int.ofNat n)).1, (-1 : Int), Builtin.Slice.slicePlaces (Builtin.Slice.sliceAdjust none (some 0) (-1) (Int.ofNat n)).1 (Builtin.Slice.sliceAdjust none (some 0) (-1) (Int.ofNat n)).2 (-1))) _ _ s
  rw [e0]
  have e : Builtin.Slice.slicePlaces ((n : Int) - 1) 0 (-1) = n - 1 := by
    rw [Builtin.Slice.slicePlaces, if_neg (show ¬ ((-1 : Int) > 0) by decide)]
    by_cases h1 : n = 1
    · rw [if_neg (show ¬ ((n : Int) - 1 > 0) by omega)]
      omega
    · rw [if_pos (show (n : Int) - 1 > 0 by omega), show (- -1 : Int) = 1 by decide, Int.ediv_one]
      omega
  show wpAny _ _ (pure ((n : Int) - 1, (-1 : Int), Builtin.Slice.slicePlaces ((n : Int) - 1) 0 (-1))) _ _ s
  rw [e]
  exact wpAny_pure h
theorem fm_congr {α β : Type} {f g : α → Option β} : ∀ (l : List α), (∀ a ∈ l, f a = g a) → l.filterMap f = l.filterMap g
  | [], _ => rfl
  | a :: l, h => by
    rw [List.filterMap_cons, List.filterMap_cons, h a List.mem_cons_self, fm_congr l fun b hb => h b (List.mem_cons_of_mem _ hb)]
theorem rev_pick (xs : Array Value) : ((List.range xs.size).filterMap fun (k : Nat) => xs[((xs.size : Int) - 1 + (k : Int) * (-1)).toNat]?).toArray = xs.toList.reverse.toArray := by
  have h := PySem.W.krv_pick xs
  rw [← h]
  unfold slicePick
  rw [PySem.W.krv_bounds]
  show _ = ((sliceRange ((xs.size : Int) - 1) (-1) (-1)).filterMap (xs[·]?)).toArray
  rw [PySem.W.krv_sliceRange, List.filterMap_map]
  congr 1
  refine fm_congr _ fun k hk => ?_
  have hk := List.mem_range.mp hk
  show xs[((xs.size : Int) - 1 + (k : Int) * (-1)).toNat]? = xs[xs.size - 1 - k]?
  rw [show ((xs.size : Int) - 1 + (k : Int) * (-1)).toNat = xs.size - 1 - k by omega]
theorem rev_tuple {t sl : Addr} {items : Array Value} {vs : Value} {Q : Value → Shared → Prop} (ht : IsTup s.heap t items) (hs : s.heap.IsSliceOf sl .none .none vs) (ps : IsPart vs (some (-1))) (hz : items.size ≤ sizeLine)
    (h : Q (.ref s.heap.objs.size) { s with heap := s.heap.push { cls := .type "tuple", data := .seq items.toList.reverse.toArray } }) : wpAny (model prog w) A (getItem (.ref t) (.ref sl)) Q E s := by
  have fit : sizeOk (.seq items.toList.reverse.toArray) := by
    show items.toList.reverse.toArray.size ≤ sizeLine
    simpa using hz
  obtain ⟨ob, h1, h2, h3⟩ := id hs
  have hT : s.TypeIs (.ref sl) "slice" := ⟨ob, h1, h2⟩
  unfold getItem
  refine wpAny_holding ?_
  refine wpAny_bind (wpAny_sequenceKey ht.typeIs (by decide) (wpAny_bind ?_))
  refine (wpAny_callSpecial?_slot (name := Str.ofString "__getitem__") ht.typeIs PyProof.Rows.slot_tuple_getitem (wpAny_call_entry PyProof.Rows.slot_tuple_getitem ht.typeIs entry_tuple_getitem ?_ (args_tuple_getitem _ _)))
  change wpAny _ _ (Builtin.Tuple.tupleItemsOf (.ref t) >>= _) _ _ s
  refine wpAny_bind (tupleItemsOf_ ht (wpAny_bind (wpAny_typeOf hT ?_)))
  rw [if_pos (show (Value.type "slice" == Value.type "slice") = true by decide)]
  refine wpAny_bind (rev_applied hs ps ?_)
  show wpAny _ _ (if (((items.size : Int) - 1) == 0 && (-1 : Int) == 1 && items.size == items.size) = true then _ else _) _ _ s
  rw [if_neg (show ¬ (((items.size : Int) - 1) == 0 && (-1 : Int) == 1 && items.size == items.size) = true by simp), rev_pick]
  first
    | exact wpAny_bind (m := Builtin.Tuple.tupleExact _) (wpAny_newObj_type (wpAny_pure ⟨_, rfl, wpAny_pure h⟩) fit)
    | exact wpAny_bind (m := Builtin.Tuple.tupleExact _) (wpAny_newObj_type (wpAny_bind (wpAny_pure (wpAny_pure ⟨_, rfl, wpAny_pure h⟩))) fit)
    | exact wpAny_bind (wpAny_bind (m := Builtin.Tuple.tupleExact _) (wpAny_newObj_type (wpAny_pure (wpAny_pure ⟨_, rfl, wpAny_pure h⟩)) fit))
theorem revc_pick (xs : Array Value) (hn : 1 ≤ xs.size) : ((List.range (xs.size - 1)).filterMap fun (k : Nat) => xs[((xs.size : Int) - 1 + (k : Int) * (-1)).toNat]?).toArray = xs.toList.tail.reverse.toArray := by
  have h := rev_pick xs
  have h : ((List.range xs.size).filterMap fun (k : Nat) => xs[((xs.size : Int) - 1 + (k : Int) * (-1)).toNat]?) = xs.toList.reverse := by
    have := congrArg Array.toList h
    simpa using this
  have e1 : xs.size = (xs.size - 1) + 1 := by omega
  rw [e1, List.range_succ, List.filterMap_append, ← e1] at h
  have e2 : ∃ x ys, xs.toList = x :: ys := by
    rcases q : xs.toList with _ | ⟨x, ys⟩
    · have := congrArg List.length q
      simp at this
      subst this
      simp at hn
    · exact ⟨x, ys, rfl⟩
  obtain ⟨x, ys, e2⟩ := e2
  rw [e2, List.reverse_cons] at h
  have e3 : ([xs.size - 1].filterMap fun (k : Nat) => xs[((xs.size : Int) - 1 + (k : Int) * (-1)).toNat]?) = [x] := by
    have e4 : ((xs.size : Int) - 1 + ((xs.size - 1 : Nat) : Int) * (-1)).toNat = 0 := by omega
    have e5 : xs[0]? = some x := by
      rw [← Array.getElem?_toList, e2]
      rfl
    simp only [List.filterMap_cons, e4, e5, List.filterMap_nil]
  rw [e3] at h
  rw [e2, List.tail_cons, List.append_cancel_right h]
theorem revc_tuple {t sl : Addr} {items : Array Value} {vs vu : Value} {Q : Value → Shared → Prop} (ht : IsTup s.heap t items) (hs : s.heap.IsSliceOf sl .none vu vs) (ps : IsPart vs (some (-1))) (pu : IsPart vu (some 0)) (hn : 1 ≤ items.size) (hz : items.size ≤ sizeLine)
    (h : Q (.ref s.heap.objs.size) { s with heap := s.heap.push { cls := .type "tuple", data := .seq items.toList.tail.reverse.toArray } }) : wpAny (model prog w) A (getItem (.ref t) (.ref sl)) Q E s := by
  have fit : sizeOk (.seq items.toList.tail.reverse.toArray) := by
    show items.toList.tail.reverse.toArray.size ≤ sizeLine
    simp; omega
  obtain ⟨ob, h1, h2, h3⟩ := id hs
  have hT : s.TypeIs (.ref sl) "slice" := ⟨ob, h1, h2⟩
  unfold getItem
  refine wpAny_holding ?_
  refine wpAny_bind (wpAny_sequenceKey ht.typeIs (by decide) (wpAny_bind ?_))
  refine (wpAny_callSpecial?_slot (name := Str.ofString "__getitem__") ht.typeIs PyProof.Rows.slot_tuple_getitem (wpAny_call_entry PyProof.Rows.slot_tuple_getitem ht.typeIs entry_tuple_getitem ?_ (args_tuple_getitem _ _)))
  change wpAny _ _ (Builtin.Tuple.tupleItemsOf (.ref t) >>= _) _ _ s
  refine wpAny_bind (tupleItemsOf_ ht (wpAny_bind (wpAny_typeOf hT ?_)))
  rw [if_pos (show (Value.type "slice" == Value.type "slice") = true by decide)]
  refine wpAny_bind (revc_applied hs ps pu hn ?_)
  show wpAny _ _ (if (((items.size : Int) - 1) == 0 && (-1 : Int) == 1 && items.size - 1 == items.size) = true then _ else _) _ _ s
  rw [if_neg (show ¬ (((items.size : Int) - 1) == 0 && (-1 : Int) == 1 && items.size - 1 == items.size) = true by simp), revc_pick _ hn]
  first
    | exact wpAny_bind (m := Builtin.Tuple.tupleExact _) (wpAny_newObj_type (wpAny_pure ⟨_, rfl, wpAny_pure h⟩) fit)
    | exact wpAny_bind (m := Builtin.Tuple.tupleExact _) (wpAny_newObj_type (wpAny_bind (wpAny_pure (wpAny_pure ⟨_, rfl, wpAny_pure h⟩))) fit)
    | exact wpAny_bind (wpAny_bind (m := Builtin.Tuple.tupleExact _) (wpAny_newObj_type (wpAny_pure (wpAny_pure ⟨_, rfl, wpAny_pure h⟩)) fit))
end
section
variable {X : Cx}
def tRevT (K : PySem.W.Frag) (te : TE) : TE := fun σ H Q => te σ H fun x H1 => ∃ a xs, x = .ref a ∧ SqT K H1 a xs ∧ ∀ p, H1 p = none → Q (.ref p) (upd H1 p (.tup xs.reverse))
theorem pe_revT {e : Expr} {te : TE} {k : Nat} {p1 p2 p3 pos : Pos} (he : PE X e te) : PE X (.Subscript e (.Slice none none (some (.UnaryOp .USub (.Constant (.int 1) k p1) p2)) p3) pos) (tRevT X.K te) := by
  refine ⟨fun pins s σ H Q I h => Subscript_ (thn (he.run pins s σ H _ I h) fun v s1 ⟨x, H1, I1, r1, a, xs, ex, hx, q⟩ => ?_)⟩
  subst ex
  cases r1
  have nn : ∀ (s : Shared) (R : Value → Shared → Prop), R .none s → wpAny (model X.prog X.w) X.A (evalPart none X.env) R X.xe s := fun s R h => by
    rw [evalPart_none]
    exact wpAny_pure h
  refine wpAny_Slice (nn s1 _ (nn s1 _ (thn ((po_some (pe_un un_neg pe_int)).run pins s1 σ H1 (fun j G => j = some (-1) ∧ G = H1) I1 ⟨1, rfl, -1, rfl, rfl, rfl⟩) fun vs s4 ⟨j, H4, I4, ps, ej, eG⟩ => ?_)))
  subst ej eG
  have I5 : Inv X pins σ H4 { s4 with heap := s4.heap.push { cls := .type "slice", data := .fields #[.none, .none, vs] } } := I4.kept (t' := s4.toks) fun b ob q => Heap.get?_push_of_some _ q
  obtain ⟨its, r, ht, hz⟩ := I5.tuple hx
  have hlen := r.length
  show wpAny (model X.prog X.w) X.A (subscriptTail e (.Slice none none (some (.UnaryOp .USub (.Constant (.int 1) k p1) p2)) p3) (.ref a) (.ref s4.heap.objs.size)) (EP X pins σ Q) X.xe _
  refine tail_any (ops := [.ref a, .ref s4.heap.objs.size]) ht.typeIs PyProof.Rows.slot_tuple_getitem.lookup ?_ (by with_unfolding_all rfl)
  refine rev_tuple ht (Heap.IsSliceOf.new _ .none .none vs) ps (by rw [List.size_toArray]; omega) ?_
  refine ⟨.ref _, _, I5.laid (t' := s4.toks) (o := .tup xs.reverse) (fun b ob q => Heap.get?_push_of_some _ q) (Nat.le_refl _) ?_, rfl, q _ (I5.hok.fresh (Nat.le_refl _))⟩
  exact ⟨by rw [List.length_reverse]; exact hz, _, r.reverse, ⟨_, Heap.get?_push_size _ rfl, rfl, _, rfl⟩⟩
def tRevC (K : PySem.W.Frag) (te : TE) : TE := fun σ H Q => te σ H fun x H1 => ∃ a y xs, x = .ref a ∧ SqT K H1 a (y :: xs) ∧ ∀ p, H1 p = none → Q (.ref p) (upd H1 p (.tup xs.reverse))
theorem pe_revC {e : Expr} {te : TE} {k k0 : Nat} {p0 p1 p2 p3 pos : Pos} (he : PE X e te) : PE X (.Subscript e (.Slice none (some (.Constant (.int 0) k0 p0)) (some (.UnaryOp .USub (.Constant (.int 1) k p1) p2)) p3) pos) (tRevC X.K te) := by
  refine ⟨fun pins s σ H Q I h => Subscript_ (thn (he.run pins s σ H _ I h) fun v s1 ⟨x, H1, I1, r1, a, y, xs, ex, hx, q⟩ => ?_)⟩
  subst ex
  cases r1
  have nn : ∀ (s : Shared) (R : Value → Shared → Prop), R .none s → wpAny (model X.prog X.w) X.A (evalPart none X.env) R X.xe s := fun s R h => by
    rw [evalPart_none]
    exact wpAny_pure h
  refine wpAny_Slice (nn s1 _ (thn ((po_some pe_int).run pins s1 σ H1 (fun j G => j = some 0 ∧ G = H1) I1 ⟨0, rfl, rfl, rfl⟩) fun vu s3 ⟨j, H3, I3, pu, ej, eG⟩ => ?_))
  subst ej eG
  refine thn ((po_some (pe_un un_neg pe_int)).run pins s3 σ H3 (fun j G => j = some (-1) ∧ G = H3) I3 ⟨1, rfl, -1, rfl, rfl, rfl⟩) fun vs s4 ⟨j, H4, I4, ps, ej, eG⟩ => ?_
  subst ej eG
  have I5 : Inv X pins σ H4 { s4 with heap := s4.heap.push { cls := .type "slice", data := .fields #[.none, vu, vs] } } := I4.kept (t' := s4.toks) fun b ob q => Heap.get?_push_of_some _ q
  obtain ⟨its, r, ht, hz⟩ := I5.tuple hx
  have hlen := r.length
  show wpAny (model X.prog X.w) X.A (subscriptTail e (.Slice none (some (.Constant (.int 0) k0 p0)) (some (.UnaryOp .USub (.Constant (.int 1) k p1) p2)) p3) (.ref a) (.ref s4.heap.objs.size)) (EP X pins σ Q) X.xe _
  refine tail_any (ops := [.ref a, .ref s4.heap.objs.size]) ht.typeIs PyProof.Rows.slot_tuple_getitem.lookup ?_ (by with_unfolding_all rfl)
  refine revc_tuple ht (Heap.IsSliceOf.new _ .none vu vs) ps pu (by rw [List.size_toArray, ← hlen]; simp) (by rw [List.size_toArray]; omega) ?_
  refine ⟨.ref _, _, I5.laid (t' := s4.toks) (o := .tup xs.reverse) (fun b ob q => Heap.get?_push_of_some _ q) (Nat.le_refl _) ?_, rfl, q _ (I5.hok.fresh (Nat.le_refl _))⟩
  cases r with
  | cons r0 r => exact ⟨by rw [List.length_reverse]; simp at hz; omega, _, Vals.reverse r, ⟨_, Heap.get?_push_size _ rfl, rfl, _, rfl⟩⟩
theorem wc_isi {K : PySem.W.Frag} {g : G} {H : Hp} {x : V} {d : D} {t : String} {Q : VK} (hx : RT K g H x d) (eK : X.K = K) (ht : tyName t = true) (q : Q (.bl (isA d t)) H) : WC X (.builtin "isinstance") [x, .ty t] H Q := by
  subst eK
  have fin : ∀ (T : String), TyX X.K H x (.type T) → kitB T t = some (isA d t) → WC X (.builtin "isinstance") [x, .ty t] H Q := fun T h1 h2 =>
    WC.of call_isi ⟨x, .ty t, .type T, .type t, isA d t, rfl, .ty t, h1, kit_ty h2, q⟩
  have ht : t = "int" ∨ t = "bool" ∨ t = "str" ∨ t = "tuple" ∨ t = "list" ∨ t = "dict" := by
    simp only [tyName, Bool.or_eq_true, beq_iff_eq] at ht
    rcases ht with ((((h | h) | h) | h) | h) | h <;> simp [h]
  cases d with
  | none =>
    have e := hx.none
    subst e
    refine fin "NoneType" (.base .non) ?_
    rcases ht with rfl | rfl | rfl | rfl | rfl | rfl <;> rfl
  | bool b =>
    have e := hx.bool
    subst e
    refine fin "bool" (.base (.bl _)) ?_
    rcases ht with rfl | rfl | rfl | rfl | rfl | rfl <;> rfl
  | int b =>
    have e := hx.int
    subst e
    refine fin "int" (.base (.int _)) ?_
    rcases ht with rfl | rfl | rfl | rfl | rfl | rfl <;> rfl
  | str b =>
    have e := hx.str
    subst e
    refine fin "str" (.base (.str _)) ?_
    rcases ht with rfl | rfl | rfl | rfl | rfl | rfl <;> rfl
  | list ds =>
    obtain ⟨a, vs, rfl, s, _⟩ := hx.list
    refine fin "list" ?_ ?_
    · rcases s with (s | ⟨o, s⟩) | ⟨o, its, n, h1, h2, _⟩
      · exact .base (.lst s)
      · exact .base (.frz s)
      · exact .kList h1 h2
    · rcases ht with rfl | rfl | rfl | rfl | rfl | rfl <;> rfl
  | tuple ds =>
    obtain ⟨a, vs, rfl, s, _⟩ := hx.tuple
    refine fin "tuple" ?_ ?_
    · rcases s with (s | ⟨o, s⟩) | ⟨o, its, n, h1, h2, _⟩
      · exact .base (.tup s)
      · exact .fTuple s
      · exact .kTuple h1 h2
    · rcases ht with rfl | rfl | rfl | rfl | rfl | rfl <;> rfl
  | dict ds =>
    rcases hx with hx | ⟨a, rfl, hx⟩
    · cases hx with
      | dict z s r =>
        refine fin "dict" ?_ ?_
        · rcases s with s | ⟨o, s⟩
          · exact .base (.dK s)
          · exact .fDict s
        · rcases ht with rfl | rfl | rfl | rfl | rfl | rfl <;> rfl
    · obtain ⟨kvs, e, _⟩ := hx
      refine fin "dict" (.base (.dK e)) ?_
      rcases ht with rfl | rfl | rfl | rfl | rfl | rfl <;> rfl
end
end MP
/-! Expressions: the model does what is reckoned. -/
namespace MP
open PySem PyProof.Rows L2 PySem.Spec
/-- the context is the def law's -/
def LamHere (X : Cx) : Req → Prop
  | .lam => ∃ (f : Addr) (oc : Value) (od : Option Addr) (fd : FuncData) (osl : Array (Option Value)), X.mg "law" = some (.ref f) ∧ X.K.lookup f = some ⟨oc, od, .func fd, osl⟩ ∧ fd.code = X.env.code ∧ X.env.qual ++ "<lambda>" = lamQ fd
  | _ => True
def Rqs (X : Cx) (lv : Nat) (l : List Req) : Prop := ∀ r ∈ l, ReqOk X.prog X.w X.K X.mg X.base lv r ∧ LamHere X r
theorem Rqs.left {X : Cx} {lv : Nat} {a b : List Req} (h : Rqs X lv (a ++ b)) : Rqs X lv a := fun r hr => h r (List.mem_append_left _ hr)
theorem Rqs.right {X : Cx} {lv : Nat} {a b : List Req} (h : Rqs X lv (a ++ b)) : Rqs X lv b := fun r hr => h r (List.mem_append_right _ hr)
theorem Rqs.tail {X : Cx} {lv : Nat} {a : Req} {b : List Req} (h : Rqs X lv (a :: b)) : Rqs X lv b := fun r hr => h r (List.mem_cons_of_mem _ hr)
theorem Rqs.head {X : Cx} {lv : Nat} {a : Req} {b : List Req} (h : Rqs X lv (a :: b)) : ReqOk X.prog X.w X.K X.mg X.base lv a := (h a List.mem_cons_self).1
/-- where an expression is met -/
structure At (X : Cx) (W : WX) (N : List Str) (sc : Scope) (lv : Nat) (g : G) (H : Hp) (σ : L2.St) (env : Env) (st : Store) : Prop where
  c : CtxOk X W N sc lv
  ok : Ok X.K g H st
  en : EnvOk X.K g H σ env
  tl : TLs X.K X.mg X.base g.T
theorem At.on {X : Cx} {W : WX} {N : List Str} {sc : Scope} {lv : Nat} {g g1 : G} {H H1 : Hp} {σ : L2.St} {env : Env} {st st1 : Store} (a : At X W N sc lv g H σ env st) (s : Step g H g1 H1) (ok : Ok X.K g1 H1 st1) : At X W N sc lv g1 H1 σ env st1 :=
  ⟨a.c, ok, a.en.step s a.ok, by rw [s.t]; exact a.tl⟩
theorem At.tlOn {X : Cx} {W : WX} {N : List Str} {sc : Scope} {lv : Nat} {g g1 : G} {H H1 : Hp} {σ : L2.St} {env : Env} {st : Store} (a : At X W N sc lv g H σ env st) (s : Step g H g1 H1) : TLs X.K X.mg X.base g1.T := by
  rw [s.t]
  exact a.tl
abbrev WS_ (W : WX) (σ : L2.St) : Value → Option Addr → Hp → Prop := fun cls d H' => W cls d σ H'
def SimE (m : Ex) : Prop := ∀ {X : Cx} {W : WX} {N : List Str} {sc : Scope} {lv : Nat} {g : G} {H : Hp} {σ : L2.St} {env : Env} {st : Store} (e : Expr) (pk : Bool) (Q : VK), At X W N sc lv g H σ env st → mE N m sc e = true → Rqs X lv (rqE m) →
  Post X.K X.mg (WS_ W σ) (relE X.K pk) g H (evE m pk env st) Q → WE X e σ H Q
def SimT (m : Ex) : Prop := ∀ {X : Cx} {W : WX} {N : List Str} {sc : Scope} {lv : Nat} {g : G} {H : Hp} {σ : L2.St} {env : Env} {st : Store} (e : Expr) (Q : Bool → Hp → Prop), At X W N sc lv g H σ env st → mE N m sc e = true → Rqs X lv (rqE m) →
  Post X.K X.mg (WS_ W σ) relEq g H ((evE m true env st).bind fun x st => boolOf x st) Q → WT X e σ H Q ∧ ((∃ o vs p, e = .BoolOp o vs p) → WW X e σ H Q)
def SimV (m : Exs) : Prop := ∀ {X : Cx} {W : WX} {N : List Str} {sc : Scope} {lv : Nat} {g : G} {H : Hp} {σ : L2.St} {env : Env} {st : Store} (es : List Expr) (Q : List V → Hp → Prop), At X W N sc lv g H σ env st → mEs N m sc es = true → Rqs X lv (rqEs m) →
  Post X.K X.mg (WS_ W σ) (relV X.K) g H (evV m env st) Q → WA X es σ H Q
def SimA (m : Exs) : Prop := ∀ {X : Cx} {W : WX} {N : List Str} {sc : Scope} {lv : Nat} {g : G} {H : Hp} {σ : L2.St} {env : Env} {st : Store} (es : List Expr) (Q : List V → Hp → Prop), At X W N sc lv g H σ env st → mEs N m sc es = true → Rqs X lv (rqEs m) →
  Post X.K X.mg (WS_ W σ) (relD X.K) g H (evA m env st) Q → WA X es σ H Q
def SimP (m : Exs) : Prop := ∀ {X : Cx} {W : WX} {N : List Str} {sc : Scope} {lv : Nat} {g : G} {H : Hp} {σ : L2.St} {env : Env} {st : Store} (es : List Expr) (Q : List V → Hp → Prop), At X W N sc lv g H σ env st → mEs N m sc es = true → Rqs X lv (rqEs m) →
  Post X.K X.mg (WS_ W σ) (relT X.K) g H (evP m env st) Q → WA X es σ H Q
def SimO (m : Opt) : Prop := ∀ {X : Cx} {W : WX} {N : List Str} {sc : Scope} {lv : Nat} {g : G} {H : Hp} {σ : L2.St} {env : Env} {st : Store} (e : Option Expr) (Q : Option Int → Hp → Prop), At X W N sc lv g H σ env st → mO N m sc e = true → Rqs X lv (rqO m) →
  Post X.K X.mg (WS_ W σ) relEq g H (evO m env st) Q → WP X e σ H Q
theorem cond_true {a b : Bool} (h : (a && b) = true) : a = true ∧ b = true := Bool.and_eq_true_iff.mp h
theorem no_false {p : Prop} (h : false = true) : p := by cases h
theorem sim_var {i : Nat} : SimE (.var i) := by
  intro X W N sc lv g H σ env st e pk Q a hm hr h
  cases e <;> try exact no_false hm
  rename_i x pos
  obtain ⟨hm, h3⟩ := cond_true hm
  obtain ⟨h1, h2⟩ := cond_true hm
  have h1 : N[i]? = some x := of_decide_eq_true h1
  have hd := okName_debug h3
  simp only [evE] at h
  cases hs : env[i]? with
  | none => rw [hs] at h; exact h.elim
  | some s =>
    rw [hs] at h
    obtain ⟨y, hy, so⟩ := a.en.slot hs
    cases s with
    | un => exact h.elim
    | val v =>
      obtain ⟨w, rfl, r⟩ := so
      refine WE.of (pe_var (by rw [a.c.eN]; exact h1) (a.c.vis h2) hd.1 hd.2.1) ⟨w, hy, ?_⟩
      refine h g w H .refl a.ok ?_
      cases v with
      | loc n => exact r
      | dat d =>
        cases pk with
        | true => exact .inl r
        | false => exact r
    | own d =>
      obtain ⟨b, rfl, r⟩ := so
      cases pk with
      | false => exact h.elim
      | true =>
        refine WE.of (pe_var (by rw [a.c.eN]; exact h1) (a.c.vis h2) hd.1 hd.2.1) ⟨_, hy, ?_⟩
        exact h g _ H .refl a.ok (.inr ⟨b, rfl, r⟩)
theorem sim_cst {k : Lit} : SimE (.cst k) := by
  intro X W N sc lv g H σ env st e pk Q a hm hr h
  cases e <;> try exact no_false hm
  rename_i v j pos
  have h : Fin X.K pk g H st (plain k.d) Q := h
  cases k <;> cases v <;> try exact no_false hm
  · exact WE.of pe_non (h.plain a.ok .none)
  · cases of_decide_eq_true (show decide (_ = _) = true from hm)
    exact WE.of pe_bl (h.plain a.ok (.bool _))
  · cases of_decide_eq_true (show decide (_ = _) = true from hm)
    exact WE.of pe_int (h.plain a.ok (.int _))
  · cases of_decide_eq_true (show decide (_ = _) = true from hm)
    exact WE.of pe_str (h.plain a.ok (.str _))
theorem sim_glob {x : Str} {d : D} : SimE (.glob x d) := by
  intro X W N sc lv g H σ env st e pk Q a hm hr h
  cases e <;> try exact no_false hm
  rename_i y pos
  obtain ⟨hm, h3⟩ := cond_true hm
  obtain ⟨h1, h2⟩ := cond_true hm
  have h1 : x = y := of_decide_eq_true h1
  subst h1
  obtain ⟨u, v, hu, rv, rd⟩ := hr.head
  have h : Fin X.K pk g H st (plain d) Q := h
  exact WE.of (pe_glob (a.c.gl h2) hu rv (okName_debug h3).1) (h.plain a.ok (rd _ _))
theorem sim_neg {a : Ex} (ha : SimE a) : SimE (.neg a) := by
  intro X W N sc lv g H σ env st e pk Q at_ hm hr h
  cases e <;> try exact no_false hm
  rename_i o b pos
  obtain ⟨h1, h2⟩ := cond_true hm
  have h1 : o = .USub := of_decide_eq_true h1
  subst h1
  refine WE.of (pe_un un_neg pe_we) (ha b true _ at_ h2 hr (h.bind based_e fun x st1 g1 v H1 s1 o1 r1 h1 => ?_))
  obtain ⟨i, ei, h1⟩ := h1.int
  have e2 := (r1.rt ei).int
  subst e2
  have h1 : Fin X.K pk g1 H1 st1 (plain (.int (-i))) Q := h1
  exact ⟨i, rfl, h1.plain o1 (.int _)⟩
theorem sim_not {a : Ex} (ha : SimE a) : SimE (.not a) := by
  intro X W N sc lv g H σ env st e pk Q at_ hm hr h
  cases e <;> try exact no_false hm
  rename_i o b pos
  obtain ⟨h1, h2⟩ := cond_true hm
  have h1 : o = .Not := of_decide_eq_true h1
  subst h1
  refine WE.of (pe_not pe_we) (ha b true _ at_ h2 hr (h.bind based_e fun x st1 g1 v H1 s1 o1 r1 h1 => ?_))
  obtain ⟨i, ei, h1⟩ := h1.bool
  have e2 := (r1.rt ei).bool
  subst e2
  have h1 : Fin X.K pk g1 H1 st1 (plain (.bool (!i))) Q := h1
  exact ⟨i, rfl, h1.plain o1 (.bool _)⟩
theorem sim_bin {o : Op2} {a b : Ex} (ha : SimE a) (hb : SimE b) : SimE (.bin o a b) := by
  intro X W N sc lv g H σ env st e pk Q at_ hm hr h
  cases e <;> try exact no_false hm
  rename_i a' o' b' pos
  obtain ⟨hm, h3⟩ := cond_true hm
  obtain ⟨h1, h2⟩ := cond_true hm
  have h1 : opS o = o' := of_decide_eq_true h1
  subst h1
  refine WE.of (pe_op op_wo pe_we pe_we) (ha a' true _ at_ h2 hr.left (h.bind based_e fun x st1 g1 v H1 s1 o1 r1 h1 => ?_))
  obtain ⟨d, ed, h1⟩ := h1.dat
  refine hb b' true _ (at_.on s1 o1) h3 hr.right (h1.bind based_e fun y st2 g2 v2 H2 s2 o2 r2 h2 => ?_)
  obtain ⟨d2, ed2, h2⟩ := h2.dat
  obtain ⟨fr, r, er, h2⟩ := h2.bd
  exact bin_ok ((r1.rt ed).step s2 o1) (r2.rt ed2) rfl o2 er h2
theorem room_u {lv : Nat} {A : Around} (r : Room lv A) : A.units + 150 < cLine := by
  have := r.un
  omega
theorem sim_cmp {o : Cp} {a b : Ex} (ha : SimE a) (hb : SimE b) : SimE (.cmp o a b) := by
  intro X W N sc lv g H σ env st e pk Q at_ hm hr h
  cases e <;> try exact no_false hm
  rename_i a' os bs pos
  rcases os with _ | ⟨o', _ | ⟨_, _⟩⟩ <;> try exact no_false hm
  rcases bs with _ | ⟨b', _ | ⟨_, _⟩⟩ <;> try exact no_false hm
  obtain ⟨hm, h4⟩ := cond_true hm
  obtain ⟨hm, h3⟩ := cond_true hm
  obtain ⟨h1, h2⟩ := cond_true hm
  have h1 : cpS o = o' := of_decide_eq_true h1
  subst h1
  have hb4 : behindInMarks (cpS o) b' = false := by
    cases b' <;> first | rfl | exact no_false h4
  refine WE.of (pe_cmpR op_wo pe_we pe_we hb4) (ha a' true _ at_ h2 hr.left (h.bind based_e fun x st1 g1 v H1 s1 o1 r1 h1 => ?_))
  obtain ⟨d, ed, h1⟩ := h1.dat
  refine hb b' true _ (at_.on s1 o1) h3 hr.right (h1.bind based_e fun y st2 g2 v2 H2 s2 o2 r2 h2 => ?_)
  obtain ⟨d2, ed2, h2⟩ := h2.dat
  obtain ⟨b, eb, h2⟩ := h2.bb
  refine cmp_ok ((r1.rt ed).step s2 o1) (r2.rt ed2) rfl ?_ o2 eb (h2.plain o2 (.bool _))
  have := room_u at_.c.room
  omega
theorem sim_chain {o1 o2 : Cp} {a b k : Ex} (ha : SimE a) (hb : SimE b) (hk : SimE k) : SimE (.chain o1 o2 a b k) := by
  intro X W N sc lv g H σ env st e pk Q at_ hm hr h
  cases e <;> try exact no_false hm
  rename_i a' os bs pos
  rcases os with _ | ⟨p1, _ | ⟨p2, _ | ⟨_, _⟩⟩⟩ <;> try exact no_false hm
  rcases bs with _ | ⟨b', _ | ⟨c', _ | ⟨_, _⟩⟩⟩ <;> try exact no_false hm
  obtain ⟨hm, h6⟩ := cond_true hm
  obtain ⟨hm, h5⟩ := cond_true hm
  obtain ⟨hm, h4⟩ := cond_true hm
  obtain ⟨hm, h3⟩ := cond_true hm
  obtain ⟨h1, h2⟩ := cond_true hm
  have h1 : cpS o1 = p1 := of_decide_eq_true h1
  have h2 : cpS o2 = p2 := of_decide_eq_true h2
  subst h1 h2
  have hb4 : lastMarks [cpS o1, cpS o2] [b', c'] = false := by
    show behindInMarks (cpS o2) c' = false
    cases c' <;> first | rfl | exact no_false h6
  have hu := room_u at_.c.room
  refine WE.of (pe_chain op_wo op_wo pe_we pe_we pe_we hb4) (ha a' true _ at_ h3 hr.left.left (h.bind based_e fun x st1 g1 v H1 s1 o1 r1 h1 => ?_))
  obtain ⟨d, ed, h1⟩ := h1.dat
  refine hb b' true _ (at_.on s1 o1) h4 hr.left.right (h1.bind based_e fun y st2 g2 v2 H2 s2 o2 r2 h2 => ?_)
  obtain ⟨d2, ed2, h2⟩ := h2.dat
  obtain ⟨b, eb, h2⟩ := h2.opt
  refine cmp_ok ((r1.rt ed).step s2 o1) (r2.rt ed2) rfl (by omega) o2 eb ⟨b, rfl, ?_⟩
  cases b with
  | false =>
    have h2 : Fin X.K pk g2 H2 st2 (plain (.bool false)) Q := h2
    exact h2.plain o2 (.bool _)
  | true =>
    rw [if_pos rfl]
    refine hk c' true _ ((at_.on s1 o1).on s2 o2) h5 hr.right (Post.bind based_e h2 fun z st3 g3 v3 H3 s3 o3 r3 h3 => ?_)
    obtain ⟨d3, ed3, h3⟩ := h3.dat
    obtain ⟨b, eb, h3⟩ := h3.bb
    exact cmp_ok ((r2.rt ed2).step s3 o2) (r3.rt ed3) rfl (by omega) o3 eb (h3.plain o3 (.bool _))
theorem sim_and {a b : Ex} (ha : SimE a) (hb : SimE b) : SimE (.and a b) := by
  intro X W N sc lv g H σ env st e pk Q at_ hm hr h
  cases e <;> try exact no_false hm
  rename_i o vs pos
  obtain ⟨h1, hm⟩ := cond_true hm
  have h1 : o = .And := of_decide_eq_true h1
  subst h1
  have main : ∀ (a' b' : Expr) (r : List Expr), mE N a sc a' = true → (∀ {g1 : G} {H1 : Hp} {st1 : Store} (Q : VK), At X W N sc lv g1 H1 σ env st1 → Post X.K X.mg (WS_ W σ) (relE X.K true) g1 H1 (evE b true env st1) Q → WE X (.BoolOp .And (b' :: r) pos) σ H1 Q) →
      WE X (.BoolOp .And (a' :: b' :: r) pos) σ H Q := by
    intro a' b' r hma hbb
    refine WE.of (pe_and pe_we pe_we) (ha a' true _ at_ hma hr.left (h.bind based_e fun x st1 g1 v H1 s1 o1 r1 h1 => ?_))
    obtain ⟨i, ei, h1⟩ := h1.bool
    have e2 := (r1.rt ei).bool
    subst e2
    refine ⟨i, rfl, ?_⟩
    cases i with
    | false =>
      have h1 : Fin X.K pk g1 H1 st1 (plain (.bool false)) Q := h1
      exact h1.plain o1 (.bool _)
    | true =>
      rw [if_pos rfl]
      refine hbb Q (at_.on s1 o1) (Post.bind based_e h1 fun y st2 g2 v2 H2 s2 o2 r2 h2 => ?_)
      obtain ⟨k, ek, h2⟩ := h2.bool
      have e3 := (r2.rt ek).bool
      subst e3
      have h2 : Fin X.K pk g2 H2 st2 (plain (.bool k)) Q := h2
      exact h2.plain o2 (.bool _)
  rcases vs with _ | ⟨a', _ | ⟨b', _ | ⟨c', r⟩⟩⟩ <;> try exact no_false hm
  · obtain ⟨h2, h3⟩ := cond_true hm
    exact main a' b' [] h2 fun Q at1 h => WE.of (pe_one pe_we) (hb b' true _ at1 h3 hr.right h)
  · obtain ⟨h2, h3⟩ := cond_true hm
    exact main a' b' (c' :: r) h2 fun Q at1 h => hb _ true _ at1 h3 hr.right h
theorem sim_or {a b : Ex} (ha : SimE a) (hb : SimE b) : SimE (.or a b) := by
  intro X W N sc lv g H σ env st e pk Q at_ hm hr h
  cases e <;> try exact no_false hm
  rename_i o vs pos
  obtain ⟨h1, hm⟩ := cond_true hm
  have h1 : o = .Or := of_decide_eq_true h1
  subst h1
  have main : ∀ (a' b' : Expr) (r : List Expr), mE N a sc a' = true → (∀ {g1 : G} {H1 : Hp} {st1 : Store} (Q : VK), At X W N sc lv g1 H1 σ env st1 → Post X.K X.mg (WS_ W σ) (relE X.K true) g1 H1 (evE b true env st1) Q → WE X (.BoolOp .Or (b' :: r) pos) σ H1 Q) →
      WE X (.BoolOp .Or (a' :: b' :: r) pos) σ H Q := by
    intro a' b' r hma hbb
    refine WE.of (pe_or pe_we pe_we) (ha a' true _ at_ hma hr.left (h.bind based_e fun x st1 g1 v H1 s1 o1 r1 h1 => ?_))
    obtain ⟨i, ei, h1⟩ := h1.bool
    have e2 := (r1.rt ei).bool
    subst e2
    refine ⟨i, rfl, ?_⟩
    cases i with
    | true =>
      have h1 : Fin X.K pk g1 H1 st1 (plain (.bool true)) Q := h1
      exact h1.plain o1 (.bool _)
    | false =>
      simp only [if_neg Bool.false_ne_true]
      refine hbb Q (at_.on s1 o1) (Post.bind based_e h1 fun y st2 g2 v2 H2 s2 o2 r2 h2 => ?_)
      obtain ⟨k, ek, h2⟩ := h2.bool
      have e3 := (r2.rt ek).bool
      subst e3
      have h2 : Fin X.K pk g2 H2 st2 (plain (.bool k)) Q := h2
      exact h2.plain o2 (.bool _)
  rcases vs with _ | ⟨a', _ | ⟨b', _ | ⟨c', r⟩⟩⟩ <;> try exact no_false hm
  · obtain ⟨h2, h3⟩ := cond_true hm
    exact main a' b' [] h2 fun Q at1 h => WE.of (pe_one pe_we) (hb b' true _ at1 h3 hr.right h)
  · obtain ⟨h2, h3⟩ := cond_true hm
    exact main a' b' (c' :: r) h2 fun Q at1 h => hb _ true _ at1 h3 hr.right h
theorem sim_ite {c a b : Ex} (hc : SimT c) (ha : SimE a) (hb : SimE b) : SimE (.ite c a b) := by
  intro X W N sc lv g H σ env st e pk Q at_ hm hr h
  cases e <;> try exact no_false hm
  rename_i c' a' b' pos
  obtain ⟨hm, h3⟩ := cond_true hm
  obtain ⟨h1, h2⟩ := cond_true hm
  have h : Post X.K X.mg (WS_ W σ) (relE X.K pk) g H (((evE c true env st).bind fun x st => boolOf x st).bind fun k st => bif k then evE a pk env st else evE b pk env st) Q := by
    have e : evE (.ite c a b) pk env st = (((evE c true env st).bind fun x st => boolOf x st).bind fun k st => bif k then evE a pk env st else evE b pk env st) := by
      simp only [evE]
      cases evE c true env st <;> rfl
    rw [← e]
    exact h
  refine WE.of (pe_ifExp pt_wt pe_we pe_we) ((hc c' _ at_ h1 hr.left.left (Post.bind based_e h fun k st1 g1 v H1 s1 o1 r1 h1 => ?_)).1)
  have r1 : v = k := r1
  subst r1
  cases v with
  | true =>
    rw [if_pos rfl]
    exact ha a' pk _ (at_.on s1 o1) h2 hr.left.right h1
  | false =>
    simp only [if_neg Bool.false_ne_true]
    exact hb b' pk _ (at_.on s1 o1) h3 hr.right h1
theorem sim_tup {es : Exs} (hs : SimA es) : SimE (.tup es) := by
  intro X W N sc lv g H σ env st e pk Q at_ hm hr h
  cases e <;> try exact no_false hm
  rename_i es' k pos
  refine WE.of (pe_tup pa_wa) (hs es' _ at_ hm hr (Post.bind based_e h fun ds st1 g1 vs H1 s1 o1 r1 h1 => ?_))
  obtain ⟨hz, h1⟩ := h1.cond
  have h1 : Fin X.K pk g1 H1 st1 (plain (.tuple ds)) Q := h1
  exact ⟨by rw [r1.length]; exact of_decide_eq_true hz, fun p n => h1.tup o1 r1 n⟩
theorem sim_lst {es : Exs} (hs : SimA es) : SimE (.lst es) := by
  intro X W N sc lv g H σ env st e pk Q at_ hm hr h
  cases e <;> try exact no_false hm
  rename_i es' pos
  refine WE.of (pe_lst pa_wa) (hs es' _ at_ hm hr (Post.bind based_e h fun ds st1 g1 vs H1 s1 o1 r1 h1 => ?_))
  obtain ⟨hz, h1⟩ := h1.cond
  have h1 : Fin X.K pk g1 H1 st1 (fresh (.list ds)) Q := h1
  exact ⟨by rw [r1.length]; exact of_decide_eq_true hz, fun p n => h1.lst o1 r1 n⟩
theorem plainIx_ok {e : Expr} (h : plainIx e = true) : PlainIx e ∧ NoSl e := by
  cases e <;> first | exact no_false h | exact ⟨fun _ _ => rfl, fun _ _ => rfl⟩
theorem RKV.get {K : PySem.W.Frag} {g : G} {H : Hp} {s : Str} {x : Val} : ∀ {kv : List (Key × V)} {kvs : List (Str × Val)}, RKV K g H kv kvs → kvs.lookup s = some x → ∃ v, valV kv (.inr s) = some v ∧ RVal K g H v x
  | _, _, .nil, e => by simp at e
  | _, _, .cons (k := k) (v := v) r t, e => by
    by_cases hk : s = k
    · subst hk
      rw [List.lookup_cons_self] at e
      cases e
      exact ⟨v, valV_pos rfl, r⟩
    · rw [List.lookup_cons, show (s == k) = false from beq_eq_false_iff_ne.mpr hk] at e
      obtain ⟨w, h1, h2⟩ := t.get e
      exact ⟨w, by rw [valV_neg (fun q => hk (Sum.inr.inj q).symm)]; exact h1, h2⟩
theorem sim_ix {a b : Ex} (ha : SimE a) (hb : SimE b) : SimE (.ix a b) := by
  intro X W N sc lv g H σ env st e pk Q at_ hm hr h
  cases e <;> try exact no_false hm
  rename_i a' b' pos
  obtain ⟨hm, h3⟩ := cond_true hm
  obtain ⟨h1, h2⟩ := cond_true hm
  have hp := plainIx_ok h1
  have hu := room_u at_.c.room
  have h : Post X.K X.mg (WS_ W σ) (relE X.K pk) g H ((evE a true env st).bind fun x st => (evE b true env st).bind fun y st => ixV x y st) Q := h
  cases ea : evE a true env st with
  | no =>
    rw [ea] at h
    exact h.elim
  | exc c ds st1 =>
    rw [ea] at h
    refine WE.of (pe_ix ix_seq pe_we pe_we hp.1) (ha a' true _ at_ h2 hr.left ?_)
    rw [ea]
    exact h
  | ok x st1 =>
    rw [ea] at h
    have h : Post X.K X.mg (WS_ W σ) (relE X.K pk) g H ((evE b true env st1).bind fun y st => ixV x y st) Q := h
    obtain ⟨fx, x⟩ := x
    cases x with
    | dat d =>
      refine WE.of (pe_ix ix_seq pe_we pe_we hp.1) (ha a' true _ at_ h2 hr.left ?_)
      rw [ea]
      intro g1 v H1 s1 o1 r1
      refine hb b' true _ (at_.on s1 o1) h3 hr.right (Post.bind based_e (h.later based_e s1) fun y st2 g2 v2 H2 s2 o2 r2 h2 => ?_)
      have rx := (r1.rt rfl).step s2 o1
      obtain ⟨fy, y⟩ := y
      cases y with
      | loc n => cases d <;> exact h2.elim
      | dat e =>
        have re := r2.rt rfl
        have seq : ∀ {ds : List D} {k : Int}, seqOf d = some ds → e = .int k → Post X.K X.mg (WS_ W σ) (relE X.K pk) g2 H2 (match ixD ds k with | some d => .ok (plain d) st2 | none => .no) Q → rIx X.K v v2 H2 Q := by
          intro ds k e1 e2 h3
          subst e2
          have e3 := re.int
          subst e3
          cases hd : ixD ds k with
          | none =>
            rw [hd] at h3
            exact h3.elim
          | some r =>
            rw [hd] at h3
            exact ix_rd rx e1 hd rfl o2 h3
        cases d <;> cases e <;> first | exact h2.elim | exact seq rfl rfl h2
    | loc n =>
      refine WE.of (pe_dget (by omega) pe_we pe_we hp.2) (ha a' true _ at_ h2 hr.left ?_)
      rw [ea]
      intro g1 v H1 s1 o1 r1
      refine hb b' true _ (at_.on s1 o1) h3 hr.right (Post.bind based_e (h.later based_e s1) fun y st2 g2 v2 H2 s2 o2 r2 h2 => ?_)
      have rv : RVal X.K g1 H1 v (.loc n) := by cases fx <;> exact r1
      obtain ⟨p, hp1, rfl⟩ := rv.step s2 o1
      obtain ⟨fy, y⟩ := y
      cases y with
      | loc n => exact h2.elim
      | dat e =>
        cases e <;> try exact h2.elim
        rename_i z
        have e2 := (r2.rt rfl).str
        subst e2
        have h2 : Post X.K X.mg (WS_ W σ) (relE X.K pk) g2 H2 (match st2[n]? with
          | some (.dic kvs) => (match kvs.lookup z with | some v => .ok ⟨false, v⟩ st2 | none => .no)
          | _ => .no) Q := h2
        cases hn : st2[n]? with
        | none =>
          rw [hn] at h2
          exact h2.elim
        | some c =>
          rw [hn] at h2
          cases c with
          | lst xs => exact h2.elim
          | dic kvs =>
            obtain ⟨kv, ek, rk⟩ := o2.cell n p _ hp1 hn
            have h2 : Post X.K X.mg (WS_ W σ) (relE X.K pk) g2 H2 (match kvs.lookup z with | some v => .ok ⟨false, v⟩ st2 | none => .no) Q := h2
            cases hl : kvs.lookup z with
            | none =>
              rw [hl] at h2
              exact h2.elim
            | some y =>
              rw [hl] at h2
              obtain ⟨w, e1, rw1⟩ := rk.get hl
              refine ⟨p, w, rfl, ?_, h2 g2 w H2 .refl o2 ?_⟩
              · have q := DGet.k (k := .inr z) ek
                rw [e1] at q
                exact q
              · cases y with
                | loc n => exact rw1
                | dat d =>
                  cases pk with
                  | true => exact .inl rw1
                  | false => exact rw1
theorem sim_slice {a : Ex} {lo hi : Opt} (ha : SimE a) (hl : SimO lo) (hh : SimO hi) : SimE (.slice a lo hi) := by
  intro X W N sc lv g H σ env st e pk Q at_ hm hr h
  cases e <;> try exact no_false hm
  rename_i a' s pos
  cases s <;> try exact no_false hm
  rename_i l u z p2
  cases z <;> try exact no_false hm
  obtain ⟨hm, h3⟩ := cond_true hm
  obtain ⟨h1, h2⟩ := cond_true hm
  refine WE.of (pe_slice sl_data pe_we po_wp po_wp) (ha a' true _ at_ h1 hr.left.left (h.bind based_e fun x st1 g1 v H1 s1 o1 r1 h1 => ?_))
  obtain ⟨d, ed, h1⟩ := h1.dat
  refine hl l _ (at_.on s1 o1) h2 hr.left.right (Post.bind based_e h1 fun l st2 g2 v2 H2 s2 o2 r2 h2 => ?_)
  have r2 : v2 = l := r2
  subst r2
  refine hh u _ ((at_.on s1 o1).on s2 o2) h3 hr.right (Post.bind based_e h2 fun u st3 g3 v3 H3 s3 o3 r3 h3 => ?_)
  have r3 : v3 = u := r3
  subst r3
  obtain ⟨fr, r, er, h3⟩ := h3.bd
  exact slice_rd (((r1.rt ed).step s2 o1).step s3 o2) er rfl o3 h3
theorem Fin.later {K : PySem.W.Frag} {pk : Bool} {g g1 : G} {H H1 : Hp} {st : Store} {x : RV} {Q : VK} (h : Fin K pk g H st x Q) (s : Step g H g1 H1) : Fin K pk g1 H1 st x Q := fun g' v H' s' o q => h g' v H' (s.trans s') o (based_e _ _ _ _ _ _ s.gone q)
theorem sim_rev {a : Ex} (ha : SimE a) : SimE (.rev a) := by
  intro X W N sc lv g H σ env st e pk Q at_ hm hr h
  cases e <;> try exact no_false hm
  rename_i a' s pos
  cases s <;> try exact no_false hm
  rename_i l u z p2
  cases l <;> cases u <;> cases z <;> try exact no_false hm
  rename_i z
  cases z <;> try exact no_false hm
  rename_i o z p3
  cases o <;> cases z <;> try exact no_false hm
  rename_i k j p4
  cases k <;> try exact no_false hm
  rename_i i
  obtain ⟨h1, h2⟩ := cond_true hm
  have h1 : i = 1 := of_decide_eq_true h1
  subst h1
  have h : Post X.K X.mg (WS_ W σ) (relE X.K pk) g H ((evE a true env st).bind fun x st => (datOf x st).bind fun x st => ofBD (revD x) st) Q := h
  cases ea : evE a true env st with
  | no =>
    rw [ea] at h
    exact h.elim
  | exc c ds st1 =>
    rw [ea] at h
    refine WE.of (pe_revL pe_we) (ha a' true _ at_ h2 hr ?_)
    rw [ea]
    exact h
  | ok x st1 =>
    rw [ea] at h
    obtain ⟨d, ed, h⟩ := Post.dat (x := x) (st := st1) h
    obtain ⟨fr, r, er, h⟩ := h.bd
    cases d <;> simp only [revD] at er <;> try cases er
    · refine WE.of (pe_revL pe_we) (ha a' true _ at_ h2 hr ?_)
      rw [ea]
      intro g1 v H1 s1 o1 r1
      obtain ⟨b, vs, rfl, sq, rd⟩ := (r1.rt ed).list
      have h := h.later s1
      exact ⟨b, vs, rfl, sq, fun p n => h.lst o1 rd.reverse n⟩
    · refine WE.of (pe_revT pe_we) (ha a' true _ at_ h2 hr ?_)
      rw [ea]
      intro g1 v H1 s1 o1 r1
      obtain ⟨b, vs, rfl, sq, rd, _⟩ := (r1.rt ed).tuple
      have h := h.later s1
      exact ⟨b, vs, rfl, sq, fun p n => h.tup o1 rd.reverse n⟩
theorem sim_revc {a : Ex} (ha : SimE a) : SimE (.revc a) := by
  intro X W N sc lv g H σ env st e pk Q at_ hm hr h
  cases e <;> try exact no_false hm
  rename_i a' s pos
  cases s <;> try exact no_false hm
  rename_i l u z p2
  cases l <;> try exact no_false hm
  rcases u with _ | u <;> try exact no_false hm
  cases u <;> try exact no_false hm
  rename_i k0 j0 p0
  cases k0 <;> try exact no_false hm
  rename_i i0
  rcases z with _ | z <;> try exact no_false hm
  cases z <;> try exact no_false hm
  rename_i o z p3
  cases o <;> try exact no_false hm
  cases z <;> try exact no_false hm
  rename_i k j p4
  cases k <;> try exact no_false hm
  rename_i i
  obtain ⟨hm, h2⟩ := cond_true hm
  obtain ⟨h0, h1⟩ := cond_true hm
  have h1 : i = 1 := of_decide_eq_true h1
  have h0 : i0 = 0 := of_decide_eq_true h0
  subst h1 h0
  have h : Post X.K X.mg (WS_ W σ) (relE X.K pk) g H ((evE a true env st).bind fun x st => (datOf x st).bind fun x st => ofBD (revcD x) st) Q := h
  refine WE.of (pe_revC pe_we) (ha a' true _ at_ h2 hr (h.bind based_e fun x st1 g1 v H1 s1 o1 r1 h1 => ?_))
  obtain ⟨d, ed, h1⟩ := h1.dat
  obtain ⟨fr, r, er, h1⟩ := h1.bd
  cases d <;> simp only [revcD] at er <;> try cases er
  rename_i ds
  rcases ds with _ | ⟨d0, ds⟩
  · cases er
  · cases er
    obtain ⟨b, vs, rfl, sq, rd, _⟩ := (r1.rt ed).tuple
    cases rd with
    | cons r0 rd => exact ⟨b, _, _, rfl, sq, fun p n => h1.tup o1 rd.reverse n⟩
theorem sim_call {x : Str} {sem : Fn} {es : Exs} (hs : SimV es) : SimE (.call x sem es) := by
  intro X W N sc lv g H σ env st e pk Q at_ hm hr h
  cases e <;> try exact no_false hm
  rename_i f args kws pos
  cases f <;> cases kws <;> try exact no_false hm
  rename_i y p
  obtain ⟨hm, h5⟩ := cond_true hm
  obtain ⟨hm, h4⟩ := cond_true hm
  obtain ⟨hm, h3⟩ := cond_true hm
  obtain ⟨h1, h2⟩ := cond_true hm
  have h1 : x = y := of_decide_eq_true h1
  subst h1
  have h : Post X.K X.mg (WS_ W σ) (relE X.K pk) g H ((evV es env st).bind fun vs st => sem vs st) Q := h
  have to : ∀ {g1 : G} {H1 : Hp} {r : R RV}, Post X.K X.mg (WS_ W σ) (relE X.K pk) g1 H1 r Q → Post X.K X.mg (WS_ W σ) (relE X.K false) g1 H1 r Q := by
    intro g1 H1 r q
    cases r with
    | no => exact q
    | exc c ds st => exact q
    | ok x st =>
      intro g' v H' s o w
      refine q g' v H' s o ?_
      cases pk with
      | false => exact w
      | true =>
        obtain ⟨fr, y⟩ := x
        cases y with
        | loc n => cases fr <;> exact w
        | dat d =>
          cases fr with
          | true => exact w
          | false => exact .inl w
  cases args with
  | nil =>
    cases es <;> try exact no_false h5
    exact we_call0 at_.c hr.head h2 h3 ⟨g, st, at_.ok, at_.tl, to h⟩
  | cons e1 r =>
    refine we_call at_.c hr.head h2 h3 h4 (hs _ _ at_ h5 hr.tail (Post.bind based_e h fun vals st1 g1 vs H1 s1 o1 r1 h1 => ⟨g1, vals, st1, r1, o1, by rw [s1.t]; exact at_.tl, to h1⟩))
theorem sim_blt {f : Blt} {es : Exs} (hs : SimP es) : SimE (.blt f es) := by
  intro X W N sc lv g H σ env st e pk Q at_ hm hr h
  cases e <;> try exact no_false hm
  rename_i z args kws pos
  cases z <;> cases kws <;> try exact no_false hm
  rename_i y p
  obtain ⟨hm, h5⟩ := cond_true hm
  obtain ⟨hm, h4⟩ := cond_true hm
  obtain ⟨hm, h3⟩ := cond_true hm
  obtain ⟨h1, h2⟩ := cond_true hm
  have h1 : f.name = y := of_decide_eq_true h1
  subst h1
  cases args with
  | nil => exact no_false h3
  | cons e1 r =>
    refine we_blt at_.c hr.head h2 h4 (hs _ _ at_ h5 hr.tail (Post.bind based_e h fun ds st1 g1 vs H1 s1 o1 r1 h1 => ?_))
    obtain ⟨fr, r, er, h1⟩ := h1.bd
    exact blt_ok at_.c.sm at_.c.guards (room_u at_.c.room) at_.c.calm r1 rfl o1 er h1
theorem sim_isi {a : Ex} {ts : List String} (ha : SimE a) : SimE (.isi a ts) := by
  intro X W N sc lv g H σ env st e pk Q at_ hm hr h
  cases e <;> try exact no_false hm
  rename_i z args kws pos
  cases z <;> cases kws <;> try exact no_false hm
  rename_i y p
  rcases args with _ | ⟨a', _ | ⟨t', _ | ⟨_, _⟩⟩⟩ <;> try exact no_false hm
  obtain ⟨hm, h5⟩ := cond_true hm
  obtain ⟨hm, h4⟩ := cond_true hm
  obtain ⟨hm, h3⟩ := cond_true hm
  obtain ⟨h1, h2⟩ := cond_true hm
  have h1 : y = "isinstance" := of_decide_eq_true h1
  subst h1
  rcases ts with _ | ⟨t, _ | ⟨_, _⟩⟩ <;> try exact no_false h5
  cases t' <;> try exact no_false h5
  rename_i z q
  obtain ⟨h5, h9⟩ := cond_true h5
  obtain ⟨h5, h8⟩ := cond_true h5
  obtain ⟨h5, h7⟩ := cond_true h5
  obtain ⟨h5, h6⟩ := cond_true h5
  have h5 : z = Str.ofString t := of_decide_eq_true h5
  subst h5
  have hd := okName_debug h7
  have hmt : X.mg (Str.ofString t) = none := hr.tail.left.head
  have rest : PA X [Expr.Name (Str.ofString t) q] (tCons (tC (.ty t)) tNil) := pa_cons (pe_bltn (at_.c.gl h6) hmt (of_decide_eq_true h9) (v := .ty t) rfl hd.2.2 hd.1) pa_nil
  refine WE.of (pe_callB (r := wcr X (.builtin "isinstance")) cr_wc (at_.c.gl h2) hr.head (by decide +kernel) (pa_cons (pe_we (e := a')) rest (starEach_cons h4)) (by decide) (by decide) (starEach_cons h4) (by rfl)) ?_
  refine ha a' true _ at_ h3 (fun r hr' => hr r ?_) (Post.bind based_e h fun x st1 g1 v H1 s1 o1 r1 h1 => ?_)
  · exact List.mem_append_right _ hr'
  · obtain ⟨d, ed, h1⟩ := h1.dat
    have h1 : Fin X.K pk g1 H1 st1 (plain (.bool ([t].any (isA d)))) Q := h1
    refine wc_isi (r1.rt ed) rfl h8 ?_
    have q := h1.plain o1 (.bool _)
    simpa using q
end MP
/-! Arguments, parts, tests. -/
namespace MP
open PySem PyProof.Rows L2 PySem.Spec
section
variable {K : PySem.W.Frag} {mg : Str → Option Value} {W : Value → Option Addr → Hp → Prop} {g g1 : G} {H H1 H2 : Hp} {st st1 : Store}
variable {α β γ δ : Type} {Rl : Hp → G → Hp → β → α → Prop} {Rm : Hp → G → Hp → δ → γ → Prop}
theorem Post.bindF {r : R α} {f : α → Store → R γ} {Q : δ → Hp → Prop} {Q1 : β → Hp → Prop} (b : Based Rm) (h : Post K mg W Rm g H (r.bind f) Q)
    (k : ∀ x st g1 v H1, Step g H g1 H1 → Ok K g1 H1 st → Rl H g1 H1 v x → (∀ g' H', Step g H g' H' → Post K mg W Rm g' H' (f x st) Q) → Q1 v H1) : Post K mg W Rl g H r Q1 := by
  cases r with
  | ok x st => exact fun g' v H' s o q => k x st g' v H' s o q fun g2 H2 s2 => h.later b s2
  | exc c ds st => exact h
  | no => exact h
end
theorem simV_nil : SimV .nil := by
  intro X W N sc lv g H σ env st es Q at_ hm hr h
  cases es <;> try exact no_false hm
  exact WA.of pa_nil (h g [] H .refl at_.ok .nil)
theorem simA_nil : SimA .nil := by
  intro X W N sc lv g H σ env st es Q at_ hm hr h
  cases es <;> try exact no_false hm
  exact WA.of pa_nil (h g [] H .refl at_.ok .nil)
theorem simP_nil : SimP .nil := by
  intro X W N sc lv g H σ env st es Q at_ hm hr h
  cases es <;> try exact no_false hm
  exact WA.of pa_nil (h g [] H .refl at_.ok .nil)
theorem simV_cons {e : Ex} {es : Exs} (he : SimE e) (hs : SimV es) : SimV (.cons e es) := by
  intro X W N sc lv g H σ env st l Q at_ hm hr h
  cases l <;> try exact no_false hm
  rename_i e' r'
  obtain ⟨hm, h3⟩ := cond_true hm
  obtain ⟨h1, h2⟩ := cond_true hm
  refine WA.of (pa_cons pe_we pa_wa (starEach_cons h1)) (he e' false _ at_ h2 hr.left (Post.bindF based_v h fun x st1 g1 v H1 s1 o1 r1 h1 => ?_))
  obtain ⟨g2, s2, o2, r2⟩ := r1.frozenV s1 o1
  refine hs r' _ (at_.on s2 o2) h3 hr.right (Post.bind based_v (h1 g2 H1 s2) fun vs st3 g3 us H3 s3 o3 r3 h3 => ?_)
  exact h3 g3 (v :: us) H3 .refl o3 (.cons (r2.step s3 o2) r3)
theorem simA_cons {e : Ex} {es : Exs} (he : SimE e) (hs : SimA es) : SimA (.cons e es) := by
  intro X W N sc lv g H σ env st l Q at_ hm hr h
  cases l <;> try exact no_false hm
  rename_i e' r'
  obtain ⟨hm, h3⟩ := cond_true hm
  obtain ⟨h1, h2⟩ := cond_true hm
  refine WA.of (pa_cons pe_we pa_wa (starEach_cons h1)) (he e' false _ at_ h2 hr.left (Post.bindF based_d h fun x st1 g1 v H1 s1 o1 r1 h1 => ?_))
  obtain ⟨d, ed, _⟩ := Post.dat (h1 g1 H1 s1)
  obtain ⟨g2, s2, o2, r2, _⟩ := r1.frozen s1 o1 ed
  obtain ⟨d', ed', h1⟩ := Post.dat (h1 g2 H1 s2)
  cases ed.symm.trans ed'
  refine hs r' _ (at_.on s2 o2) h3 hr.right (Post.bind based_d h1 fun vs st3 g3 us H3 s3 o3 r3 h3 => ?_)
  exact h3 g3 (v :: us) H3 .refl o3 (.cons (RD.holds (s3.holds o2) r2) r3)
theorem RDs.step {K : PySem.W.Frag} {g g1 : G} {H H1 : Hp} {st : Store} {vs : List V} {ds : List D} (s : Step g H g1 H1) (o : Ok K g H st) (h : RDs K g.Z H vs ds) : RDs K g1.Z H1 vs ds := RDs.holds (s.holds o) h
theorem simA_star {e : Ex} {es : Exs} (he : SimE e) (hs : SimA es) : SimA (.star e es) := by
  intro X W N sc lv g H σ env st l Q at_ hm hr h
  cases l <;> try exact no_false hm
  rename_i e' r'
  cases e' <;> try exact no_false hm
  rename_i e' p
  obtain ⟨h1, h2⟩ := cond_true hm
  refine wa_star (he e' true _ at_ h1 hr.left (Post.bind based_d h fun x st1 g1 v H1 s1 o1 r1 h1 => ?_))
  obtain ⟨d, ed, h1⟩ := h1.dat
  obtain ⟨ds, es, h1⟩ := h1.opt
  refine ⟨g1, d, ds, r1.rt ed, es, fun vs rv => ?_⟩
  refine hs r' _ (at_.on s1 o1) h2 hr.right (Post.bind based_d h1 fun vs2 st3 g3 us H3 s3 o3 r3 h3 => ?_)
  exact h3 g3 (vs ++ us) H3 .refl o3 ((RDs.step s3 o1 rv).append r3)
theorem simV_star {e : Ex} {es : Exs} : SimV (.star e es) := by
  intro X W N sc lv g H σ env st l Q at_ hm hr h
  exact h.elim
theorem simP_star {e : Ex} {es : Exs} : SimP (.star e es) := by
  intro X W N sc lv g H σ env st l Q at_ hm hr h
  exact h.elim
theorem simP_cons {e : Ex} {es : Exs} (he : SimE e) (hs : SimP es) : SimP (.cons e es) := by
  intro X W N sc lv g H σ env st l Q at_ hm hr h
  cases l <;> try exact no_false hm
  rename_i e' r'
  obtain ⟨hm, h3⟩ := cond_true hm
  obtain ⟨h1, h2⟩ := cond_true hm
  refine WA.of (pa_cons pe_we pa_wa (starEach_cons h1)) (he e' true _ at_ h2 hr.left (Post.bind based_t h fun x st1 g1 v H1 s1 o1 r1 h1 => ?_))
  obtain ⟨d, ed, h1⟩ := h1.dat
  refine hs r' _ (at_.on s1 o1) h3 hr.right (Post.bind based_t h1 fun vs st3 g3 us H3 s3 o3 r3 h3 => ?_)
  exact h3 g3 (v :: us) H3 .refl o3 (.cons ((r1.rt ed).step s3 o1) r3)
theorem simO_non : SimO .non := by
  intro X W N sc lv g H σ env st e Q at_ hm hr h
  cases e <;> try exact no_false hm
  exact WP.of po_none (h g _ H .refl at_.ok rfl)
theorem simO_som {e : Ex} (he : SimE e) : SimO (.som e) := by
  intro X W N sc lv g H σ env st l Q at_ hm hr h
  cases l <;> try exact no_false hm
  rename_i e'
  refine WP.of (po_some pe_we) (he e' true _ at_ hm hr (Post.bind based_eq h fun x st1 g1 v H1 s1 o1 r1 h1 => ?_))
  obtain ⟨i, ei, h1⟩ := h1.int
  have e2 := (r1.rt ei).int
  subst e2
  exact ⟨i, rfl, h1 g1 _ H1 .refl o1 rfl⟩
/-! ### tests -/
/-- a test by its value -/
theorem simT_val {m : Ex} (he : SimE m) {X : Cx} {W : WX} {N : List Str} {sc : Scope} {lv : Nat} {g : G} {H : Hp} {σ : L2.St} {env : Env} {st : Store} {e : Expr} {Q : Bool → Hp → Prop} (at_ : At X W N sc lv g H σ env st) (hm : mE N m sc e = true) (hr : Rqs X lv (rqE m))
    (h : Post X.K X.mg (WS_ W σ) relEq g H ((evE m true env st).bind fun x st => boolOf x st) Q)
    (hw : ∀ whole : Sem Value, PySem.isTrue e X.env whole = (do let v ← whole; standAt e.pos; holding [v] (truthy v))) : WT X e σ H Q := by
  refine WT.of (pt_val pe_we hw) (he e true _ at_ hm hr (Post.bind based_eq h fun x st1 g1 v H1 s1 o1 r1 h1 => ?_))
  have h1 : Post X.K X.mg (WS_ W σ) relEq g1 H1 ((boolOf x st1).bind fun b st => .ok b st) Q := by
    obtain ⟨fr, y⟩ := x
    cases y with
    | loc n => exact h1
    | dat d => cases d <;> exact h1
  obtain ⟨i, ei, h1⟩ := h1.bool
  have e2 := (r1.rt ei).bool
  subst e2
  exact ⟨i, rfl, h1 g1 _ H1 .refl o1 rfl⟩
theorem notBool {e : Expr} {P : Prop} (h : ∀ o vs p, e ≠ .BoolOp o vs p) : (∃ o vs p, e = .BoolOp o vs p) → P := fun ⟨o, vs, p, q⟩ => (h o vs p q).elim
/-- for the forms that have no tests of their own -/
theorem simT_of {m : Ex} (he : SimE m) (hf : ∀ {N : List Str} {sc : Scope} {e : Expr} (env : PySem.Env), mE N m sc e = true → (∀ o vs p, e ≠ .BoolOp o vs p) ∧ ∀ whole : Sem Value, PySem.isTrue e env whole = (do let v ← whole; standAt e.pos; holding [v] (truthy v))) : SimT m := by
  intro X W N sc lv g H σ env st e Q at_ hm hr h
  exact ⟨simT_val he at_ hm hr h (hf X.env hm).2, notBool (hf X.env hm).1⟩
theorem simT_cmp {o : Cp} {a b : Ex} (ha : SimE a) (hb : SimE b) : SimT (.cmp o a b) := by
  intro X W N sc lv g H σ env st e Q at_ hm hr h
  cases e <;> try exact no_false hm
  rename_i a' os bs pos
  refine ⟨?_, notBool fun _ _ _ q => by cases q⟩
  rcases os with _ | ⟨o', _ | ⟨_, _⟩⟩ <;> try exact no_false hm
  rcases bs with _ | ⟨b', _ | ⟨_, _⟩⟩ <;> try exact no_false hm
  obtain ⟨hm, h4⟩ := cond_true hm
  obtain ⟨hm, h3⟩ := cond_true hm
  obtain ⟨h1, h2⟩ := cond_true hm
  have h1 : cpS o = o' := of_decide_eq_true h1
  subst h1
  have hb4 : behindInMarks (cpS o) b' = false := by
    cases b' <;> first | rfl | exact no_false h4
  have h : Post X.K X.mg (WS_ W σ) relEq g H ((evE a true env st).bind fun x st => (datOf x st).bind fun x st => (evE b true env st).bind fun y st => (datOf y st).bind fun y st => (ofB (cmpD o x y) st).bind fun x st => boolOf x st) Q := by
    have e : ((evE (.cmp o a b) true env st).bind fun x st => boolOf x st) = ((evE a true env st).bind fun x st => (datOf x st).bind fun x st => (evE b true env st).bind fun y st => (datOf y st).bind fun y st => (ofB (cmpD o x y) st).bind fun x st => boolOf x st) := by
      simp only [evE]
      cases evE a true env st <;> try rfl
      rename_i x s1
      show ((datOf x s1).bind _).bind _ = (datOf x s1).bind _
      cases datOf x s1 <;> try rfl
      rename_i x s1
      show ((evE b true env s1).bind _).bind _ = (evE b true env s1).bind _
      cases evE b true env s1 <;> try rfl
      rename_i x s1
      show ((datOf x s1).bind _).bind _ = (datOf x s1).bind _
      cases datOf x s1 <;> rfl
    rw [← e]
    exact h
  refine WT.of (pt_cmpR op_wo pe_we pe_we hb4) (ha a' true _ at_ h2 hr.left (h.bind based_eq fun x st1 g1 v H1 s1 o1 r1 h1 => ?_))
  obtain ⟨d, ed, h1⟩ := h1.dat
  refine hb b' true _ (at_.on s1 o1) h3 hr.right (h1.bind based_eq fun y st2 g2 v2 H2 s2 o2 r2 h2 => ?_)
  obtain ⟨d2, ed2, h2⟩ := h2.dat
  cases eb : cmpD o d d2 with
  | none =>
    rw [eb] at h2
    exact h2.elim
  | some b =>
    rw [eb] at h2
    refine cmp_ok ((r1.rt ed).step s2 o1) (r2.rt ed2) rfl ?_ o2 eb ⟨b, rfl, h2 g2 b H2 .refl o2 rfl⟩
    have := room_u at_.c.room
    omega
theorem simT_not {a : Ex} (ha : SimT a) : SimT (.not a) := by
  intro X W N sc lv g H σ env st e Q at_ hm hr h
  cases e <;> try exact no_false hm
  rename_i o b pos
  obtain ⟨h1, h2⟩ := cond_true hm
  have h1 : o = .Not := of_decide_eq_true h1
  subst h1
  have e : ((evE (.not a) true env st).bind fun x st => boolOf x st) = (((evE a true env st).bind fun x st => boolOf x st).bind fun k st => .ok (!k) st) := by
    simp only [evE]
    cases evE a true env st <;> try rfl
    rename_i x s1
    show ((boolOf x s1).bind _).bind _ = (boolOf x s1).bind _
    cases boolOf x s1 <;> rfl
  rw [e] at h
  refine ⟨WT.of (pt_not pt_wt) ((ha b _ at_ h2 hr (Post.bind based_eq h fun k st1 g1 v H1 s1 o1 r1 h1 => ?_)).1), notBool fun _ _ _ q => by cases q⟩
  have r1 : v = k := r1
  subst r1
  exact h1 g1 _ H1 .refl o1 rfl
theorem and_test {a b : Ex} {env : Env} {st : Store} : ((evE (.and a b) true env st).bind fun x st => boolOf x st) =
    (((evE a true env st).bind fun x st => boolOf x st).bind fun k st => bif k then ((evE b true env st).bind fun x st => boolOf x st) else .ok false st) := by
  simp only [evE]
  cases evE a true env st <;> try rfl
  rename_i x s1
  show ((boolOf x s1).bind _).bind _ = (boolOf x s1).bind _
  cases boolOf x s1 <;> try rfl
  rename_i k s1
  cases k with
  | false => rfl
  | true =>
    show ((evE b true env s1).bind _).bind _ = (evE b true env s1).bind _
    cases evE b true env s1 <;> try rfl
    rename_i x s1
    show ((boolOf x s1).bind _).bind _ = boolOf x s1
    cases boolOf x s1 <;> rfl
theorem or_test {a b : Ex} {env : Env} {st : Store} : ((evE (.or a b) true env st).bind fun x st => boolOf x st) =
    (((evE a true env st).bind fun x st => boolOf x st).bind fun k st => bif k then .ok true st else ((evE b true env st).bind fun x st => boolOf x st)) := by
  simp only [evE]
  cases evE a true env st <;> try rfl
  rename_i x s1
  show ((boolOf x s1).bind _).bind _ = (boolOf x s1).bind _
  cases boolOf x s1 <;> try rfl
  rename_i k s1
  cases k with
  | true => rfl
  | false =>
    show ((evE b true env s1).bind _).bind _ = (evE b true env s1).bind _
    cases evE b true env s1 <;> try rfl
    rename_i x s1
    show ((boolOf x s1).bind _).bind _ = boolOf x s1
    cases boolOf x s1 <;> rfl
theorem simT_and {a b : Ex} (ha : SimT a) (hb : SimT b) : SimT (.and a b) := by
  intro X W N sc lv g H σ env st e Q at_ hm hr h
  cases e <;> try exact no_false hm
  rename_i o vs pos
  obtain ⟨h1, hm⟩ := cond_true hm
  have h1 : o = .And := of_decide_eq_true h1
  subst h1
  rw [and_test] at h
  have main : ∀ (a' b' : Expr) (r : List Expr), mE N a sc a' = true → (∀ {g1 : G} {H1 : Hp} {st1 : Store} (Q : Bool → Hp → Prop), At X W N sc lv g1 H1 σ env st1 → Post X.K X.mg (WS_ W σ) relEq g1 H1 ((evE b true env st1).bind fun x st => boolOf x st) Q → WW X (.BoolOp .And (b' :: r) pos) σ H1 Q) →
      WW X (.BoolOp .And (a' :: b' :: r) pos) σ H Q := by
    intro a' b' r hma hbb
    refine WW.of (pw_and pt_wt pw_ww) ((ha a' _ at_ hma hr.left (Post.bind based_eq h fun k st1 g1 v H1 s1 o1 r1 h1 => ?_)).1)
    have r1 : v = k := r1
    subst r1
    cases v with
    | false => exact h1 g1 _ H1 .refl o1 rfl
    | true =>
      rw [if_pos rfl]
      exact hbb Q (at_.on s1 o1) h1
  have fin : WW X (.BoolOp .And vs pos) σ H Q := by
    rcases vs with _ | ⟨a', _ | ⟨b', _ | ⟨c', r⟩⟩⟩ <;> try exact no_false hm
    · obtain ⟨h2, h3⟩ := cond_true hm
      exact main a' b' [] h2 fun Q at1 h => WW.of (pw_and1 pt_wt) ((hb b' _ at1 h3 hr.right h).1)
    · obtain ⟨h2, h3⟩ := cond_true hm
      exact main a' b' (c' :: r) h2 fun Q at1 h => (hb _ _ at1 h3 hr.right h).2 ⟨_, _, _, rfl⟩
  exact ⟨WT.of pw_ww.pt fin, fun _ => fin⟩
theorem simT_or {a b : Ex} (ha : SimT a) (hb : SimT b) : SimT (.or a b) := by
  intro X W N sc lv g H σ env st e Q at_ hm hr h
  cases e <;> try exact no_false hm
  rename_i o vs pos
  obtain ⟨h1, hm⟩ := cond_true hm
  have h1 : o = .Or := of_decide_eq_true h1
  subst h1
  rw [or_test] at h
  have main : ∀ (a' b' : Expr) (r : List Expr), mE N a sc a' = true → (∀ {g1 : G} {H1 : Hp} {st1 : Store} (Q : Bool → Hp → Prop), At X W N sc lv g1 H1 σ env st1 → Post X.K X.mg (WS_ W σ) relEq g1 H1 ((evE b true env st1).bind fun x st => boolOf x st) Q → WW X (.BoolOp .Or (b' :: r) pos) σ H1 Q) →
      WW X (.BoolOp .Or (a' :: b' :: r) pos) σ H Q := by
    intro a' b' r hma hbb
    refine WW.of (pw_or pt_wt pw_ww) ((ha a' _ at_ hma hr.left (Post.bind based_eq h fun k st1 g1 v H1 s1 o1 r1 h1 => ?_)).1)
    have r1 : v = k := r1
    subst r1
    cases v with
    | true => exact h1 g1 _ H1 .refl o1 rfl
    | false =>
      simp only [if_neg Bool.false_ne_true]
      exact hbb Q (at_.on s1 o1) h1
  have fin : WW X (.BoolOp .Or vs pos) σ H Q := by
    rcases vs with _ | ⟨a', _ | ⟨b', _ | ⟨c', r⟩⟩⟩ <;> try exact no_false hm
    · obtain ⟨h2, h3⟩ := cond_true hm
      exact main a' b' [] h2 fun Q at1 h => WW.of (pw_or1 pt_wt) ((hb b' _ at1 h3 hr.right h).1)
    · obtain ⟨h2, h3⟩ := cond_true hm
      exact main a' b' (c' :: r) h2 fun Q at1 h => (hb _ _ at1 h3 hr.right h).2 ⟨_, _, _, rfl⟩
  exact ⟨WT.of pw_ww.pt fin, fun _ => fin⟩
/-- x if c else y as a test -/
theorem pt_iteX {X : Cx} {c a b : Expr} {tc ta tb : TT} {pos : Pos} (hc : PT X c tc) (ha : PT X a ta) (hb : PT X b tb) : PT X (.IfExp c a b pos) (fun σ H Q => tc σ H fun k H1 => if k = true then ta σ H1 Q else tb σ H1 Q) := by
  refine ⟨fun pn s σ H Q I h => ?_⟩
  show wpAny _ _ (isTrue c X.env (eval c X.env) >>= fun k => if k = true then isTrue a X.env (eval a X.env) else isTrue b X.env (eval b X.env)) _ _ s
  refine wpAny_bind (thn (hc.run pn s σ H _ I h) fun k s1 ⟨H1, I1, q⟩ => ?_)
  cases k with
  | true => exact ha.run pn s1 σ H1 Q I1 q
  | false => exact hb.run pn s1 σ H1 Q I1 q
theorem simT_ite {c a b : Ex} (hc : SimT c) (ha : SimT a) (hb : SimT b) : SimT (.ite c a b) := by
  intro X W N sc lv g H σ env st e Q at_ hm hr h
  cases e <;> try exact no_false hm
  rename_i c' a' b' pos
  obtain ⟨hm, h3⟩ := cond_true hm
  obtain ⟨h1, h2⟩ := cond_true hm
  have h : Post X.K X.mg (WS_ W σ) relEq g H (((evE c true env st).bind fun x st => boolOf x st).bind fun k st => bif k then ((evE a true env st).bind fun x st => boolOf x st) else ((evE b true env st).bind fun x st => boolOf x st)) Q := by
    have e : ((evE (.ite c a b) true env st).bind fun x st => boolOf x st) = (((evE c true env st).bind fun x st => boolOf x st).bind fun k st => bif k then ((evE a true env st).bind fun x st => boolOf x st) else ((evE b true env st).bind fun x st => boolOf x st)) := by
      simp only [evE]
      cases evE c true env st <;> try rfl
      rename_i x s1
      show ((boolOf x s1).bind _).bind _ = (boolOf x s1).bind _
      cases boolOf x s1 <;> try rfl
      rename_i k s1
      cases k <;> rfl
    rw [← e]
    exact h
  refine ⟨WT.of (pt_iteX pt_wt pt_wt pt_wt) ((hc c' _ at_ h1 hr.left.left (Post.bind based_eq h fun k st1 g1 v H1 s1 o1 r1 h1 => ?_)).1), notBool fun _ _ _ q => by cases q⟩
  have r1 : v = k := r1
  subst r1
  cases v with
  | true =>
    rw [if_pos rfl]
    exact (ha a' _ (at_.on s1 o1) h2 hr.left.right h1).1
  | false =>
    simp only [if_neg Bool.false_ne_true]
    exact (hb b' _ (at_.on s1 o1) h3 hr.right h1).1
theorem chain_test {o1 o2 : Cp} {a b c : Ex} {env : Env} {st : Store} : ((evE (.chain o1 o2 a b c) true env st).bind fun x st => boolOf x st) =
    ((evE a true env st).bind fun x st => (datOf x st).bind fun x st => (evE b true env st).bind fun y st => (datOf y st).bind fun y st => (rOpt (cmpD o1 x y) st).bind fun k st => bif k then (evE c true env st).bind fun z st => (datOf z st).bind fun z st => rOpt (cmpD o2 y z) st else .ok false st) := by
  simp only [evE]
  cases evE a true env st <;> try rfl
  rename_i x s1
  show ((datOf x s1).bind _).bind _ = (datOf x s1).bind _
  cases datOf x s1 <;> try rfl
  rename_i x s1
  show ((evE b true env s1).bind _).bind _ = (evE b true env s1).bind _
  cases evE b true env s1 <;> try rfl
  rename_i y s1
  show ((datOf y s1).bind _).bind _ = (datOf y s1).bind _
  cases datOf y s1 <;> try rfl
  rename_i y s1
  show ((rOpt (cmpD o1 x y) s1).bind _).bind _ = (rOpt (cmpD o1 x y) s1).bind _
  cases rOpt (cmpD o1 x y) s1 <;> try rfl
  rename_i k s1
  cases k with
  | false => rfl
  | true =>
    show ((evE c true env s1).bind _).bind _ = (evE c true env s1).bind _
    cases evE c true env s1 <;> try rfl
    rename_i z s1
    show ((datOf z s1).bind _).bind _ = (datOf z s1).bind _
    cases datOf z s1 <;> try rfl
    rename_i z s1
    show (ofB (cmpD o2 y z) s1).bind _ = rOpt (cmpD o2 y z) s1
    cases cmpD o2 y z <;> rfl
theorem simT_chain {o1 o2 : Cp} {a b k : Ex} (ha : SimE a) (hb : SimE b) (hk : SimE k) : SimT (.chain o1 o2 a b k) := by
  intro X W N sc lv g H σ env st e Q at_ hm hr h
  cases e <;> try exact no_false hm
  rename_i a' os bs pos
  refine ⟨?_, notBool fun _ _ _ q => by cases q⟩
  rcases os with _ | ⟨p1, _ | ⟨p2, _ | ⟨_, _⟩⟩⟩ <;> try exact no_false hm
  rcases bs with _ | ⟨b', _ | ⟨c', _ | ⟨_, _⟩⟩⟩ <;> try exact no_false hm
  obtain ⟨hm, h6⟩ := cond_true hm
  obtain ⟨hm, h5⟩ := cond_true hm
  obtain ⟨hm, h4⟩ := cond_true hm
  obtain ⟨hm, h3⟩ := cond_true hm
  obtain ⟨h1, h2⟩ := cond_true hm
  have h1 : cpS o1 = p1 := of_decide_eq_true h1
  have h2 : cpS o2 = p2 := of_decide_eq_true h2
  subst h1 h2
  have hb4 : lastMarks [cpS o1, cpS o2] [b', c'] = false := by
    show behindInMarks (cpS o2) c' = false
    cases c' <;> first | rfl | exact no_false h6
  have hu := room_u at_.c.room
  rw [chain_test] at h
  refine WT.of (pt_chain op_wo op_wo pe_we pe_we pe_we hb4) (ha a' true _ at_ h3 hr.left.left (h.bind based_eq fun x st1 g1 v H1 s1 o1 r1 h1 => ?_))
  obtain ⟨d, ed, h1⟩ := h1.dat
  refine hb b' true _ (at_.on s1 o1) h4 hr.left.right (h1.bind based_eq fun y st2 g2 v2 H2 s2 o2 r2 h2 => ?_)
  obtain ⟨d2, ed2, h2⟩ := h2.dat
  obtain ⟨b, eb, h2⟩ := h2.opt
  refine cmp_ok ((r1.rt ed).step s2 o1) (r2.rt ed2) rfl (by omega) o2 eb ⟨b, rfl, ?_⟩
  cases b with
  | false => exact ⟨false, rfl, h2 g2 _ H2 .refl o2 rfl⟩
  | true =>
    rw [if_pos rfl]
    refine hk c' true _ ((at_.on s1 o1).on s2 o2) h5 hr.right (Post.bind based_eq h2 fun z st3 g3 v3 H3 s3 o3 r3 h3 => ?_)
    obtain ⟨d3, ed3, h3⟩ := h3.dat
    obtain ⟨b, eb, h3⟩ := h3.opt'
    exact cmp_ok ((r2.rt ed2).step s3 o2) (r3.rt ed3) rfl (by omega) o3 eb ⟨b, rfl, h3 g3 _ H3 .refl o3 rfl⟩
end MP
/-! Targets, what is walked, comprehensions. -/
namespace MP
open PySem PyProof.Rows L2 PySem.Spec
theorem no_some {α : Type} {p : Prop} {x : α} (h : none = some x) : p := by cases h
/-! ### states that change -/
section
variable {K : PySem.W.Frag} {g g1 g2 : G} {H H1 H2 : Hp} {st st1 : Store} {a : Addr} {v : V} {d : D}
theorem Step.upd_new {u : HO} (s : Step g H g1 H1) (h : H a = none) : Step g H g1 (upd H1 a u) :=
  ⟨s.z, s.zn, s.r, fun b o e n nt => by rw [upd_ne (ne_of_none e h)]; exact s.keep b o e n nt, fun b e => by
    by_cases hb : b = a
    · exact hb ▸ h
    · rw [upd_ne hb] at e
      exact s.gone b e, s.t⟩
/-- an object of ours is changed -/
theorem holds_own {u : HO} {vs : List V} (ha : H a = some (.lst vs)) (nz : ¬ g.Z a) : Holds g.Z g.Z H (upd H a u) := by
  have ne : ∀ b w, Rd H b w → (b = a → w = .lst vs) := fun b w r e => by
    subst e
    rcases r with r | ⟨o, r⟩ <;> rw [ha] at r <;> cases r
    rfl
  have go : ∀ b w, b ≠ a → Rd H b w → Rd (upd H a u) b w := fun b w n r => by
    rcases r with r | ⟨o, r⟩
    · exact .inl (by rw [upd_ne n]; exact r)
    · exact .inr ⟨o, by rw [upd_ne n]; exact r⟩
  exact ⟨fun b xs r => go b _ (fun e => by cases ne b _ r e) r, fun _ h => h, fun b w z _ r => go b w (fun e => nz (e ▸ z)) r⟩
theorem holds_ownD {u : HO} {vs : List (Key × V)} (ha : H a = some (.dK vs)) (nz : ¬ g.Z a) : Holds g.Z g.Z H (upd H a u) := by
  have ne : ∀ b w, Rd H b w → (b = a → w = .dK vs) := fun b w r e => by
    subst e
    rcases r with r | ⟨o, r⟩ <;> rw [ha] at r <;> cases r
    rfl
  have go : ∀ b w, b ≠ a → Rd H b w → Rd (upd H a u) b w := fun b w n r => by
    rcases r with r | ⟨o, r⟩
    · exact .inl (by rw [upd_ne n]; exact r)
    · exact .inr ⟨o, by rw [upd_ne n]; exact r⟩
  exact ⟨fun b xs r => go b _ (fun e => by cases ne b _ r e) r, fun _ h => h, fun b w z _ r => go b w (fun e => nz (e ▸ z)) r⟩
theorem RVal.holds {x : Val} (h : Holds g.Z g.Z H H1) (r : RVal K g H v x) : RVal K g H1 v x := by
  cases x with
  | dat d => exact RD.holds h r
  | loc n => exact r
theorem RKV.holds (h : Holds g.Z g.Z H H1) : ∀ {vs : List (Key × V)} {xs : List (Str × Val)}, RKV K g H vs xs → RKV K g H1 vs xs
  | _, _, .nil => .nil
  | _, _, .cons r t => .cons (r.holds h) (RKV.holds h t)
theorem Ok.own {u : HO} {vs : List V} (o : Ok K g H st) (ha : H a = Option.some (HO.lst vs)) (nz : ¬ g.Z a) (nr : a ∉ g.rho) : Ok K g (upd H a u) st := by
  have hh := holds_own (u := u) ha nz
  refine ⟨o.zr, fun b z e => ?_, o.len, o.nd, fun n b c e1 e2 => ?_, tabs_lst o.tb ha⟩
  · by_cases hb : b = a
    · exact nz (hb ▸ z)
    · rw [upd_ne hb] at e
      exact o.zs b z e
  · have q := o.cell n b c e1 e2
    have nb : b ≠ a := fun e => nr (e ▸ List.mem_of_getElem? e1)
    cases c with
    | lst xs =>
      obtain ⟨vs, e, r⟩ := q
      exact ⟨vs, by rw [upd_ne nb]; exact e, RDs.holds hh r⟩
    | dic kvs =>
      obtain ⟨kv, e, r⟩ := q
      exact ⟨kv, by rw [upd_ne nb]; exact e, r.holds hh⟩
theorem Ok.ownD {u : HO} {vs : List (Key × V)} (o : Ok K g H st) (ha : H a = Option.some (HO.dK vs)) (nz : ¬ g.Z a) (nr : a ∉ g.rho) : Ok K g (upd H a u) st := by
  have hh := holds_ownD (u := u) ha nz
  refine ⟨o.zr, fun b z e => ?_, o.len, o.nd, fun n b c e1 e2 => ?_, tabs_dK o.tb ha⟩
  · by_cases hb : b = a
    · exact nz (hb ▸ z)
    · rw [upd_ne hb] at e
      exact o.zs b z e
  · have q := o.cell n b c e1 e2
    have nb : b ≠ a := fun e => nr (e ▸ List.mem_of_getElem? e1)
    cases c with
    | lst xs =>
      obtain ⟨vs, e, r⟩ := q
      exact ⟨vs, by rw [upd_ne nb]; exact e, RDs.holds hh r⟩
    | dic kvs =>
      obtain ⟨kv, e, r⟩ := q
      exact ⟨kv, by rw [upd_ne nb]; exact e, r.holds hh⟩
theorem Ok.zne (o : Ok K g H st) (h : H a = none) : ¬ g.Z a := fun z => o.zs a z h
/-! ### slots -/
theorem EnvOk.setVal {σ : L2.St} {env : Env} {x : Val} (i : Nat) (en : EnvOk K g H σ env) (r : RVal K g H v x) : EnvOk K g H (σ.set i (some v)) (List.set env i (.val x)) := by
  refine ⟨by rw [List.length_set, List.length_set]; exact en.len, fun j s y e1 e2 => ?_, fun j k d d' a e1 e2 e3 e4 => ?_⟩
  · by_cases hj : i = j
    · subst hj
      have hi : i < env.length := by
        have q := (List.getElem?_eq_some_iff.mp e1).1
        rwa [List.length_set] at q
      rw [List.getElem?_set_self hi] at e1
      rw [List.getElem?_set_self (by rw [← en.len]; exact hi)] at e2
      cases e1
      cases e2
      exact ⟨v, rfl, r⟩
    · rw [List.getElem?_set_ne hj] at e1 e2
      exact en.at_ j s y e1 e2
  · have other : ∀ {l : Nat} {d : D}, (List.set env i (.val x))[l]? = some (.own d) → env[l]? = some (.own d) ∧ i ≠ l := fun {l d} e => by
      by_cases hl : i = l
      · subst hl
        rw [List.getElem?_set] at e
        split at e
        · split at e <;> cases e
        · rename_i h
          exact absurd rfl h
      · rw [List.getElem?_set_ne hl] at e
        exact ⟨e, hl⟩
    obtain ⟨f1, n1⟩ := other e1
    obtain ⟨f2, n2⟩ := other e2
    rw [List.getElem?_set_ne n1] at e3
    rw [List.getElem?_set_ne n2] at e4
    exact en.apart j k d d' a f1 f2 e3 e4
theorem EnvOk.setUn {σ : L2.St} {env : Env} {x : Option V} (i : Nat) (en : EnvOk K g H σ env) : EnvOk K g H (σ.set i x) (List.set env i .un) := by
  refine ⟨by rw [List.length_set, List.length_set]; exact en.len, fun j s y e1 e2 => ?_, fun j k d d' a e1 e2 e3 e4 => ?_⟩
  · by_cases hj : i = j
    · subst hj
      rw [List.getElem?_set] at e1
      split at e1
      · split at e1 <;> cases e1
        trivial
      · rename_i h
        exact absurd rfl h
    · rw [List.getElem?_set_ne hj] at e1 e2
      exact en.at_ j s y e1 e2
  · have other : ∀ {l : Nat} {d : D}, (List.set env i .un)[l]? = some (.own d) → env[l]? = some (.own d) ∧ i ≠ l := fun {l d} e => by
      by_cases hl : i = l
      · subst hl
        rw [List.getElem?_set] at e
        split at e
        · split at e <;> cases e
        · rename_i h
          exact absurd rfl h
      · rw [List.getElem?_set_ne hl] at e
        exact ⟨e, hl⟩
    obtain ⟨f1, n1⟩ := other e1
    obtain ⟨f2, n2⟩ := other e2
    rw [List.getElem?_set_ne n1] at e3
    rw [List.getElem?_set_ne n2] at e4
    exact en.apart j k d d' a f1 f2 e3 e4
theorem EnvOk.wipe {σ : L2.St} {env : Env} (en : EnvOk K g H σ env) : ∀ vs : List Nat, EnvOk K g H (L2.wipe σ vs) (wipeE env vs)
  | [] => en
  | v :: vs => (EnvOk.wipe en vs).setUn v
theorem set_none_comm {σ : L2.St} {i j : Nat} : (σ.set i none).set j none = (σ.set j none).set i none := by
  by_cases h : i = j
  · rw [h]
  · exact List.set_comm _ _ h
theorem wipe_set_none {σ : L2.St} {i : Nat} : ∀ vs : List Nat, (L2.wipe σ vs).set i none = L2.wipe (σ.set i none) vs
  | [] => rfl
  | v :: vs => by
    show ((L2.wipe σ vs).set v none).set i none = (L2.wipe (σ.set i none) vs).set v none
    rw [set_none_comm, wipe_set_none vs]
theorem wipe_set {σ : L2.St} {i : Nat} {x : Option V} : ∀ {vs : List Nat}, i ∈ vs → L2.wipe (σ.set i x) vs = L2.wipe σ vs
  | v :: vs, h => by
    show (L2.wipe (σ.set i x) vs).set v none = (L2.wipe σ vs).set v none
    by_cases hv : i = v
    · subst hv
      rw [wipe_set_none, wipe_set_none, List.set_set]
    · rw [wipe_set (vs := vs) (by
        rcases List.mem_cons.mp h with z | z
        · exact (hv z).elim
        · exact z)]
end
/-! ### targets -/
def WG (X : Cx) (e : Expr) : TG := fun v σ H Q => ∀ (pins : List (Addr × Obj)) (s : Shared) (u : Value), Inv X pins σ H s → RelV v u → wpAny (model X.prog X.w) X.A (assign e X.env u) (fun _ s' => ∃ σ' H', Inv X pins σ' H' s' ∧ Q σ' H') X.xe s
def WGs (X : Cx) (es : List Expr) : L2.TGs := fun vs σ H Q => ∀ (pins : List (Addr × Obj)) (s : Shared) (us : List Value), Inv X pins σ H s → Vals vs us → wpAny (model X.prog X.w) X.A (assignInOrder ((assignEach es X.env).map (·.2)) us) (fun _ s' => ∃ σ' H', Inv X pins σ' H' s' ∧ Q σ' H') X.xe s
theorem pg_wg {X : Cx} {e : Expr} : PG X e (WG X e) := ⟨fun pins s σ H v u Q I r h => h pins s u I r⟩
theorem pgs_wgs {X : Cx} {es : List Expr} : PGs X es (WGs X es) := ⟨fun pins s σ H v u Q I r h => h pins s u I r⟩
theorem WG.of {X : Cx} {e : Expr} {t : TG} {v : V} {σ : L2.St} {H : Hp} {Q : L2.St → Hp → Prop} (h : PG X e t) (q : t v σ H Q) : WG X e v σ H Q := fun pins s u I r => h.run pins s σ H v u Q I r q
theorem WGs.of {X : Cx} {es : List Expr} {t : L2.TGs} {v : List V} {σ : L2.St} {H : Hp} {Q : L2.St → Hp → Prop} (h : PGs X es t) (q : t v σ H Q) : WGs X es v σ H Q := fun pins s u I r => h.run pins s σ H v u Q I r q
theorem mTgs_each {N : List Str} {sc : Scope} {env : PySem.Env} : ∀ {ts : Tgs} {es : List Expr}, mTgs N ts sc es = true → assignEach es env = es.map fun e => (false, assign e env)
  | .nil, es, h => by
    cases es <;> first | rfl | exact no_false h
  | .cons t ts, es, h => by
    cases es with
    | nil => rfl
    | cons e r =>
      obtain ⟨h1, h2⟩ := cond_true (show (mTg N t sc e && mTgs N ts sc r) = true from h)
      have ih := mTgs_each (env := env) h2
      have hd : assignEach (e :: r) env = (false, assign e env) :: assignEach r env := by
        cases t <;> cases e <;> first | rfl | exact no_false h1
      rw [hd, ih]
      rfl
theorem each_find {env : PySem.Env} : ∀ es : List Expr, List.findIdx? (fun x => x.1) (es.map fun e => (false, assign e env)) = none
  | [] => rfl
  | e :: es => by
    rw [List.map_cons, List.findIdx?_cons, each_find es]
    rfl
section
variable {X : Cx} {W : WX} {N : List Str} {sc : Scope} {lv : Nat} {g : G} {H : Hp} {st : Store}
/-- what a target's store leaves: the slots, up to those that it stores -/
def Stored (K : PySem.W.Frag) (g : G) (H : Hp) (env' : Env) (P : L2.St → Prop) (Q : L2.St → Hp → Prop) : Prop := ∀ σ', EnvOk K g H σ' env' → P σ' → Q σ' H
mutual
theorem tg_ok (c : CtxOk X W N sc lv) (vs0 : List Nat) : ∀ (t : Tg) {e : Expr} {v : V} {d : D} {σ : L2.St} {env env' : Env} {Q : L2.St → Hp → Prop}, mTg N t sc e = true → EnvOk X.K g H σ env → RD X.K g.Z H v d → bindTg t d env = some env' →
    Stored X.K g H env' (fun σ' => tgIn t vs0 = true → L2.wipe σ' vs0 = L2.wipe σ vs0) Q → WG X e v σ H Q
  | .nm i, e, v, d, σ, env, env', Q, hm, en, r, hb, q => by
    cases e <;> try exact no_false hm
    rename_i x pos
    obtain ⟨hm, h3⟩ := cond_true (show (decide (N[i]? = some x) && isLoc sc x && okName x) = true from hm)
    obtain ⟨h1, h2⟩ := cond_true hm
    have h1 : N[i]? = some x := of_decide_eq_true h1
    have hl := c.loc h2
    refine WG.of (pg_name (i := i) (by rw [c.eN]; exact c.nd) (by rw [c.eN]; exact h1) hl.1 hl.2) ?_
    have hb : some (List.set env i (.val (.dat d))) = some env' := hb
    cases hb
    refine q _ (en.setVal (x := .dat d) i r) fun hi => wipe_set ?_
    exact List.contains_iff_mem.mp (show vs0.contains i = true from hi)
  | .tup ts, e, v, d, σ, env, env', Q, hm, en, r, hb, q => by
    cases e <;> try exact no_false hm
    rename_i es k pos
    have hm : mTgs N ts sc es = true := hm
    have he := mTgs_each (env := X.env) hm
    have hlen : (assignEach es X.env).length = es.length := by rw [he, List.length_map]
    have hfi : List.findIdx? (fun x => x.1) (assignEach es X.env) = none := by rw [he]; exact each_find es
    have hn : ∀ {ds : List D}, bindTgs ts ds env = some env' → ds.length = es.length := fun {ds} h => tgs_len ts hm h
    cases d <;> try exact no_some hb
    · cases r with
      | list s w =>
        refine WG.of (pg_lst c.calm pgs_wgs hlen hfi) ⟨_, _, rfl, s.seq, by rw [w.length]; exact hn hb, ?_⟩
        exact tgs_ok c vs0 ts hm en w hb q
    · cases r with
      | tuple s w =>
        refine WG.of (pg_tup c.calm pgs_wgs hlen hfi) ⟨_, _, rfl, s, by rw [w.length]; exact hn hb, ?_⟩
        exact tgs_ok c vs0 ts hm en w hb q
theorem tgs_ok (c : CtxOk X W N sc lv) (vs0 : List Nat) : ∀ (t : Tgs) {es : List Expr} {v : List V} {d : List D} {σ : L2.St} {env env' : Env} {Q : L2.St → Hp → Prop}, mTgs N t sc es = true → EnvOk X.K g H σ env → RDs X.K g.Z H v d → bindTgs t d env = some env' →
    Stored X.K g H env' (fun σ' => tgsIn t vs0 = true → L2.wipe σ' vs0 = L2.wipe σ vs0) Q → WGs X es v σ H Q
  | .nil, es, v, d, σ, env, env', Q, hm, en, r, hb, q => by
    cases es <;> try exact no_false hm
    cases d <;> try exact no_some hb
    cases r
    have hb : some env = some env' := hb
    cases hb
    exact WGs.of pgs_nil ⟨rfl, q σ en fun _ => rfl⟩
  | .cons t ts, es, v, d, σ, env, env', Q, hm, en, r, hb, q => by
    cases es <;> try exact no_false hm
    rename_i e es
    obtain ⟨h1, h2⟩ := cond_true (show (mTg N t sc e && mTgs N ts sc es) = true from hm)
    cases d <;> try exact no_some hb
    rename_i d ds
    cases r with
    | cons r1 r2 =>
      have hb : (match bindTg t d env with | some env' => bindTgs ts ds env' | none => none) = some env' := hb
      cases hb1 : bindTg t d env with
      | none =>
        rw [hb1] at hb
        exact no_some hb
      | some env1 =>
        rw [hb1] at hb
        have hd : assignEach (e :: es) X.env = (false, assign e X.env) :: assignEach es X.env := by
          cases t <;> cases e <;> first | rfl | exact no_false h1
        refine WGs.of (pgs_cons pg_wg pgs_wgs (by rw [hd]; rfl)) ⟨_, _, rfl, tg_ok c vs0 t h1 en r1 hb1 fun σ1 en1 w1 => ?_⟩
        refine tgs_ok c vs0 ts h2 en1 r2 hb fun σ2 en2 w2 => ?_
        refine q σ2 en2 fun hi => ?_
        obtain ⟨i1, i2⟩ := cond_true (show (tgIn t vs0 && tgsIn ts vs0) = true from hi)
        exact (w2 i2).trans (w1 i1)
theorem tgs_len : ∀ (t : Tgs) {es : List Expr} {d : List D} {env env' : Env}, mTgs N t sc es = true → bindTgs t d env = some env' → d.length = es.length
  | .nil, es, d, env, env', hm, hb => by
    cases es <;> try exact no_false hm
    cases d <;> try exact no_some hb
    rfl
  | .cons t ts, es, d, env, env', hm, hb => by
    cases es <;> try exact no_false hm
    rename_i e es
    obtain ⟨h1, h2⟩ := cond_true (show (mTg N t sc e && mTgs N ts sc es) = true from hm)
    cases d <;> try exact no_some hb
    rename_i d ds
    have hb : (match bindTg t d env with | some env' => bindTgs ts ds env' | none => none) = some env' := hb
    cases hb1 : bindTg t d env with
    | none =>
      rw [hb1] at hb
      exact nomatch hb
    | some env1 =>
      rw [hb1] at hb
      exact congrArg Nat.succ (tgs_len ts h2 hb)
end
end
end MP
/-! What is walked; comprehensions. -/
namespace MP
open PySem PyProof.Rows L2 PySem.Spec RZ
/-- an iterator of the layer brings some items, one by one -/
structure Pres (K : PySem.W.Frag) (g : G) (H : Hp) (J : L2.It) (items : List D) : Prop where
  go : ∀ (g' : G) (H' : Hp) (i : Nat), Holds g.Z g'.Z H H' → i < items.length → J.go i H'
  yld : ∀ (g' : G) (H' : Hp) (st' : Store) (i : Nat) (x : V) (H'' : Hp), Holds g.Z g'.Z H H' → Ok K g' H' st' → J.yld i H' x H'' → i < items.length → ∃ d, items[i]? = some d ∧ Step g' H' g' H'' ∧ Ok K g' H'' st' ∧ RD K g'.Z H'' x d
  stop : ∀ (g' : G) (H' : Hp), Holds g.Z g'.Z H H' → J.stop items.length H'
abbrev relI (K : PySem.W.Frag) : Hp → G → Hp → L2.It → List D → Prop := fun _ g H J items => Pres K g H J items
theorem based_i {K : PySem.W.Frag} : Based (relI K) := fun _ _ _ _ _ _ _ r => r
theorem Holds.refl {Z : Addr → Prop} {H : Hp} : Holds Z Z H H := ⟨fun _ _ h => h, fun _ h => h, fun _ _ _ _ h => h⟩
theorem Holds.trans {Z Z1 Z2 : Addr → Prop} {H H1 H2 : Hp} (a : Holds Z Z1 H H1) (b : Holds Z1 Z2 H1 H2) : Holds Z Z2 H H2 :=
  ⟨fun c xs h => b.tup c xs (a.tup c xs h), fun c h => b.z c (a.z c h), fun c u z nt h => b.obj c u (a.z c z) nt (a.obj c u z nt h)⟩
theorem SqZ.holds {K : PySem.W.Frag} {Z Z' : Addr → Prop} {H H' : Hp} {a : Addr} {vs : List V} (h : Holds Z Z' H H') (s : SqZ K Z H a vs) : SqZ K Z' H' a vs := s.imp (fun ⟨z, q⟩ => ⟨h.z _ z, h.obj _ _ z ntL q⟩) id
theorem pres_list {K : PySem.W.Frag} {g : G} {H : Hp} {a : Addr} {vs : List V} {ds : List D} (s : SqZ K g.Z H a vs) (r : RDs K g.Z H vs ds) : Pres K g H (Itl K a) ds where
  go := fun g' H' i h hi => by
    obtain ⟨v, hv, _⟩ := r.get (List.getElem?_eq_getElem hi)
    exact ⟨vs, v, (s.holds h).seq, hv⟩
  yld := fun g' H' st' i x H'' h ok q hi => by
    obtain ⟨e, f⟩ := q
    subst e
    have hv := f vs (s.holds h).seq
    obtain ⟨d, hd, rd⟩ := r.getV hv
    exact ⟨d, hd, .refl, ok, RD.holds h rd⟩
  stop := fun g' H' h => ⟨vs, (s.holds h).seq, Nat.le_of_eq r.length⟩
theorem holds_seqT {K : PySem.W.Frag} {Z Z' : Addr → Prop} {H H' : Hp} {a : Addr} {vs : List V} (h : Holds Z Z' H H') (s : SqT K H a vs) : SqT K H' a vs := s.elim (fun q => .inl (h.tup _ _ q)) .inr
theorem pres_tuple {K : PySem.W.Frag} {g : G} {H : Hp} {a : Addr} {vs : List V} {ds : List D} (s : SqT K H a vs) (r : RDs K g.Z H vs ds) : Pres K g H (Itt K a) ds where
  go := fun g' H' i h hi => by
    obtain ⟨v, hv, _⟩ := r.get (List.getElem?_eq_getElem hi)
    exact ⟨vs, v, holds_seqT h s, hv⟩
  yld := fun g' H' st' i x H'' h ok q hi => by
    obtain ⟨e, f⟩ := q
    subst e
    have hv := f vs (holds_seqT h s)
    obtain ⟨d, hd, rd⟩ := r.getV hv
    exact ⟨d, hd, .refl, ok, RD.holds h rd⟩
  stop := fun g' H' h => ⟨vs, holds_seqT h s, Nat.le_of_eq r.length⟩
theorem pres_range {K : PySem.W.Frag} {g : G} {H : Hp} {i j : Int} : Pres K g H (Itr i (j - i).toNat) (rangeUp i j) where
  go := fun g' H' k h hk => by
    unfold rangeUp at hk
    simp only [List.length_map, List.length_range] at hk
    exact hk
  yld := fun g' H' st' k x H'' h ok q hk => by
    obtain ⟨e, f⟩ := q
    subst e
    unfold rangeUp at hk ⊢
    simp only [List.length_map, List.length_range] at hk
    refine ⟨.int (i + k), ?_, .refl, ok, ?_⟩
    · rw [List.getElem?_map, List.getElem?_range hk]
      rfl
    · rw [f]
      exact .int _
  stop := fun g' H' h => by
    unfold rangeUp
    simp only [List.length_map, List.length_range]
    exact Nat.le_refl _
def SimI (m : It) : Prop := ∀ {X : Cx} {W : WX} {N : List Str} {sc : Scope} {lv : Nat} {g : G} {H : Hp} {σ : L2.St} {env : Env} {st : Store} (tg e : Expr) (R : L2.It → Hp → Prop), At X W N sc lv g H σ env st → mI N m sc tg e = true → Rqs X lv (rqI m) →
  Post X.K X.mg (WS_ W σ) (relI X.K) g H (evI m env st) R → WI X tg e σ H R
def SimC (m : Opt) : Prop := ∀ {X : Cx} {W : WX} {N : List Str} {sc : Scope} {lv : Nat} {g : G} {H : Hp} {σ : L2.St} {env : Env} {st : Store} (e : Expr) (Q : Bool → Hp → Prop), At X W N sc lv g H σ env st → mC N m sc [e] = true → Rqs X lv (rqO m) →
  Post X.K X.mg (WS_ W σ) relEq g H (evC m env st) Q → WT X e σ H Q
theorem simC_non : SimC .non := by
  intro X W N sc lv g H σ env st e Q at_ hm hr h
  exact no_false hm
theorem simC_som {e : Ex} (he : SimT e) : SimC (.som e) := by
  intro X W N sc lv g H σ env st e' Q at_ hm hr h
  exact (he e' Q at_ hm hr h).1
theorem simI_seq {e : Ex} (he : SimE e) : SimI (.seq e) := by
  intro X W N sc lv g H σ env st tg e' R at_ hm hr h
  have hm : mE N e sc e' = true := hm
  have h : Post X.K X.mg (WS_ W σ) (relI X.K) g H ((evE e false env st).bind fun x st => (datOf x st).bind fun d st => rOpt (seqOf d) st) R := h
  cases ea : evE e false env st with
  | no =>
    rw [ea] at h
    exact h.elim
  | exc c ds st1 =>
    rw [ea] at h
    refine WI.of (pi_list pe_we) (he e' false _ at_ hm hr ?_)
    rw [ea]
    exact h
  | ok x st1 =>
    rw [ea] at h
    obtain ⟨d, ed, h⟩ := Post.dat (x := x) (st := st1) h
    obtain ⟨ds, es, h⟩ := h.opt'
    cases d <;> simp only [seqOf] at es <;> cases es
    · refine WI.of (pi_list pe_we) (he e' false _ at_ hm hr ?_)
      rw [ea]
      intro g1 v H1 s1 o1 r1
      obtain ⟨g2, s2, o2, r2, _⟩ := r1.frozen s1 o1 ed
      cases r2 with
      | list s r => exact ⟨_, rfl, ⟨_, s.seq⟩, h g2 _ H1 s2 o2 (pres_list s r)⟩
    · refine WI.of (pi_tup pe_we) (he e' false _ at_ hm hr ?_)
      rw [ea]
      intro g1 v H1 s1 o1 r1
      obtain ⟨g2, s2, o2, r2, _⟩ := r1.frozen s1 o1 ed
      cases r2 with
      | tuple s r => exact ⟨_, rfl, ⟨_, s⟩, h g2 _ H1 s2 o2 (pres_tuple s r)⟩
theorem simI_rng1 {a : Ex} (ha : SimE a) : SimI (.rng1 a) := by
  intro X W N sc lv g H σ env st tg e R at_ hm hr h
  cases e <;> try exact no_false hm
  rename_i f args kws pos
  cases f <;> cases kws <;> try exact no_false hm
  rename_i y p
  rcases args with _ | ⟨a', _ | ⟨_, _⟩⟩ <;> try exact no_false hm
  obtain ⟨hm, h4⟩ := cond_true hm
  obtain ⟨hm, h3⟩ := cond_true hm
  obtain ⟨h1, h2⟩ := cond_true hm
  have h1 : y = "range" := of_decide_eq_true h1
  subst h1
  refine WI.of (pi_range1 (at_.c.gl h2) hr.head (pa_cons pe_we pa_nil (starEach_cons h3)) (starEach_cons h3)) (ha a' true _ at_ h4 hr.tail (Post.bind based_i h fun x st1 g1 v H1 s1 o1 r1 h1 => ?_))
  obtain ⟨i, ei, h1⟩ := h1.int
  have e2 := (r1.rt ei).int
  subst e2
  obtain ⟨hb, h1⟩ := h1.cond
  simp only [rngOk, Bool.and_eq_true, decide_eq_true_eq] at hb
  refine ⟨i, rfl, hb.1, hb.2, ?_⟩
  have q := h1 g1 (Itr 0 (i - 0).toNat) H1 .refl o1 pres_range
  rw [Int.sub_zero] at q
  exact q
theorem simI_rng2 {a b : Ex} (ha : SimE a) (hb : SimE b) : SimI (.rng2 a b) := by
  intro X W N sc lv g H σ env st tg e R at_ hm hr h
  cases e <;> try exact no_false hm
  rename_i f args kws pos
  cases f <;> cases kws <;> try exact no_false hm
  rename_i y p
  rcases args with _ | ⟨a', _ | ⟨b', _ | ⟨_, _⟩⟩⟩ <;> try exact no_false hm
  obtain ⟨hm, h6⟩ := cond_true hm
  obtain ⟨hm, h5⟩ := cond_true hm
  obtain ⟨hm, h4⟩ := cond_true hm
  obtain ⟨hm, h3⟩ := cond_true hm
  obtain ⟨h1, h2⟩ := cond_true hm
  have h1 : y = "range" := of_decide_eq_true h1
  subst h1
  refine WI.of (pi_range2 (at_.c.gl h2) hr.head (pa_cons pe_we (pa_cons pe_we pa_nil (starEach_cons h4)) (starEach_cons h3)) (by rw [starEach_cons h3, starEach_cons h4]; rfl) (starEach_cons h4))
    (ha a' true _ at_ h5 hr.tail.left (Post.bind based_i h fun x st1 g1 v H1 s1 o1 r1 h1 => ?_))
  obtain ⟨i, ei, h1⟩ := h1.int
  have e2 := (r1.rt ei).int
  subst e2
  refine hb b' true _ (at_.on s1 o1) h6 hr.tail.right (Post.bind based_i h1 fun y st2 g2 v2 H2 s2 o2 r2 h2 => ?_)
  obtain ⟨j, ej, h2⟩ := h2.int
  have e3 := (r2.rt ej).int
  subst e3
  obtain ⟨hb, h2⟩ := h2.cond
  simp only [rngOk, Bool.and_eq_true, decide_eq_true_eq] at hb
  exact ⟨i, j, rfl, ⟨hb.1.1, hb.1.2, hb.2.1, hb.2.2⟩, h2 g2 _ H2 .refl o2 pres_range⟩
theorem pres_down {K : PySem.W.Frag} {g : G} {H : Hp} {i j : Int} : Pres K g H (Itc i (-1) (i - j).toNat) (rangeDn i j) where
  go := fun g' H' k h hk => by
    unfold rangeDn at hk
    simp only [List.length_map, List.length_range] at hk
    exact hk
  yld := fun g' H' st' k x H'' h ok q hk => by
    obtain ⟨e, f⟩ := q
    subst e
    unfold rangeDn at hk ⊢
    simp only [List.length_map, List.length_range] at hk
    refine ⟨.int (i + k * (-1)), ?_, .refl, ok, ?_⟩
    · rw [List.getElem?_map, List.getElem?_range hk]
      rfl
    · rw [f]
      exact .int _
  stop := fun g' H' h => by
    unfold rangeDn
    simp only [List.length_map, List.length_range]
    exact Nat.le_refl _
theorem enumL_len : ∀ (n : Nat) (xs : List D), (enumL n xs).length = xs.length
  | _, [] => rfl
  | n, x :: xs => congrArg Nat.succ (enumL_len (n + 1) xs)
theorem enumL_get : ∀ (n : Nat) (xs : List D) (i : Nat) (d : D), xs[i]? = some d → (enumL n xs)[i]? = some (.tuple [.int ((n + i : Nat) : Int), d])
  | _, [], _, _, h => by simp at h
  | n, x :: xs, 0, d, h => by
    simp at h
    subst h
    rfl
  | n, x :: xs, i + 1, d, h => by
    have := enumL_get (n + 1) xs i d (by simpa using h)
    rw [show n + (i + 1) = n + 1 + i by omega]
    exact this
theorem zipL_len : ∀ (xs ys : List D), (zipL xs ys).length = min xs.length ys.length
  | [], ys => by simp [zipL]
  | x :: xs, [] => by simp [zipL]
  | x :: xs, y :: ys => by
    show (zipL xs ys).length + 1 = _
    rw [zipL_len xs ys]
    simp only [List.length_cons]
    omega
theorem zipL_get : ∀ (xs ys : List D) (i : Nat) (d e : D), xs[i]? = some d → ys[i]? = some e → (zipL xs ys)[i]? = some (.tuple [d, e])
  | [], _, _, _, _, h, _ => by simp at h
  | _ :: _, [], _, _, _, _, h => by simp at h
  | x :: xs, y :: ys, 0, d, e, h, k => by
    simp at h k
    subst h k
    rfl
  | x :: xs, y :: ys, i + 1, d, e, h, k => zipL_get xs ys i d e (by simpa using h) (by simpa using k)
theorem pres_enum {K : PySem.W.Frag} {g : G} {H : Hp} {a : Addr} {vs : List V} {ds : List D} (s : SqZ K g.Z H a vs) (r : RDs K g.Z H vs ds) : Pres K g H (Ite K a) (enumL 0 ds) where
  go := fun g' H' i h hi => by
    rw [enumL_len] at hi
    obtain ⟨v, hv, _⟩ := r.get (List.getElem?_eq_getElem hi)
    exact ⟨vs, v, (s.holds h).seq, hv⟩
  yld := fun g' H' st' i x H'' h ok q hi => by
    obtain ⟨T, v, rfl, hT, rfl, f⟩ := q
    have hv := f vs (s.holds h).seq
    obtain ⟨d, hd, rd⟩ := r.getV hv
    refine ⟨_, enumL_get 0 ds i d hd, .new hT, ok.new hT, ?_⟩
    rw [Nat.zero_add]
    exact RD.new_tup ok hT (.cons (.int _) (.cons (RD.holds h rd) .nil))
  stop := fun g' H' h => ⟨vs, (s.holds h).seq, Nat.le_of_eq (by rw [enumL_len]; exact r.length)⟩
theorem pres_enumT {K : PySem.W.Frag} {g : G} {H : Hp} {a : Addr} {vs : List V} {ds : List D} (s : SqT K H a vs) (r : RDs K g.Z H vs ds) : Pres K g H (IteT K a) (enumL 0 ds) where
  go := fun g' H' i h hi => by
    rw [enumL_len] at hi
    obtain ⟨v, hv, _⟩ := r.get (List.getElem?_eq_getElem hi)
    exact ⟨vs, v, holds_seqT h s, hv⟩
  yld := fun g' H' st' i x H'' h ok q hi => by
    obtain ⟨T, v, rfl, hT, rfl, f⟩ := q
    have hv := f vs (holds_seqT h s)
    obtain ⟨d, hd, rd⟩ := r.getV hv
    refine ⟨_, enumL_get 0 ds i d hd, .new hT, ok.new hT, ?_⟩
    rw [Nat.zero_add]
    exact RD.new_tup ok hT (.cons (.int _) (.cons (RD.holds h rd) .nil))
  stop := fun g' H' h => ⟨vs, holds_seqT h s, Nat.le_of_eq (by rw [enumL_len]; exact r.length)⟩
theorem pres_zip {K : PySem.W.Frag} {g : G} {H : Hp} {a b : Addr} {vs us : List V} {ds es : List D} (s : SqZ K g.Z H a vs) (r : RDs K g.Z H vs ds) (s2 : SqZ K g.Z H b us) (r2 : RDs K g.Z H us es) : Pres K g H (Itz K a b) (zipL ds es) where
  go := fun g' H' i h hi => by
    rw [zipL_len] at hi
    obtain ⟨v, hv, _⟩ := r.get (List.getElem?_eq_getElem (show i < ds.length by omega))
    obtain ⟨u, hu, _⟩ := r2.get (List.getElem?_eq_getElem (show i < es.length by omega))
    exact ⟨vs, us, v, u, (s.holds h).seq, (s2.holds h).seq, hv, hu⟩
  yld := fun g' H' st' i x H'' h ok q hi => by
    obtain ⟨T, v, u, rfl, hT, rfl, f, f2⟩ := q
    obtain ⟨d, hd, rd⟩ := r.getV (f vs (s.holds h).seq)
    obtain ⟨e, he, re⟩ := r2.getV (f2 us (s2.holds h).seq)
    exact ⟨_, zipL_get ds es i d e hd he, .new hT, ok.new hT, RD.new_tup ok hT (.cons (RD.holds h rd) (.cons (RD.holds h re) .nil))⟩
  stop := fun g' H' h => ⟨vs, us, (s.holds h).seq, (s2.holds h).seq, by
    rw [zipL_len, r.length, r2.length]
    omega⟩
theorem pres_zipT {K : PySem.W.Frag} {g : G} {H : Hp} {a b : Addr} {vs us : List V} {ds es : List D} (s : SqT K H a vs) (r : RDs K g.Z H vs ds) (s2 : SqT K H b us) (r2 : RDs K g.Z H us es) : Pres K g H (ItzT K a b) (zipL ds es) where
  go := fun g' H' i h hi => by
    rw [zipL_len] at hi
    obtain ⟨v, hv, _⟩ := r.get (List.getElem?_eq_getElem (show i < ds.length by omega))
    obtain ⟨u, hu, _⟩ := r2.get (List.getElem?_eq_getElem (show i < es.length by omega))
    exact ⟨vs, us, v, u, holds_seqT h s, holds_seqT h s2, hv, hu⟩
  yld := fun g' H' st' i x H'' h ok q hi => by
    obtain ⟨T, v, u, rfl, hT, rfl, f, f2⟩ := q
    obtain ⟨d, hd, rd⟩ := r.getV (f vs (holds_seqT h s))
    obtain ⟨e, he, re⟩ := r2.getV (f2 us (holds_seqT h s2))
    exact ⟨_, zipL_get ds es i d e hd he, .new hT, ok.new hT, RD.new_tup ok hT (.cons (RD.holds h rd) (.cons (RD.holds h re) .nil))⟩
  stop := fun g' H' h => ⟨vs, us, holds_seqT h s, holds_seqT h s2, by
    rw [zipL_len, r.length, r2.length]
    omega⟩
theorem simI_rng3 {a b c : Ex} (ha : SimE a) (hb : SimE b) (hc : SimE c) : SimI (.rng3 a b c) := by
  intro X W N sc lv g H σ env st tg e R at_ hm hr h
  cases e <;> try exact no_false hm
  rename_i f args kws pos
  cases f <;> cases kws <;> try exact no_false hm
  rename_i y p
  rcases args with _ | ⟨a', _ | ⟨b', _ | ⟨c', _ | ⟨_, _⟩⟩⟩⟩ <;> try exact no_false hm
  obtain ⟨hm, h8⟩ := cond_true hm
  obtain ⟨hm, h7⟩ := cond_true hm
  obtain ⟨hm, h6⟩ := cond_true hm
  obtain ⟨hm, h5⟩ := cond_true hm
  obtain ⟨hm, h4⟩ := cond_true hm
  obtain ⟨hm, h3⟩ := cond_true hm
  obtain ⟨h1, h2⟩ := cond_true hm
  have h1 : y = "range" := of_decide_eq_true h1
  subst h1
  refine WI.of (pi_range3 (at_.c.gl h2) hr.head (pa_cons pe_we (pa_cons pe_we (pa_cons pe_we pa_nil (starEach_cons h5)) (starEach_cons h4)) (starEach_cons h3)) (starEach_cons h3) (by rw [starEach_cons h4, starEach_cons h5]; rfl))
    (ha a' true _ at_ h6 hr.tail.left.left (Post.bind based_i h fun x st1 g1 v H1 s1 o1 r1 h1 => ?_))
  obtain ⟨i, ei, h1⟩ := h1.int
  have e2 := (r1.rt ei).int
  subst e2
  refine hb b' true _ (at_.on s1 o1) h7 hr.tail.left.right (Post.bind based_i h1 fun y st2 g2 v2 H2 s2 o2 r2 h2 => ?_)
  obtain ⟨j, ej, h2⟩ := h2.int
  have e3 := (r2.rt ej).int
  subst e3
  refine hc c' true _ ((at_.on s1 o1).on s2 o2) h8 hr.tail.right (Post.bind based_i h2 fun z st3 g3 v3 H3 s3 o3 r3 h3 => ?_)
  obtain ⟨k, ek, h3⟩ := h3.int
  have e4 := (r3.rt ek).int
  subst e4
  obtain ⟨hb, h9⟩ := h3.cond
  clear h3
  simp only [rngOk, Bool.and_eq_true, decide_eq_true_eq] at hb
  obtain ⟨⟨⟨b1, b2⟩, b3, b4⟩, b5⟩ := hb
  subst b5
  exact ⟨i, j, -1, _, rfl, RgC.neg b1 b2 b3 b4, h9 g3 _ H3 .refl o3 pres_down⟩
theorem simI_enum {a : Ex} (ha : SimE a) : SimI (.enum a) := by
  intro X W N sc lv g H σ env st tg e R at_ hm hr h
  have ht := (cond_true hm).1
  have hm2 := (cond_true hm).2
  clear hm
  have hm := hm2
  clear hm2
  cases tg <;> try exact no_false ht
  cases e <;> try exact no_false hm
  rename_i f args kws pos
  cases f <;> cases kws <;> try exact no_false hm
  rename_i y p
  rcases args with _ | ⟨a', _ | ⟨_, _⟩⟩ <;> try exact no_false hm
  obtain ⟨hm, h4⟩ := cond_true hm
  obtain ⟨hm, h3⟩ := cond_true hm
  obtain ⟨h1, h2⟩ := cond_true hm
  have h1 : y = "enumerate" := of_decide_eq_true h1
  subst h1
  have h : Post X.K X.mg (WS_ W σ) (relI X.K) g H ((evE a false env st).bind fun x st => (datOf x st).bind fun d st => (rOpt (seqOf d) st).bind fun xs st => .ok (enumL 0 xs) st) R := h
  cases ea : evE a false env st with
  | no =>
    rw [ea] at h
    exact h.elim
  | exc c ds st1 =>
    rw [ea] at h
    refine WI.of (pi_enum (at_.c.gl h2) hr.head (pa_cons pe_we pa_nil (starEach_cons h3)) (starEach_cons h3)) (ha a' false _ at_ h4 hr.tail ?_)
    rw [ea]
    exact h
  | ok x st1 =>
    rw [ea] at h
    obtain ⟨d, ed, h⟩ := Post.dat (x := x) (st := st1) h
    obtain ⟨ds, es, h⟩ := h.opt
    cases d <;> simp only [seqOf] at es <;> cases es
    · refine WI.of (pi_enum (at_.c.gl h2) hr.head (pa_cons pe_we pa_nil (starEach_cons h3)) (starEach_cons h3)) (ha a' false _ at_ h4 hr.tail ?_)
      rw [ea]
      intro g1 v H1 s1 o1 r1
      obtain ⟨g2, s2, o2, r2, _⟩ := r1.frozen s1 o1 ed
      cases r2 with
      | list s r => exact ⟨_, _, rfl, s.seq, h g2 _ H1 s2 o2 (pres_enum s r)⟩
    · refine WI.of (pi_enumT (at_.c.gl h2) hr.head (pa_cons pe_we pa_nil (starEach_cons h3)) (starEach_cons h3)) (ha a' false _ at_ h4 hr.tail ?_)
      rw [ea]
      intro g1 v H1 s1 o1 r1
      obtain ⟨g2, s2, o2, r2, _⟩ := r1.frozen s1 o1 ed
      cases r2 with
      | tuple s r => exact ⟨_, _, rfl, s, h g2 _ H1 s2 o2 (pres_enumT s r)⟩
theorem simI_zip {a b : Ex} (ha : SimE a) (hb : SimE b) : SimI (.zip a b) := by
  intro X W N sc lv g H σ env st tg e R at_ hm hr h
  have ht := (cond_true hm).1
  have hm2 := (cond_true hm).2
  clear hm
  have hm := hm2
  clear hm2
  cases tg <;> try exact no_false ht
  cases e <;> try exact no_false hm
  rename_i f args kws pos
  cases f <;> cases kws <;> try exact no_false hm
  rename_i y p
  rcases args with _ | ⟨a', _ | ⟨b', _ | ⟨_, _⟩⟩⟩ <;> try exact no_false hm
  obtain ⟨hm, h6⟩ := cond_true hm
  obtain ⟨hm, h5⟩ := cond_true hm
  obtain ⟨hm, h4⟩ := cond_true hm
  obtain ⟨hm, h3⟩ := cond_true hm
  obtain ⟨h1, h2⟩ := cond_true hm
  have h1 : y = "zip" := of_decide_eq_true h1
  subst h1
  refine WI.of (pi_zipA (at_.c.gl h2) hr.head (pa_cons pe_we (pa_cons pe_we pa_nil (starEach_cons h4)) (starEach_cons h3)) (starEach_cons h3) (by rw [starEach_cons h4]; rfl))
    (ha a' false _ at_ h5 hr.tail.left (Post.bindF based_i h fun x st1 g1 v H1 s1 o1 r1 h1 => ?_))
  obtain ⟨d, ed, _⟩ := Post.dat (h1 g1 H1 s1)
  obtain ⟨g2, s2, o2, r2, _⟩ := r1.frozen s1 o1 ed
  obtain ⟨d', ed', k1⟩ := Post.dat (h1 g2 H1 s2)
  cases ed.symm.trans ed'
  refine hb b' false _ (at_.on s2 o2) h6 hr.tail.right (Post.bindF based_i k1 fun z st3 g3 u H3 s3 o3 r3 h3 => ?_)
  obtain ⟨e, ee, _⟩ := Post.dat (h3 g3 H3 s3)
  obtain ⟨g4, s4, o4, r4, _⟩ := r3.frozen s3 o3 ee
  obtain ⟨e', ee', k3⟩ := Post.dat (h3 g4 H3 s4)
  cases ee.symm.trans ee'
  have r5 := RD.holds (s4.holds o2) r2
  obtain ⟨ds, es, k3⟩ := k3.opt'
  cases d <;> cases e <;> simp only [zipD] at es <;> cases es
  · cases r5 with
    | list sa ra => cases r4 with
      | list sb rb => exact ⟨_, _, _, _, rfl, .inl ⟨sa.seq, sb.seq, k3 g4 _ H3 .refl o4 (pres_zip sa ra sb rb)⟩⟩
  · cases r5 with
    | tuple sa ra => cases r4 with
      | tuple sb rb => exact ⟨_, _, _, _, rfl, .inr ⟨sa, sb, k3 g4 _ H3 .refl o4 (pres_zipT sa ra sb rb)⟩⟩
/-! ### comprehensions -/
theorem wipe_sub {σ : L2.St} {vs : List Nat} : ∀ {us : List Nat}, (∀ u ∈ us, u ∈ vs) → L2.wipe (L2.wipe σ us) vs = L2.wipe σ vs
  | [], _ => rfl
  | u :: us, h => by
    show L2.wipe ((L2.wipe σ us).set u none) vs = _
    rw [wipe_set (h u List.mem_cons_self), wipe_sub fun u hu => h u (List.mem_cons_of_mem _ hu)]
theorem ctx_blk {X : Cx} {W : WX} {N : List Str} {sc scope : Scope} {lv : Nat} (c : CtxOk X W N sc lv) (hk : scope.kind = .function) (s : Shared) (H : Hp) (C : Addr) (cl : List (Str × Addr)) (fp : List Addr) :
    CtxOk (X.blk s H scope (compEnvC scope cl C X.env) fp) (fun _ _ _ _ => False) N scope lv where
  eN := c.eN
  nd := c.nd
  kind := hk
  calm := c.calm
  guards := c.guards
  sm := c.sm
  room := c.room
  takes := fun u s' x => by
    obtain ⟨_, _, _, _, _, _, _, _, _, _, _, _, _, _, _, _, no⟩ := x
    exact no.elim
  passes := fun _ _ h => h.elim
  look := fun x k h => lookup_relabel (env := X.env) h
  fn := fun x h => by
    show (scope.names.lookup x == some .cell) = true
    rw [h]
    rfl
theorem blk_ok {X : Cx} {W : WX} {N : List Str} {sc scope : Scope} {lv : Nat} {own : List (Str × Nat)} (c : CtxOk X W N sc lv) (h : blkC N sc scope own = true) : BlkOk X.N X.env.scope scope own := by
  have b := blkOk_by h
  refine ⟨b.kind, b.uniq, by rw [c.eN]; exact b.ix, fun y hy e => ?_, by rw [c.eN]; exact b.own⟩
  rcases b.free y hy e with q | q
  · rcases c.look _ _ q with r | ⟨r, _⟩
    · exact .inl r
    · cases r
  · rcases c.look _ _ q with r | ⟨_, r⟩
    · exact .inr r
    · exact .inl r
/-- the tests of a clause, at any block -/
def WCs (X : Cx) (ifs : List Expr) : TT := fun σ H Q => match ifs with
  | [] => Q true H
  | e :: _ => WT X e σ H Q
theorem pts_wcs {X : Cx} {N : List Str} {sc : Scope} {m : Opt} {ifs : List Expr} (h : mC N m sc ifs = true) : PTs X ifs (WCs X ifs) := by
  cases m with
  | non =>
    cases ifs with
    | nil => exact pts_nil
    | cons a r => exact no_false h
  | som e =>
    rcases ifs with _ | ⟨a, _ | ⟨_, _⟩⟩ <;> try exact no_false h
    exact pts_one pt_wt
theorem wcs_ok {m : Opt} (hc : SimC m) {X : Cx} {W : WX} {N : List Str} {sc : Scope} {lv : Nat} {g : G} {H : Hp} {σ : L2.St} {env : Env} {st : Store} {ifs : List Expr} {Q : Bool → Hp → Prop} (at_ : At X W N sc lv g H σ env st) (hm : mC N m sc ifs = true) (hr : Rqs X lv (rqO m))
    (h : Post X.K X.mg (WS_ W σ) relEq g H (evC m env st) Q) : WCs X ifs σ H Q := by
  cases m with
  | non =>
    cases ifs with
    | nil => exact h g true H .refl at_.ok rfl
    | cons a r => exact no_false hm
  | som e =>
    rcases ifs with _ | ⟨a, _ | ⟨_, _⟩⟩ <;> try exact no_false hm
    exact hc a Q at_ hm hr h
/-- what one turn of a comprehension reckons -/
def compF (elt : Ex) (own : List (Str × Nat)) (tg : Tg) (ifs : Opt) (env : Env) : D → Store → R (Option D) := fun d st => match bindTg tg d (wipeE env (own.map (·.2))) with
  | none => .no
  | some env' => (evC ifs env' st).bind fun k st => bif k then (evE elt false env' st).bind fun y st => (datOf y st).bind fun y st => .ok (some y) st else .ok none st
theorem Rqs.blk {X : Cx} {lv : Nat} {l : List Req} (h : Rqs X lv l) (s : Shared) (H : Hp) (scope : Scope) (cenv : PySem.Env) (fp : List Addr) (hc : cenv.code = X.env.code) (hq : cenv.qual = X.env.qual) : Rqs (X.blk s H scope cenv fp) lv l := fun r hr => ⟨(h r hr).1, by
  have q := (h r hr).2
  cases r <;> try trivial
  obtain ⟨f, oc, od, fd, osl, h1, h2, h3, h4⟩ := q
  exact ⟨f, oc, od, fd, osl, h1, h2, h3.trans hc.symm, by rw [← h4]; exact congrArg (· ++ ("<lambda>" : Str)) hq⟩⟩
abbrev gB (X : Cx) (scope : Scope) (tg' : Expr) : TG := fun v σ H Q => ∀ s H0 C cl fp, WG (X.blk s H0 scope (compEnvC scope cl C X.env) fp) tg' v σ H Q
abbrev tB (X : Cx) (scope : Scope) (ifs' : List Expr) : TT := fun σ H Q => ∀ s H0 C cl fp, WCs (X.blk s H0 scope (compEnvC scope cl C X.env) fp) ifs' σ H Q
abbrev eB (X : Cx) (scope : Scope) (elt' : Expr) : TE := fun σ H Q => ∀ s H0 C cl fp, WE (X.blk s H0 scope (compEnvC scope cl C X.env) fp) elt' σ H Q
theorem pg_gB {X : Cx} {scope : Scope} {tg' : Expr} (s : Shared) (H0 : Hp) (C : Addr) (cl : List (Str × Addr)) (fp : List Addr) : PG (X.blk s H0 scope (compEnvC scope cl C X.env) fp) tg' (gB X scope tg') := ⟨fun pins s1 σ H v u Q I r q => q s H0 C cl fp pins s1 u I r⟩
theorem pt_tB {X : Cx} {N : List Str} {sc scope : Scope} {m : Opt} {ifs' : List Expr} (h : mC N m sc ifs' = true) (s : Shared) (H0 : Hp) (C : Addr) (cl : List (Str × Addr)) (fp : List Addr) : PTs (X.blk s H0 scope (compEnvC scope cl C X.env) fp) ifs' (tB X scope ifs') :=
  ⟨fun pins s1 σ H Q I q => (pts_wcs h).run pins s1 σ H Q I (q s H0 C cl fp)⟩
theorem pe_eB {X : Cx} {scope : Scope} {elt' : Expr} (s : Shared) (H0 : Hp) (C : Addr) (cl : List (Str × Addr)) (fp : List Addr) : PE (X.blk s H0 scope (compEnvC scope cl C X.env) fp) elt' (eB X scope elt') := ⟨fun pins s1 σ H Q I q => q s H0 C cl fp pins s1 I⟩
theorem lc_ok {elt : Ex} {own : List (Str × Nat)} {tg : Tg} {it : It} {ifs : Opt} (he : SimE elt) (hi : SimI it) (hc : SimC ifs) {X : Cx} {W : WX} {N : List Str} {sc scope : Scope} {lv : Nat} {g : G} {H : Hp} {σ : L2.St} {env : Env} {st : Store}
    {elt' tg' it' : Expr} {ifs' : List Expr} (pk : Bool) (Q : VK) (at_ : At X W N sc lv g H σ env st) (h2 : blkC N sc scope own = true) (h3 : mTg N tg scope tg' = true) (h5 : mI N it sc tg' it' = true) (h6 : mC N ifs scope ifs' = true) (h7 : mE N elt scope elt' = true)
    (h8 : tgIn tg (own.map (·.2)) = true) (hr : Rqs X lv (rqI it ++ rqO ifs ++ rqE elt))
    (h : Post X.K X.mg (WS_ W σ) (relE X.K pk) g H ((evI it env st).bind fun items st => (compL (compF elt own tg ifs env) items [] st).bind fun ys st => .ok (fresh (.list ys)) st) Q) :
    tLc (WI X tg' it') (gB X scope tg') (tB X scope ifs') (eB X scope elt') (own.map (·.2)) σ H Q := by
  have hk : scope.kind = .function := (blkOk_by h2).kind
  refine hi tg' it' _ at_ h5 hr.left.left (Post.bind based_e h fun items st1 g1 J H1 s1 o1 pres h1 => ?_)
  intro D hD
  have en1 := at_.en.step s1 at_.ok
  refine ⟨fun i m H' => ∃ g' st' acc vs, Step g1 H1 g' H' ∧ Ok X.K g' H' st' ∧ H' D = some (.lst vs) ∧ RDs X.K g'.Z H' vs acc ∧ ¬ g'.Z D ∧ D ∉ g'.rho ∧ i + m = items.length ∧
    Post X.K X.mg (WS_ W σ) (relE X.K pk) g1 H1 ((compL (compF elt own tg ifs env) (items.drop i) acc st').bind fun ys st => .ok (fresh (.list ys)) st) Q, ?_, ?_⟩
  · exact ⟨items.length, g1, st1, [], [], .new hD, o1.new hD, upd_same, .nil, o1.zne hD, o1.notIn hD, Nat.zero_add _, by rw [List.drop_zero]; exact h1⟩
  · rintro i m H' ⟨g', st', acc, vs, s', o', eD, rD, nz, nr, him, hp⟩
    by_cases hlt : i < items.length
    · refine .inr ⟨pres.go g' H' i (s'.holds o1) hlt, fun H2 => ∃ m', m' < m ∧ ∃ g2 st2 acc2 vs2, Step g1 H1 g2 H2 ∧ Ok X.K g2 H2 st2 ∧ H2 D = some (.lst vs2) ∧ RDs X.K g2.Z H2 vs2 acc2 ∧ ¬ g2.Z D ∧ D ∉ g2.rho ∧ (i + 1) + m' = items.length ∧
        Post X.K X.mg (WS_ W σ) (relE X.K pk) g1 H1 ((compL (compF elt own tg ifs env) (items.drop (i + 1)) acc2 st2).bind fun ys st => .ok (fresh (.list ys)) st) Q, fun H2 q => q, fun x H2 hy => ?_⟩
      obtain ⟨d, hd, sy, oy, rx⟩ := pres.yld g' H' st' i x H2 (s'.holds o1) o' hy hlt
      have hdrop : items.drop i = d :: items.drop (i + 1) := by
        have e := List.drop_eq_getElem_cons hlt
        rw [List.getElem?_eq_getElem hlt] at hd
        rw [e, Option.some.inj hd]
      rw [hdrop] at hp
      have s2 := s'.trans sy
      have eD2 : H2 D = some (.lst vs) := sy.keep _ _ eD nr ntL
      have rD2 := RDs.step sy o' rD
      have en2 := (en1.step s2 o1).wipe (own.map (·.2))
      -- the turn
      have hp : Post X.K X.mg (WS_ W σ) (relE X.K pk) g1 H1 ((match compF elt own tg ifs env d st' with
        | .ok (some y) st1 => bif fitsS acc.length then compL (compF elt own tg ifs env) (items.drop (i + 1)) (acc ++ [y]) st1 else .no
        | .ok none st1 => compL (compF elt own tg ifs env) (items.drop (i + 1)) acc st1
        | _ => .no).bind fun ys st => .ok (fresh (.list ys)) st) Q := hp
      cases hb : bindTg tg d (wipeE env (own.map (·.2))) with
      | none =>
        have ef : compF elt own tg ifs env d st' = .no := by
          unfold compF
          rw [hb]
        rw [ef] at hp
        exact hp.elim
      | some env' =>
        have ef : compF elt own tg ifs env d st' = ((evC ifs env' st').bind fun k st => bif k then (evE elt false env' st).bind fun y st => (datOf y st).bind fun y st => .ok (some y) st else .ok none st) := by
          unfold compF
          rw [hb]
        rw [ef] at hp
        intro s H0 C cl fp
        have cb := ctx_blk at_.c hk s H0 C cl fp
        refine tg_ok cb (own.map (·.2)) tg h3 en2 rx hb fun σ2 en2 w2 => ⟨(w2 h8).trans (wipe_sub fun _ h => h), fun s H0 C cl fp => ?_⟩
        have cb := ctx_blk at_.c hk s H0 C cl fp
        have at2 : At (X.blk s H0 scope (compEnvC scope cl C X.env) fp) (fun _ _ _ _ => False) N scope lv g' H2 σ2 env' st' := ⟨cb, oy, en2, (at_.tlOn (s1.trans s2) :)⟩
        refine wcs_ok hc at2 h6 (Rqs.blk hr.left.right _ _ _ _ _ rfl rfl) ?_
        cases hcv : evC ifs env' st' with
        | no =>
          rw [hcv] at hp
          exact hp.elim
        | exc c ds st3 =>
          rw [hcv] at hp
          exact hp.elim
        | ok k st3 =>
          rw [hcv] at hp
          intro g3 k' H3 s3 o3 r3
          have r3 : k' = k := r3
          subst r3
          have hp : Post X.K X.mg (WS_ W σ) (relE X.K pk) g1 H1 ((match (bif k' then (evE elt false env' st3).bind fun y st => (datOf y st).bind fun y st => .ok (some y) st else .ok none st3 : R (Option MP.D)) with
            | .ok (some y) st1 => bif fitsS acc.length then compL (compF elt own tg ifs env) (items.drop (i + 1)) (acc ++ [y]) st1 else .no
            | .ok none st1 => compL (compF elt own tg ifs env) (items.drop (i + 1)) acc st1
            | _ => .no).bind fun ys st => .ok (fresh (.list ys)) st) Q := hp
          have eD3 : H3 D = some (.lst vs) := s3.keep _ _ eD2 nr ntL
          have rD3 := RDs.step s3 oy rD2
          have nz3 : ¬ g3.Z D := s3.nz nz (by rw [eD2]; exact fun q => by cases q)
          have nr3 : D ∉ g3.rho := s3.nr nr (by rw [eD2]; exact fun q => by cases q)
          cases k' with
          | false =>
            simp only [if_neg Bool.false_ne_true]
            exact ⟨m - 1, by omega, g3, st3, acc, vs, s2.trans s3, o3, eD3, rD3, nz3, nr3, by omega, hp⟩
          | true =>
            rw [if_pos rfl]
            intro s H0 C cl fp
            have cb := ctx_blk at_.c hk s H0 C cl fp
            have at3 : At (X.blk s H0 scope (compEnvC scope cl C X.env) fp) (fun _ _ _ _ => False) N scope lv g3 H3 σ2 env' st3 := ⟨cb, o3, en2.step s3 oy, (at_.tlOn (s1.trans (s2.trans s3)) :)⟩
            refine he elt' false _ at3 h7 (Rqs.blk hr.right _ _ _ _ _ rfl rfl) ?_
            cases hev : evE elt false env' st3 with
            | no =>
              rw [hev] at hp
              exact hp.elim
            | exc c ds st4 =>
              rw [hev] at hp
              exact hp.elim
            | ok y st4 =>
              rw [hev] at hp
              intro g4 v H4 s4 o4 r4
              obtain ⟨fr, y⟩ := y
              cases y with
              | loc n => exact hp.elim
              | dat y =>
                have hp : Post X.K X.mg (WS_ W σ) (relE X.K pk) g1 H1 ((bif fitsS acc.length then compL (compF elt own tg ifs env) (items.drop (i + 1)) (acc ++ [y]) st4 else .no).bind fun ys st => .ok (fresh (.list ys)) st) Q := hp
                have eD4 : H4 D = some (.lst vs) := s4.keep _ _ eD3 nr3 ntL
                have s24 := (s2.trans s3).trans s4
                obtain ⟨g5, s5, o5, r5, hh, er⟩ := ROut.frozen (g0 := g3) s4 o4 r4 rfl
                have nz5 : ¬ g5.Z D := s5.nz nz3 (by rw [eD3]; exact fun q => by cases q)
                have nr5 : D ∉ g5.rho := s5.nr nr3 (by rw [eD3]; exact fun q => by cases q)
                have s15 : Step g1 H1 g5 H4 := (s2.trans s3).trans s5
                cases hz : fitsS acc.length with
                | false =>
                  rw [hz] at hp
                  exact hp.elim
                | true =>
                  rw [hz] at hp
                  have rD5 : RDs X.K g5.Z H4 vs acc := RDs.holds (s5.holds o3) rD3
                  have ho := holds_own (g := g5) (u := .lst (vs ++ [v])) eD4 nz5
                  refine ⟨vs, eD4, by rw [rD5.length]; exact of_decide_eq_true hz, m - 1, by omega, g5, st4, acc ++ [y], vs ++ [v], s15.upd_new hD, o5.own eD4 nz5 nr5, upd_same, RDs.holds ho (rD5.append (.cons r5 .nil)), nz5, nr5, by omega, hp⟩
    · refine .inl ⟨?_, ?_⟩
      · have e : i = items.length := by omega
        subst e
        exact pres.stop g' H' (s'.holds o1)
      · have e : items.drop i = [] := List.drop_eq_nil_of_le (by omega)
        rw [e] at hp
        have hp : Post X.K X.mg (WS_ W σ) (relE X.K pk) g1 H1 (.ok (fresh (.list acc)) st') Q := hp
        exact hp g' (.ref D) H' s' o' ⟨D, rfl, hD, vs, eD, rD, nz, nr⟩
theorem sim_comp {elt : Ex} {own : List (Str × Nat)} {tg : Tg} {it : It} {ifs : Opt} (he : SimE elt) (hi : SimI it) (hc : SimC ifs) : SimE (.comp elt own tg it ifs) := by
  intro X W N sc lv g H σ env st e pk Q at_ hm hr h
  cases e <;> try exact no_false hm
  rename_i elt' gs scope pos
  rcases gs with _ | ⟨⟨tg', it', ifs', n⟩, _ | ⟨_, _⟩⟩ <;> try exact no_false hm
  obtain ⟨hm, h8⟩ := cond_true hm
  obtain ⟨hm, h7⟩ := cond_true hm
  obtain ⟨hm, h6⟩ := cond_true hm
  obtain ⟨hm, h5⟩ := cond_true hm
  obtain ⟨hm, h4⟩ := cond_true hm
  obtain ⟨hm, h3⟩ := cond_true hm
  obtain ⟨h1, h2⟩ := cond_true hm
  have h1 : n = 0 := of_decide_eq_true h1
  subst h1
  have hfold : ∀ x, foldedSetIterable it' X.env x = pure x := by
    intro x
    cases it' <;> first | rfl | exact no_false h4
  have h : Post X.K X.mg (WS_ W σ) (relE X.K pk) g H ((evI it env st).bind fun items st => (compL (compF elt own tg ifs env) items [] st).bind fun ys st => .ok (fresh (.list ys)) st) Q := h
  exact WE.of (pe_lc at_.c.calm (by rw [at_.c.eN]; exact at_.c.nd) pi_wi (blk_ok at_.c h2) pg_gB (pt_tB h6) pe_eB hfold) (lc_ok he hi hc pk Q at_ h2 h3 h5 h6 h7 h8 hr h)
/-! two clauses -/
def comp2F (elt : Ex) (own : List (Str × Nat)) (tg : Tg) (ifs : Opt) (own1 : List (Str × Nat)) (tg1 : Tg) (it1 : MP.It) (ifs1 : Opt) (env : Env) : D → List D → Store → R (List D) := fun d acc st => match bindTg tg d (wipeE env (own.map (·.2))) with
  | none => .no
  | some env1 => (evC ifs env1 st).bind fun k st => bif k then (evI it1 env1 st).bind fun items1 st => compL (compF elt own1 tg1 ifs1 env1) items1 acc st else .ok acc st
abbrev iB (X : Cx) (scope : Scope) (tg' it' : Expr) : TI := fun σ H R => ∀ s H0 C cl fp, WI (X.blk s H0 scope (compEnvC scope cl C X.env) fp) tg' it' σ H R
theorem pi_iB {X : Cx} {scope : Scope} {tg' it' : Expr} (s : Shared) (H0 : Hp) (C : Addr) (cl : List (Str × Addr)) (fp : List Addr) : PI (X.blk s H0 scope (compEnvC scope cl C X.env) fp) tg' it' (iB X scope tg' it') := ⟨fun pins s1 σ H R I q => pi_wi.run pins s1 σ H R I (q s H0 C cl fp)⟩
abbrev NoD (σ : L2.St) (env : Env) (D : Addr) : Prop := ∀ (i : Nat) d, env[i]? = some (.own d) → σ[i]? ≠ some (some (.ref D))
mutual
theorem bindTg_own : ∀ (t : Tg) {d : MP.D} {e e1 : Env}, bindTg t d e = some e1 → ∀ (i : Nat) o, e1[i]? = some (.own o) → e[i]? = some (.own o)
  | .nm j, d, e, e1, h, i, o, q => by
    have h : some (List.set e j (.val (.dat d))) = some e1 := h
    cases h
    rw [List.getElem?_set] at q
    split at q
    · split at q
      · cases q
      · cases q
    · exact q
  | .tup ts, d, e, e1, h, i, o, q => by
    cases d with
    | tuple ds => exact bindTgs_own ts (ds := ds) h i o q
    | list ds => exact bindTgs_own ts (ds := ds) h i o q
    | _ => exact absurd (show none = some e1 from h) (fun z => by cases z)
theorem bindTgs_own : ∀ (ts : Tgs) {ds : List MP.D} {e e1 : Env}, bindTgs ts ds e = some e1 → ∀ (i : Nat) o, e1[i]? = some (.own o) → e[i]? = some (.own o)
  | .nil, ds, e, e1, h, i, o, q => by
    cases ds with
    | nil =>
      have h : some e = some e1 := h
      cases h
      exact q
    | cons _ _ => exact absurd (show none = some e1 from h) (fun z => by cases z)
  | .cons t ts, ds, e, e1, h, i, o, q => by
    cases ds with
    | nil => exact absurd (show none = some e1 from h) (fun z => by cases z)
    | cons d r =>
      have h : (match bindTg t d e with
        | some env' => bindTgs ts r env'
        | none => none) = some e1 := h
      cases hb : bindTg t d e with
      | none =>
        rw [hb] at h
        cases h
      | some e2 =>
        rw [hb] at h
        exact bindTg_own t hb i o (bindTgs_own ts h i o q)
end
theorem wipeE_own : ∀ (vs : List Nat) {e : Env} (i : Nat) o, (wipeE e vs)[i]? = some (.own o) → e[i]? = some (.own o) ∧ i ∉ vs
  | [], e, i, o, q => ⟨q, by simp⟩
  | v :: vs, e, i, o, q => by
    have q : (List.set (wipeE e vs) v .un)[i]? = some (.own o) := q
    rw [List.getElem?_set] at q
    split at q
    · split at q <;> cases q
    · rename_i hne
      obtain ⟨h1, h2⟩ := wipeE_own vs i o q
      exact ⟨h1, fun z => by
        rcases List.mem_cons.mp z with z | z
        · exact hne z.symm
        · exact h2 z⟩
section
variable {K : PySem.W.Frag} {g : G} {H : Hp} {σ σ2 : L2.St} {env env1 : Env} {D : Addr}
theorem EnvOk.nod (en : EnvOk K g H σ env) (hD : H D = none) : NoD σ env D := fun i d e q => by
  obtain ⟨a, ea, r⟩ := en.at_ i _ _ e q
  cases ea
  exact r.ne hD
theorem NoD.turn (n : NoD σ env D) {t : Tg} {d : MP.D} {vs : List Nat} (hb : bindTg t d (wipeE env vs) = some env1) (hw : L2.wipe σ2 vs = L2.wipe σ vs) : NoD σ2 env1 D := fun i o e q => by
  obtain ⟨e1, ni⟩ := wipeE_own _ i o (bindTg_own t hb i o e)
  refine n i o e1 ?_
  rw [← L2.wipe_out (σ := σ) ni, ← hw, L2.wipe_out ni]
  exact q
theorem EnvOk.updD (en : EnvOk K g H σ env) (n : NoD σ env D) {u : HO} {vs : List V} (ha : H D = some (.lst vs)) (nz : ¬ g.Z D) : EnvOk K g (upd H D u) σ env := by
  refine ⟨en.len, fun i s x e1 e2 => ?_, en.apart⟩
  have q := en.at_ i s x e1 e2
  cases s with
  | un => trivial
  | val v =>
    obtain ⟨w, e, r⟩ := q
    exact ⟨w, e, r.holds (holds_own ha nz)⟩
  | own d =>
    obtain ⟨a, e, r⟩ := q
    have hne : a ≠ D := fun z => by
      subst z
      subst e
      exact n i d e1 e2
    refine ⟨a, e, ?_⟩
    cases d <;> try exact r.elim
    · obtain ⟨us, h1, h2, h3, h4⟩ := r
      exact ⟨us, by rw [upd_ne hne]; exact h1, RDs.holds (holds_own ha nz) h2, h3, h4⟩
    · obtain ⟨us, h1, h2, h3, h4⟩ := r
      exact ⟨us, by rw [upd_ne hne]; exact h1, RKs.holds (holds_own ha nz) h2, h3, h4⟩
end
theorem lc2_ok {elt : Ex} {own own1 : List (Str × Nat)} {tg tg1 : Tg} {it it1 : MP.It} {ifs ifs1 : Opt} (he : SimE elt) (hi : SimI it) (hc : SimC ifs) (hi1 : SimI it1) (hc1 : SimC ifs1) {X : Cx} {W : WX} {N : List Str} {sc scope : Scope} {lv : Nat} {g : G} {H : Hp} {σ : L2.St} {env : Env} {st : Store}
    {elt' tg' it' tg1' it1' : Expr} {ifs' ifs1' : List Expr} (pk : Bool) (Q : VK) (at_ : At X W N sc lv g H σ env st) (h2 : blkC N sc scope own = true) (h3 : mTg N tg scope tg' = true) (h5 : mI N it sc tg' it' = true) (h6 : mC N ifs scope ifs' = true) (h31 : mTg N tg1 scope tg1' = true) (h51 : mI N it1 scope tg1' it1' = true) (h61 : mC N ifs1 scope ifs1' = true) (h7 : mE N elt scope elt' = true)
    (h8 : tgIn tg (own.map (·.2)) = true) (h81 : tgIn tg1 (own1.map (·.2)) = true) (hr : Rqs X lv (rqI it ++ rqO ifs ++ rqI it1 ++ rqO ifs1 ++ rqE elt))
    (h : Post X.K X.mg (WS_ W σ) (relE X.K pk) g H ((evI it env st).bind fun items st => (compL2 (comp2F elt own tg ifs own1 tg1 it1 ifs1 env) items [] st).bind fun ys st => .ok (fresh (.list ys)) st) Q) :
    tLc2 (WI X tg' it') (gB X scope tg') (tB X scope ifs') (iB X scope tg1' it1') (gB X scope tg1') (tB X scope ifs1') (eB X scope elt') (own.map (·.2)) (own1.map (·.2)) σ H Q := by
  have hk : scope.kind = .function := (blkOk_by h2).kind
  refine hi tg' it' _ at_ h5 hr.left.left.left.left (Post.bind based_e h fun items st1 g1 J H1 s1 o1 pres h1 => ?_)
  intro D hD
  have en1 := at_.en.step s1 at_.ok
  refine ⟨fun i m H' => ∃ g' st' acc vs, Step g1 H1 g' H' ∧ Ok X.K g' H' st' ∧ H' D = some (.lst vs) ∧ RDs X.K g'.Z H' vs acc ∧ ¬ g'.Z D ∧ D ∉ g'.rho ∧ i + m = items.length ∧
    Post X.K X.mg (WS_ W σ) (relE X.K pk) g1 H1 ((compL2 (comp2F elt own tg ifs own1 tg1 it1 ifs1 env) (items.drop i) acc st').bind fun ys st => .ok (fresh (.list ys)) st) Q, ?_, ?_⟩
  · exact ⟨items.length, g1, st1, [], [], .new hD, o1.new hD, upd_same, .nil, o1.zne hD, o1.notIn hD, Nat.zero_add _, by rw [List.drop_zero]; exact h1⟩
  · rintro i m H' ⟨g', st', acc, vs, s', o', eD, rD, nz, nr, him, hp⟩
    by_cases hlt : i < items.length
    · refine .inr ⟨pres.go g' H' i (s'.holds o1) hlt, fun H2 => ∃ m', m' < m ∧ ∃ g2 st2 acc2 vs2, Step g1 H1 g2 H2 ∧ Ok X.K g2 H2 st2 ∧ H2 D = some (.lst vs2) ∧ RDs X.K g2.Z H2 vs2 acc2 ∧ ¬ g2.Z D ∧ D ∉ g2.rho ∧ (i + 1) + m' = items.length ∧
        Post X.K X.mg (WS_ W σ) (relE X.K pk) g1 H1 ((compL2 (comp2F elt own tg ifs own1 tg1 it1 ifs1 env) (items.drop (i + 1)) acc2 st2).bind fun ys st => .ok (fresh (.list ys)) st) Q, fun H2 q => q, fun x H2 hy => ?_⟩
      obtain ⟨d, hd, sy, oy, rx⟩ := pres.yld g' H' st' i x H2 (s'.holds o1) o' hy hlt
      have hdrop : items.drop i = d :: items.drop (i + 1) := by
        have e := List.drop_eq_getElem_cons hlt
        rw [List.getElem?_eq_getElem hlt] at hd
        rw [e, Option.some.inj hd]
      rw [hdrop] at hp
      have s2 := s'.trans sy
      have eD2 : H2 D = some (.lst vs) := sy.keep _ _ eD nr ntL
      have rD2 := RDs.step sy o' rD
      have en2 := (en1.step s2 o1).wipe (own.map (·.2))
      have hp : Post X.K X.mg (WS_ W σ) (relE X.K pk) g1 H1 ((match comp2F elt own tg ifs own1 tg1 it1 ifs1 env d acc st' with
        | .ok acc' st1 => compL2 (comp2F elt own tg ifs own1 tg1 it1 ifs1 env) (items.drop (i + 1)) acc' st1
        | _ => .no).bind fun ys st => .ok (fresh (.list ys)) st) Q := hp
      cases hb : bindTg tg d (wipeE env (own.map (·.2))) with
      | none =>
        have ef : comp2F elt own tg ifs own1 tg1 it1 ifs1 env d acc st' = .no := by
          unfold comp2F
          rw [hb]
        rw [ef] at hp
        exact hp.elim
      | some env1 =>
        have ef : comp2F elt own tg ifs own1 tg1 it1 ifs1 env d acc st' = ((evC ifs env1 st').bind fun k st => bif k then (evI it1 env1 st).bind fun items1 st => compL (compF elt own1 tg1 ifs1 env1) items1 acc st else .ok acc st) := by
          unfold comp2F
          rw [hb]
        rw [ef] at hp
        intro s H0 C cl fp
        have cb := ctx_blk at_.c hk s H0 C cl fp
        refine tg_ok cb (own.map (·.2)) tg h3 en2 rx hb fun σ2 en2 w2 => ⟨(w2 h8).trans (wipe_sub fun _ h => h), fun s H0 C cl fp => ?_⟩
        have wq : L2.wipe σ2 (own.map (·.2)) = L2.wipe σ (own.map (·.2)) := (w2 h8).trans (wipe_sub fun _ h => h)
        have cb := ctx_blk at_.c hk s H0 C cl fp
        have at2 : At (X.blk s H0 scope (compEnvC scope cl C X.env) fp) (fun _ _ _ _ => False) N scope lv g' H2 σ2 env1 st' := ⟨cb, oy, en2, (at_.tlOn (s1.trans s2) :)⟩
        refine wcs_ok hc at2 h6 (Rqs.blk hr.left.left.left.right _ _ _ _ _ rfl rfl) ?_
        cases hcv : evC ifs env1 st' with
        | no =>
          rw [hcv] at hp
          exact hp.elim
        | exc c ds st3 =>
          rw [hcv] at hp
          exact hp.elim
        | ok k st3 =>
          rw [hcv] at hp
          intro g3 k' H3 s3 o3 r3
          have r3 : k' = k := r3
          subst r3
          have hp : Post X.K X.mg (WS_ W σ) (relE X.K pk) g1 H1 ((match (bif k' then (evI it1 env1 st3).bind fun items1 st => compL (compF elt own1 tg1 ifs1 env1) items1 acc st else .ok acc st3 : R (List MP.D)) with
            | .ok acc' st1 => compL2 (comp2F elt own tg ifs own1 tg1 it1 ifs1 env) (items.drop (i + 1)) acc' st1
            | _ => .no).bind fun ys st => .ok (fresh (.list ys)) st) Q := hp
          have eD3 : H3 D = some (.lst vs) := s3.keep _ _ eD2 nr ntL
          have rD3 := RDs.step s3 oy rD2
          have nz3 : ¬ g3.Z D := s3.nz nz (by rw [eD2]; exact fun q => by cases q)
          have nr3 : D ∉ g3.rho := s3.nr nr (by rw [eD2]; exact fun q => by cases q)
          cases k' with
          | false =>
            simp only [if_neg Bool.false_ne_true]
            exact ⟨m - 1, by omega, g3, st3, acc, vs, s2.trans s3, o3, eD3, rD3, nz3, nr3, by omega, hp⟩
          | true =>
            rw [if_pos rfl]
            intro s H0 C cl fp
            have cb := ctx_blk at_.c hk s H0 C cl fp
            have at3 : At (X.blk s H0 scope (compEnvC scope cl C X.env) fp) (fun _ _ _ _ => False) N scope lv g3 H3 σ2 env1 st3 := ⟨cb, o3, en2.step s3 oy, (at_.tlOn (s1.trans (s2.trans s3)) :)⟩
            refine hi1 tg1' it1' _ at3 h51 (Rqs.blk hr.left.left.right _ _ _ _ _ rfl rfl) ?_
            cases hev : evI it1 env1 st3 with
            | no =>
              rw [hev] at hp
              exact hp.elim
            | exc c ds st4 =>
              rw [hev] at hp
              exact hp.elim
            | ok items1 st4 =>
              rw [hev] at hp
              intro g4 J1 H4 s4 o4 pres1
              have hp : Post X.K X.mg (WS_ W σ) (relE X.K pk) g1 H1 ((match compL (compF elt own1 tg1 ifs1 env1) items1 acc st4 with
                | .ok acc' st1 => compL2 (comp2F elt own tg ifs own1 tg1 it1 ifs1 env) (items.drop (i + 1)) acc' st1
                | _ => .no).bind fun ys st => .ok (fresh (.list ys)) st) Q := hp
              have s14 : Step g1 H1 g4 H4 := (s2.trans s3).trans s4
              have eD4 : H4 D = some (.lst vs) := s4.keep _ _ eD3 nr3 ntL
              have rD4 := RDs.step s4 o3 rD3
              have nz4 : ¬ g4.Z D := s4.nz nz3 (by rw [eD3]; exact fun q => by cases q)
              have nr4 : D ∉ g4.rho := s4.nr nr3 (by rw [eD3]; exact fun q => by cases q)
              have en4 := (en2.step s3 oy).step s4 o3
              have nod : NoD σ2 env1 D := (en1.nod hD).turn hb wq
              refine ⟨fun j k H' => ∃ g' st' acc vs, Step g1 H1 g' H' ∧ EnvOk X.K g' H' σ2 env1 ∧ Holds g4.Z g'.Z H4 H' ∧ Ok X.K g' H' st' ∧ H' D = some (.lst vs) ∧ RDs X.K g'.Z H' vs acc ∧ ¬ g'.Z D ∧ D ∉ g'.rho ∧ j + k = items1.length ∧
                Post X.K X.mg (WS_ W σ) (relE X.K pk) g1 H1 ((match compL (compF elt own1 tg1 ifs1 env1) (items1.drop j) acc st' with
                  | .ok acc' st1 => compL2 (comp2F elt own tg ifs own1 tg1 it1 ifs1 env) (items.drop (i + 1)) acc' st1
                  | _ => .no).bind fun ys st => .ok (fresh (.list ys)) st) Q, ?_, ?_⟩
              · exact ⟨items1.length, g4, st4, acc, vs, s14, en4, ⟨fun _ _ h => h, fun _ h => h, fun _ _ _ _ h => h⟩, o4, eD4, rD4, nz4, nr4, Nat.zero_add _, by rw [List.drop_zero]; exact hp⟩
              · clear hp eD4 rD4 nz4 nr4 en4 s14 eD3 rD3 nz3 nr3 at3 eD2 rD2 en2 at2 cb
                clear cb
                rintro j k H5 ⟨g5, st5, acc, vs, s15, en5, hh5, o5, eD5, rD5, nz5, nr5, hjk, hp⟩
                by_cases hlt1 : j < items1.length
                · refine .inr ⟨pres1.go g5 H5 j hh5 hlt1, fun H2 => ∃ k', k' < k ∧ ∃ g' st' acc vs, Step g1 H1 g' H2 ∧ EnvOk X.K g' H2 σ2 env1 ∧ Holds g4.Z g'.Z H4 H2 ∧ Ok X.K g' H2 st' ∧ H2 D = some (.lst vs) ∧ RDs X.K g'.Z H2 vs acc ∧ ¬ g'.Z D ∧ D ∉ g'.rho ∧ (j + 1) + k' = items1.length ∧
                    Post X.K X.mg (WS_ W σ) (relE X.K pk) g1 H1 ((match compL (compF elt own1 tg1 ifs1 env1) (items1.drop (j + 1)) acc st' with
                      | .ok acc' st1 => compL2 (comp2F elt own tg ifs own1 tg1 it1 ifs1 env) (items.drop (i + 1)) acc' st1
                      | _ => .no).bind fun ys st => .ok (fresh (.list ys)) st) Q, fun H2 q => q, fun x H6 hy => ?_⟩
                  obtain ⟨d, hd, sy, oy, rx⟩ := pres1.yld g5 H5 st5 j x H6 hh5 o5 hy hlt1
                  have hdrop : items1.drop j = d :: items1.drop (j + 1) := by
                    have e := List.drop_eq_getElem_cons hlt1
                    rw [List.getElem?_eq_getElem hlt1] at hd
                    rw [e, Option.some.inj hd]
                  rw [hdrop] at hp
                  have s16 := s15.trans sy
                  have eD6 : H6 D = some (.lst vs) := sy.keep _ _ eD5 nr5 ntL
                  have rD6 := RDs.step sy o5 rD5
                  have en6 := en5.step sy o5
                  have hh6 := hh5.trans (sy.holds o5)
                  have nz6 : ¬ g5.Z D := nz5
                  have enw := en6.wipe (own1.map (·.2))
                  have hp : Post X.K X.mg (WS_ W σ) (relE X.K pk) g1 H1 ((match (match compF elt own1 tg1 ifs1 env1 d st5 with
                    | .ok (some y) st1 => bif fitsS acc.length then compL (compF elt own1 tg1 ifs1 env1) (items1.drop (j + 1)) (acc ++ [y]) st1 else .no
                    | .ok none st1 => compL (compF elt own1 tg1 ifs1 env1) (items1.drop (j + 1)) acc st1
                    | _ => .no) with
                      | .ok acc' st1 => compL2 (comp2F elt own tg ifs own1 tg1 it1 ifs1 env) (items.drop (i + 1)) acc' st1
                      | _ => .no).bind fun ys st => .ok (fresh (.list ys)) st) Q := hp
                  cases hb1 : bindTg tg1 d (wipeE env1 (own1.map (·.2))) with
                  | none =>
                    have ef : compF elt own1 tg1 ifs1 env1 d st5 = .no := by
                      unfold compF
                      rw [hb1]
                    rw [ef] at hp
                    exact hp.elim
                  | some env' =>
                    have ef : compF elt own1 tg1 ifs1 env1 d st5 = ((evC ifs1 env' st5).bind fun k st => bif k then (evE elt false env' st).bind fun y st => (datOf y st).bind fun y st => .ok (some y) st else .ok none st) := by
                      unfold compF
                      rw [hb1]
                    rw [ef] at hp
                    intro s H0 C cl fp
                    have cb := ctx_blk at_.c hk s H0 C cl fp
                    refine tg_ok cb (own1.map (·.2)) tg1 h31 enw rx hb1 fun σ3 en7 w7 => ⟨(w7 h81).trans (wipe_sub fun _ h => h), fun s H0 C cl fp => ?_⟩
                    have cb := ctx_blk at_.c hk s H0 C cl fp
                    have at7 : At (X.blk s H0 scope (compEnvC scope cl C X.env) fp) (fun _ _ _ _ => False) N scope lv g5 H6 σ3 env' st5 := ⟨cb, oy, en7, (at_.tlOn (s1.trans s16) :)⟩
                    refine wcs_ok hc1 at7 h61 (Rqs.blk hr.left.right _ _ _ _ _ rfl rfl) ?_
                    cases hcv1 : evC ifs1 env' st5 with
                    | no =>
                      rw [hcv1] at hp
                      exact hp.elim
                    | exc c ds st7 =>
                      rw [hcv1] at hp
                      exact hp.elim
                    | ok k7 st7 =>
                      rw [hcv1] at hp
                      intro g7 k' H7 s7 o7 r7
                      have r7 : k' = k7 := r7
                      subst r7
                      have hp : Post X.K X.mg (WS_ W σ) (relE X.K pk) g1 H1 ((match (match (bif k' then (evE elt false env' st7).bind fun y st => (datOf y st).bind fun y st => .ok (some y) st else .ok none st7 : R (Option MP.D)) with
                        | .ok (some y) st1 => bif fitsS acc.length then compL (compF elt own1 tg1 ifs1 env1) (items1.drop (j + 1)) (acc ++ [y]) st1 else .no
                        | .ok none st1 => compL (compF elt own1 tg1 ifs1 env1) (items1.drop (j + 1)) acc st1
                        | _ => .no) with
                          | .ok acc' st1 => compL2 (comp2F elt own tg ifs own1 tg1 it1 ifs1 env) (items.drop (i + 1)) acc' st1
                          | _ => .no).bind fun ys st => .ok (fresh (.list ys)) st) Q := hp
                      have eD7 : H7 D = some (.lst vs) := s7.keep _ _ eD6 nr5 ntL
                      have rD7 := RDs.step s7 oy rD6
                      have nz7 : ¬ g7.Z D := s7.nz nz5 (by rw [eD6]; exact fun q => by cases q)
                      have nr7 : D ∉ g7.rho := s7.nr nr5 (by rw [eD6]; exact fun q => by cases q)
                      have enA := en6.step s7 oy
                      have hhA := hh6.trans (s7.holds oy)
                      cases k' with
                      | false =>
                        simp only [if_neg Bool.false_ne_true]
                        exact ⟨k - 1, by omega, g7, st7, acc, vs, s16.trans s7, enA, hhA, o7, eD7, rD7, nz7, nr7, by omega, hp⟩
                      | true =>
                        rw [if_pos rfl]
                        intro s H0 C cl fp
                        have cb := ctx_blk at_.c hk s H0 C cl fp
                        have at8 : At (X.blk s H0 scope (compEnvC scope cl C X.env) fp) (fun _ _ _ _ => False) N scope lv g7 H7 σ3 env' st7 := ⟨cb, o7, en7.step s7 oy, (at_.tlOn (s1.trans (s16.trans s7)) :)⟩
                        refine he elt' false _ at8 h7 (Rqs.blk hr.right _ _ _ _ _ rfl rfl) ?_
                        cases hev8 : evE elt false env' st7 with
                        | no =>
                          rw [hev8] at hp
                          exact hp.elim
                        | exc c ds st8 =>
                          rw [hev8] at hp
                          exact hp.elim
                        | ok y st8 =>
                          rw [hev8] at hp
                          intro g8 v H8 s8 o8 r8
                          obtain ⟨fr, y⟩ := y
                          cases y with
                          | loc n => exact hp.elim
                          | dat y =>
                            have hp : Post X.K X.mg (WS_ W σ) (relE X.K pk) g1 H1 ((match (bif fitsS acc.length then compL (compF elt own1 tg1 ifs1 env1) (items1.drop (j + 1)) (acc ++ [y]) st8 else .no) with
                              | .ok acc' st1 => compL2 (comp2F elt own tg ifs own1 tg1 it1 ifs1 env) (items.drop (i + 1)) acc' st1
                              | _ => .no).bind fun ys st => .ok (fresh (.list ys)) st) Q := hp
                            have eD8 : H8 D = some (.lst vs) := s8.keep _ _ eD7 nr7 ntL
                            obtain ⟨g9, s9, o9, r9, hh, er⟩ := ROut.frozen (g0 := g7) s8 o8 r8 rfl
                            have nz9 : ¬ g9.Z D := s9.nz nz7 (by rw [eD7]; exact fun q => by cases q)
                            have nr9 : D ∉ g9.rho := s9.nr nr7 (by rw [eD7]; exact fun q => by cases q)
                            have s19 : Step g1 H1 g9 H8 := (s16.trans s7).trans s9
                            cases hz : fitsS acc.length with
                            | false =>
                              rw [hz] at hp
                              exact hp.elim
                            | true =>
                              rw [hz] at hp
                              have rD9 : RDs X.K g9.Z H8 vs acc := RDs.holds (s9.holds o7) rD7
                              have ho := holds_own (g := g9) (u := .lst (vs ++ [v])) eD8 nz9
                              refine ⟨vs, eD8, by rw [rD9.length]; exact of_decide_eq_true hz, k - 1, by omega, g9, st8, acc ++ [y], vs ++ [v], s19.upd_new hD, (enA.step s9 o7).updD nod eD8 nz9, (hhA.trans (s9.holds o7)).trans ho, o9.own eD8 nz9 nr9, upd_same, RDs.holds ho (rD9.append (.cons r9 .nil)), nz9, nr9, by omega, hp⟩
                · refine .inl ⟨?_, ?_⟩
                  · have e : j = items1.length := by omega
                    subst e
                    exact pres1.stop g5 H5 hh5
                  · have e : items1.drop j = [] := List.drop_eq_nil_of_le (by omega)
                    rw [e] at hp
                    exact ⟨m - 1, by omega, g5, st5, acc, vs, s15, o5, eD5, rD5, nz5, nr5, by omega, hp⟩
    · refine .inl ⟨?_, ?_⟩
      · have e : i = items.length := by omega
        subst e
        exact pres.stop g' H' (s'.holds o1)
      · have e : items.drop i = [] := List.drop_eq_nil_of_le (by omega)
        rw [e] at hp
        have hp : Post X.K X.mg (WS_ W σ) (relE X.K pk) g1 H1 (.ok (fresh (.list acc)) st') Q := hp
        exact hp g' (.ref D) H' s' o' ⟨D, rfl, hD, vs, eD, rD, nz, nr⟩
theorem sim_comp2 {elt : Ex} {own own1 : List (Str × Nat)} {tg tg1 : Tg} {it it1 : MP.It} {ifs ifs1 : Opt} (he : SimE elt) (hi : SimI it) (hc : SimC ifs) (hi1 : SimI it1) (hc1 : SimC ifs1) : SimE (.comp2 elt own tg it ifs own1 tg1 it1 ifs1) := by
  intro X W N sc lv g H σ env st e pk Q at_ hm hr h
  cases e <;> try exact no_false hm
  rename_i elt' gs scope pos
  rcases gs with _ | ⟨⟨tg', it', ifs', n⟩, _ | ⟨⟨tg1', it1', ifs1', n1⟩, _ | ⟨_, _⟩⟩⟩ <;> try exact no_false hm
  obtain ⟨hm, hv⟩ := cond_true hm
  obtain ⟨hm, h81⟩ := cond_true hm
  obtain ⟨hm, h8⟩ := cond_true hm
  obtain ⟨hm, h7⟩ := cond_true hm
  obtain ⟨hm, h61⟩ := cond_true hm
  obtain ⟨hm, h51⟩ := cond_true hm
  obtain ⟨hm, h31⟩ := cond_true hm
  obtain ⟨hm, h6⟩ := cond_true hm
  obtain ⟨hm, h5⟩ := cond_true hm
  obtain ⟨hm, h41⟩ := cond_true hm
  obtain ⟨hm, h4⟩ := cond_true hm
  obtain ⟨hm, h3⟩ := cond_true hm
  obtain ⟨hm, h2⟩ := cond_true hm
  obtain ⟨h1, h11⟩ := cond_true hm
  have h1 : n = 0 := of_decide_eq_true h1
  have h11 : n1 = 0 := of_decide_eq_true h11
  subst h1 h11
  have hfold : ∀ x, foldedSetIterable it' X.env x = pure x := by
    intro x
    cases it' <;> first | rfl | exact no_false h4
  have hfold1 : ∀ env x, foldedSetIterable it1' env x = pure x := by
    intro env x
    cases it1' <;> first | rfl | exact no_false h41
  have hv' : ∀ i ∈ own1.map (·.2), i ∈ own.map (·.2) := by
    intro i hi
    obtain ⟨x, hx, rfl⟩ := List.mem_map.mp hi
    have q := List.all_eq_true.mp hv x hx
    obtain ⟨y, hy, e⟩ := List.any_eq_true.mp q
    exact List.mem_map.mpr ⟨y, hy, by simpa using e⟩
  have h : Post X.K X.mg (WS_ W σ) (relE X.K pk) g H ((evI it env st).bind fun items st => (compL2 (comp2F elt own tg ifs own1 tg1 it1 ifs1 env) items [] st).bind fun ys st => .ok (fresh (.list ys)) st) Q := h
  exact WE.of (pe_lc2 at_.c.calm (by rw [at_.c.eN]; exact at_.c.nd) pi_wi (blk_ok at_.c h2) hv' pg_gB (pt_tB h6) pi_iB pg_gB (pt_tB h61) pe_eB hfold hfold1) (lc2_ok he hi hc hi1 hc1 pk Q at_ h2 h3 h5 h6 h31 h51 h61 h7 h8 h81 hr h)
end MP
/-! A lambda handed to a def that calls it. -/
namespace MP
open PySem PyProof.Rows L2 PySem.Spec
theorem rout_pk {K : PySem.W.Frag} {pk : Bool} {g : G} {H H0 : Hp} {v : V} {x : RV} (w : ROut K false g H H0 v x) : ROut K pk g H H0 v x := by
  cases pk with
  | false => exact w
  | true =>
    obtain ⟨fr, y⟩ := x
    cases y with
    | loc n => cases fr <;> exact w
    | dat d =>
      cases fr with
      | true => exact w
      | false => exact .inl w
theorem litV_rd {K : PySem.W.Frag} {Z : Addr → Prop} {H : Hp} : ∀ l : Lit, RD K Z H (litV l) l.d
  | .none => .none
  | .bool b => .bool b
  | .int i => .int i
  | .str x => .str x
section
variable {K : PySem.W.Frag} {g : G} {H H0 H2 : Hp} {st : Store} {v : V}
theorem afOut_ok {f : Af} (o : Ok K g H st) (n : ∀ a, H a = none → H0 a = none) (q : AfOut f H v H2) : Step g H g H2 ∧ Ok K g H2 st ∧ ROut K false g H2 H0 v ⟨(afR f).1, .dat (afR f).2⟩ := by
  cases f with
  | lit l =>
    obtain ⟨rfl, rfl⟩ := q
    exact ⟨.refl, o, litV_rd l⟩
  | nil =>
    obtain ⟨q, hq, rfl, rfl⟩ := q
    exact ⟨.new hq, o.new hq, q, rfl, n q hq, OwnAt.new_lst o hq .nil⟩
theorem hxR_lst {f : Str} {c : Option Str} {ds : List (Str × PyData)} {b : Bool} {d : PyData} (e : hxR (.lst f c) ds = some (b, d)) : ∃ j, ds = [(f, .int j)] ∧ b = true ∧ d = .list [.int j] := by
  rcases ds with _ | ⟨⟨g, dd⟩, _ | ⟨p, r⟩⟩
  · cases e
  · cases dd <;> try (cases e; done)
    rename_i j
    have e : (bif decide (g = f) then some (true, PyData.list [.int j]) else none) = some (b, d) := e
    by_cases h : g = f
    · rw [decide_eq_true h] at e
      cases e
      exact ⟨j, by rw [h], rfl, rfl⟩
    · rw [decide_eq_false h] at e
      cases e
  · cases dd <;> cases e
theorem hxR_tup {s f : Str} {c : Option (Str × Str)} {ds : List (Str × PyData)} {b : Bool} {d : PyData} (e : hxR (.tup s f c) ds = some (b, d)) : ∃ j, ds = [(f, .int j)] ∧ b = false ∧ d = .tuple [.str s, .int j] := by
  rcases ds with _ | ⟨⟨g, dd⟩, _ | ⟨p, r⟩⟩
  · cases e
  · cases dd <;> try (cases e; done)
    rename_i j
    have e : (bif decide (g = f) then some (false, PyData.tuple [.str s, .int j]) else none) = some (b, d) := e
    by_cases h : g = f
    · rw [decide_eq_true h] at e
      cases e
      exact ⟨j, by rw [h], rfl, rfl⟩
    · rw [decide_eq_false h] at e
      cases e
  · cases dd <;> cases e
theorem xd_of {mg : Str → Option Value} {f c : Str} {j : Int} {cls : Value} {dx : Option Addr} (x : ExcIs K mg g H c [(f, .int j)] cls dx) : ∃ dd, dx = some dd ∧ H dd = some (.xd [(f, .int j)]) := by
  obtain ⟨_, dd, fs, e1, e2, e3, e4⟩ := x
  refine ⟨dd, e1, ?_⟩
  rcases fs with _ | ⟨⟨f1, v1⟩, _ | ⟨_, _⟩⟩
  · cases e3
  · cases e4 with
    | cons a b =>
      cases a
      have e3 : [f1] = [f] := e3
      cases e3
      exact e2
  · cases e3
/-- what the clause answers, by what the error bears -/
theorem catch_ok {mg : Str → Option Value} {h : Hx} {c : Str} {ds : List (Str × PyData)} {cls : Value} {dx : Option Addr} {b : Bool} {d : PyData} (e : hxR h ds = some (b, d)) (x : ExcIs K mg g H c ds cls dx) (o : Ok K g H st) (n : ∀ a, H a = none → H0 a = none) :
    ∃ j, DatIs h dx H j ∧ ∀ v H2, HxOut h j H v H2 → Step g H g H2 ∧ Ok K g H2 st ∧ ROut K false g H2 H0 v ⟨b, .dat d⟩ := by
  cases h with
  | cst l =>
    cases (show some (false, l.d) = some (b, d) from e)
    refine ⟨0, trivial, fun v H2 q => ?_⟩
    obtain ⟨rfl, rfl⟩ := q
    exact ⟨.refl, o, litV_rd l⟩
  | lst f c' =>
    obtain ⟨j, rfl, rfl, rfl⟩ := hxR_lst e
    refine ⟨j, xd_of x, fun v H2 q => ?_⟩
    obtain ⟨q, hq, rfl, rfl⟩ := q
    exact ⟨.new hq, o.new hq, q, rfl, n q hq, OwnAt.new_lst o hq (.cons (.int j) .nil)⟩
  | tup s f c' =>
    obtain ⟨j, rfl, rfl, rfl⟩ := hxR_tup e
    refine ⟨j, xd_of x, fun v H2 q => ?_⟩
    obtain ⟨q, hq, rfl, rfl⟩ := q
    exact ⟨.new hq, o.new hq, RD.new_tup o hq (.cons (.str s) (.cons (.int j) .nil))⟩
theorem lam_step {T : List (Addr × Str)} {H1 : Hp} (eT : g.T = T) (h : LamH T H H1) : Step g H g H1 :=
  ⟨fun _ z => z, fun _ z => .inl z, ⟨[], by simp, by simp⟩, fun b o e _ nt => h.ext b o e nt, h.gone, rfl⟩
theorem lam_ok {T : List (Addr × Str)} {H1 : Hp} (eT : g.T = T) (o : Ok K g H st) (h : LamH T H H1) : Ok K g H1 st :=
  o.step (lam_step eT h) (fun a ha => by
    rcases o.some ha with ⟨vs, e⟩ | ⟨kv, e⟩
    · rw [e, h.ext a _ e ntL]
    · rw [e, h.ext a _ e ntD]) (by rw [eT]; exact h.tb)
end
theorem isVis_ok {sc : Scope} {x : Str} (h : isVis sc x = true) : Vis sc x := by
  unfold isVis at h
  split at h
  · rename_i q; exact .inl q
  · rename_i q; exact .inr (.inl q)
  · rename_i q; exact .inr (.inr q)
  · cases h
theorem noArgs_ok {p : Arguments} (h : noArgs p = true) : p = ⟨[], [], none, [], [], none, []⟩ := by
  obtain ⟨a, b, c, d, e, f, g⟩ := p
  simp only [noArgs, Bool.and_eq_true, List.isEmpty_iff, Option.isNone_iff_eq_none] at h
  obtain ⟨⟨⟨⟨⟨⟨rfl, rfl⟩, rfl⟩, rfl⟩, rfl⟩, rfl⟩, rfl⟩ := h
  rfl
theorem sim_lamc {f : Str} {k : HK} {b : Ex} (hb : SimE b) : SimE (.lamc f k b) := by
  intro X W N sc lv g H σ env st e pk Q at_ hm hr h
  cases e <;> try exact no_false hm
  rename_i z args kws pos
  cases z <;> try exact no_false hm
  rename_i y py
  rcases args with _ | ⟨e1, _ | ⟨_, _⟩⟩ <;> (try exact no_false hm) <;> cases kws <;> (try exact no_false hm)
  cases e1 <;> try exact no_false hm
  rename_i params body scope lpos
  obtain ⟨hm, h6⟩ := cond_true hm
  obtain ⟨hm, h5⟩ := cond_true hm
  obtain ⟨hm, h4⟩ := cond_true hm
  obtain ⟨hm, h3⟩ := cond_true hm
  obtain ⟨h1, h2⟩ := cond_true hm
  have h1 : f = y := of_decide_eq_true h1
  subst h1
  have ep := noArgs_ok h4
  subst ep
  have LS := LamX.lamS_by h5
  have L : LamX.LamS X.env.scope scope := ⟨LS.kind, LS.co, LS.gen, LS.own, fun y hy e => by
    rcases LS.free y hy e with q | q
    · rcases at_.c.look _ _ q with r | ⟨r, _⟩
      · exact .inl r
      · cases r
    · rcases at_.c.look _ _ q with r | ⟨_, r⟩
      · exact .inr r
      · exact .inl r⟩
  obtain ⟨fl, oc1, od1, fd1, osl1, m1, l1, c1, q1⟩ := (hr .lam List.mem_cons_self).2
  obtain ⟨c, P, hcode, TB, hmem, huniq⟩ := at_.tl fl oc1 od1 fd1 osl1 m1 l1
  obtain ⟨h2lv, g', pg, bg, sg, dV, kV, doc, pm, cdv, ct, oc, an, od, osl, Ng, a, F⟩ := hr.tail.head
  have hda := okName_debug F.ok
  rw [← q1] at hmem huniq
  refine we_lamc0 (T := g.T) (TT := TTh X.mg k) (k := lv - 2) (t := fun E σ H Q => ∀ A outer s0 H0 f' c', A.guards = X.A.guards → Room (lv - 2) (A.deeper (LamX.lamEnv X scope (Shared.heap s0).objs.size f' c')) → WE (LamX.lamCx X A outer s0 H0 E scope f' c') body σ H Q)
    (at_.c.gl h2) F.hm F.hk F.lk F.hcg F.hb F.Sg F.N0 (isVis_ok F.vis) (hfn_gives F) TB (c1.symm.trans hcode) hmem huniq (at_.c.room.mono (by omega)) L rfl (fun _ _ _ _ _ => rfl)
    (fun A outer s0 H0 E f' c' hg2 hr2 => ⟨fun pins s1 σ H Q I q => q A outer s0 H0 f' c' hg2 hr2 pins s1 I⟩) (okName_debug h3).1 hda.1 hda.2.1 at_.ok.tb fun H1 lh => ?_
  have okH1 := lam_ok (T := g.T) rfl at_.ok lh
  have st1 : Step g H g H1 := lam_step (T := g.T) rfl lh
  have h : Post X.K X.mg (WS_ W σ) (relE X.K pk) g H1 (lamR k (evE b false env st)) Q := Post.later based_e st1 h
  show ∀ A outer s0 H0 f' c', A.guards = X.A.guards → Room (lv - 2) (A.deeper (LamX.lamEnv X scope (Shared.heap s0).objs.size f' c')) → WE (LamX.lamCx X A outer s0 H0 (fun cls d H' => X.mg k.c = some cls ∧ ∃ j, DatIs k.h d H' j ∧ ∀ v H2, HxOut k.h j H' v H2 → Q v H2) scope f' c') body σ H1
    (fun v H' => if k.ret = true then Q v H' else ∀ v2 H2, AfOut k.af H' v2 H2 → Q v2 H2)
  intro A outer s0 H0 f' c' hg2 hr2
  have cx : CtxOk (LamX.lamCx X A outer s0 H0 (fun cls d H' => X.mg k.c = some cls ∧ ∃ j, DatIs k.h d H' j ∧ ∀ v H2, HxOut k.h j H' v H2 → Q v H2) scope f' c') (fun cls d _ H' => X.mg k.c = some cls ∧ ∃ j, DatIs k.h d H' j ∧ ∀ v H2, HxOut k.h j H' v H2 → Q v H2) N scope (lv - 2) :=
    ⟨at_.c.eN, at_.c.nd, L.kind, rfl, hg2.trans at_.c.guards, hr2, takes_of rfl rfl rfl rfl, passes_of rfl, fun x k h => .inl h, fun x h => absurd rfl (L.own _ (PySem.mem_of_lookup h)).2, at_.c.sm⟩
  refine hb body false _ ⟨cx, okH1, at_.en.step st1 at_.ok, at_.tl⟩ h6 (fun r hr' => ?_) ?_
  · obtain ⟨⟨_, hn, q⟩, _⟩ := hr (.deep r) (List.mem_cons_of_mem _ (List.mem_cons_of_mem _ (List.mem_map_of_mem hr')))
    refine ⟨q, ?_⟩
    cases r <;> trivial
  · cases hv : evE b false env st with
    | ok x st' =>
      rw [hv] at h
      intro g' v H' s o r
      have h : Post X.K X.mg (WS_ W σ) (relE X.K pk) g H1 (bif k.ret then .ok x st' else .ok ⟨(afR k.af).1, .dat (afR k.af).2⟩ st') Q := h
      cases hret : k.ret with
      | true =>
        rw [hret] at h
        rw [if_pos rfl]
        exact h g' v H' s o (rout_pk r)
      | false =>
        rw [hret] at h
        rw [if_neg Bool.false_ne_true]
        intro v2 H2 q
        obtain ⟨s2, o2, r2⟩ := afOut_ok o s.gone q
        exact h g' v2 H2 (s.trans s2) o2 (rout_pk r2)
    | exc c ds st' =>
      rw [hv] at h
      intro g' cls d H' s o x
      have h : Post X.K X.mg (WS_ W σ) (relE X.K pk) g H1 (bif decide (c = k.c) then (match hxR k.h ds with | some (b, d) => .ok ⟨b, .dat d⟩ st' | none => .no) else .no) Q := h
      obtain ⟨hc, h⟩ := h.cond
      have hc : c = k.c := of_decide_eq_true hc
      cases hh : hxR k.h ds with
      | none =>
        rw [hh] at h
        exact h.elim
      | some p =>
        obtain ⟨b0, d0⟩ := p
        rw [hh] at h
        obtain ⟨j, dj, out⟩ := catch_ok hh x o s.gone
        exact ⟨by rw [← hc]; exact x.1, j, dj, fun v H2 q => by
          obtain ⟨s2, o2, r2⟩ := out v H2 q
          exact h g' v H2 (s.trans s2) o2 (rout_pk r2)⟩
    | no =>
      rw [hv] at h
      exact h.elim
end MP
/-! Cells: dicts and lists that many share. All expressions. -/
namespace MP
open PySem PyProof.Rows L2 PySem.Spec
def trsOf (X : Cx) : List Str → List Expr → List (TE × TE)
  | k :: ks, e :: es => (tC (.str k), WE X e) :: trsOf X ks es
  | _, _ => []
theorem pps_of {X : Cx} {pos : Pos} : ∀ {ks : List Str} {keys : List (Option Expr)} {es : List Expr}, mKeys ks keys = true → ks.length = es.length → PPs X pos keys es (trsOf X ks es)
  | [], keys, es, h, hl => by
    cases keys <;> try exact no_false h
    cases es <;> first | exact pps_nil | cases hl
  | k :: ks, keys, es, h, hl => by
    cases keys <;> try exact no_false h
    rename_i k' r
    cases es <;> try cases hl
    rename_i e es
    cases k' <;> try exact no_false h
    rename_i k'
    cases k' <;> try exact no_false h
    rename_i c j p
    cases c <;> try exact no_false h
    obtain ⟨h1, h2⟩ := cond_true h
    cases of_decide_eq_true h1
    exact pps_cons pe_str pe_we (pps_of h2 (Nat.succ.inj hl))
def SimK (m : Exs) : Prop := ∀ {X : Cx} {W : WX} {N : List Str} {sc : Scope} {lv : Nat} {g : G} {H : Hp} {σ : L2.St} {env : Env} {st : Store} (ks : List Str) (es : List Expr) (Q : List V → Hp → Prop), At X W N sc lv g H σ env st → mEs N m sc es = true → ks.length = es.length → Rqs X lv (rqEs m) →
  Post X.K X.mg (WS_ W σ) (relV X.K) g H (evV m env st) Q → tPairs (trsOf X ks es) σ H fun ps H' => ps.map (·.1) = ks.map V.str ∧ Q (ps.map (·.2)) H'
theorem simK_nil : SimK .nil := by
  intro X W N sc lv g H σ env st ks es Q at_ hm hl hr h
  cases es <;> try exact no_false hm
  cases ks <;> try cases hl
  exact ⟨rfl, h g [] H .refl at_.ok .nil⟩
theorem simK_cons {e : Ex} {es : Exs} (he : SimE e) (hs : SimK es) : SimK (.cons e es) := by
  intro X W N sc lv g H σ env st ks l Q at_ hm hl hr h
  cases l <;> try exact no_false hm
  rename_i e' r'
  cases ks <;> try cases hl
  rename_i k ks
  obtain ⟨hm, h3⟩ := cond_true hm
  obtain ⟨h1, h2⟩ := cond_true hm
  show WE X e' σ H _
  refine he e' false _ at_ h2 hr.left (Post.bindF based_v h fun x st1 g1 v H1 s1 o1 r1 h1 => ?_)
  obtain ⟨g2, s2, o2, r2⟩ := r1.frozenV s1 o1
  have q := hs ks r' (fun us H' => Q (v :: us) H') (at_.on s2 o2) h3 (Nat.succ.inj hl) hr.right (Post.bind based_v (h1 g2 H1 s2) fun vs st3 g3 us H3 s3 o3 r3 h3 => h3 g3 (v :: us) H3 .refl o3 (.cons (r2.step s3 o2) r3))
  have mono : ∀ {trs : List (TE × TE)} {H : Hp} {Q Q' : List (V × V) → Hp → Prop}, (∀ p ∈ trs, ∀ {H : Hp} {Q Q' : VK}, (∀ v H, Q v H → Q' v H) → p.1 σ H Q → p.1 σ H Q') → (∀ p ∈ trs, ∀ {H : Hp} {Q Q' : VK}, (∀ v H, Q v H → Q' v H) → p.2 σ H Q → p.2 σ H Q') →
      (∀ ps H, Q ps H → Q' ps H) → tPairs trs σ H Q → tPairs trs σ H Q' := by
    intro trs
    induction trs with
    | nil => exact fun _ _ w q => w _ _ q
    | cons p r ih =>
      intro H Q Q' m1 m2 w q
      exact m1 p List.mem_cons_self (fun x H1 q1 => m2 p List.mem_cons_self (fun y H2 q2 => ih (fun p hp => m1 p (List.mem_cons_of_mem _ hp)) (fun p hp => m2 p (List.mem_cons_of_mem _ hp)) (fun ps H3 q3 => w _ _ q3) q2) q1) q
  have hm1 : ∀ (ks : List Str) (es : List Expr) p, p ∈ trsOf X ks es → (∃ k, p.1 = tC (.str k)) ∧ ∃ e, p.2 = WE X e := by
    intro ks
    induction ks with
    | nil => intro es p hp; exact (List.not_mem_nil hp).elim
    | cons k ks ih =>
      intro es p hp
      cases es with
      | nil => exact (List.not_mem_nil hp).elim
      | cons e es =>
        rcases List.mem_cons.mp hp with q | q
        · subst q
          exact ⟨⟨k, rfl⟩, ⟨e, rfl⟩⟩
        · exact ih es p q
  refine mono (fun p hp => ?_) (fun p hp => ?_) (fun ps H q => ⟨?_, q.2⟩) q
  · obtain ⟨⟨k, e⟩, _⟩ := hm1 _ _ p hp
    rw [e]
    exact fun w q => w _ _ q
  · obtain ⟨_, ⟨e, he⟩⟩ := hm1 _ _ p hp
    rw [he]
    exact fun w q => q.mono w
  · show V.str k :: ps.map (·.1) = V.str k :: ks.map V.str
    rw [q.1]
theorem simK_star {e : Ex} {es : Exs} : SimK (.star e es) := by
  intro X W N sc lv g H σ env st ks l Q at_ hm hl hr h
  exact h.elim
theorem merge_nodup : ∀ (more kvs : List (Key × V)), ((kvs ++ more).map (·.1)).Nodup → mergeK kvs more = kvs ++ more
  | [], kvs, _ => by
    rw [List.append_nil]
    rfl
  | (k, v) :: more, kvs, h => by
    have hn : (kvs.any fun kv => decide (kv.1 = k)) = false := by
      rw [List.any_eq_false]
      intro p hp hk
      have hk : p.1 = k := of_decide_eq_true hk
      rw [List.map_append, List.nodup_append] at h
      exact h.2.2 p.1 (List.mem_map_of_mem hp) k (by simp) hk
    show mergeK (putK kvs k v) more = _
    unfold putK
    rw [hn]
    show mergeK (kvs ++ [(k, v)]) more = _
    rw [merge_nodup more (kvs ++ [(k, v)]) (by rw [List.append_assoc]; exact h), List.append_assoc]
    rfl
theorem rkv_of {K : PySem.W.Frag} {g : G} {H : Hp} : ∀ {ks : List Str} {ps : List (V × V)} {xs : List Val}, ps.map (·.1) = ks.map V.str → RVals K g H (ps.map (·.2)) xs → ks.length = xs.length →
    RKV K g H ((ks.zip (ps.map (·.2))).map fun p => ((Sum.inr p.1 : Key), p.2)) (ks.zip xs) ∧ ps = ((ks.zip (ps.map (·.2))).map fun p => ((Sum.inr p.1 : Key), p.2)).map fun kv => (kV kv.1, kv.2)
  | [], ps, xs, e, r, hl => by
    cases ps with
    | nil => exact ⟨.nil, rfl⟩
    | cons p r => cases e
  | k :: ks, ps, xs, e, r, hl => by
    cases ps with
    | nil => cases e
    | cons p ps =>
      cases xs with
      | nil => cases hl
      | cons x xs =>
        cases r with
        | cons r1 r2 =>
          obtain ⟨e1, e2⟩ := List.cons.inj e
          obtain ⟨h1, h2⟩ := rkv_of (K := K) (g := g) (H := H) e2 r2 (Nat.succ.inj hl)
          refine ⟨.cons r1 h1, ?_⟩
          show p :: ps = (V.str k, p.2) :: _
          rw [show p = (V.str k, p.2) from Prod.ext e1 rfl]
          exact congrArg _ h2
/-- a new cell -/
theorem cell_new {K : PySem.W.Frag} {g g1 : G} {H H1 : Hp} {st : Store} {a : Addr} {c : Cell} (s : Step g H g1 H1) (o : Ok K g1 H1 st) (hn : H a = none) (ha : CellIs K ⟨g1.Z, g1.rho ++ [a], g1.T⟩ H1 a c) (nz : ¬ g1.Z a) (nr : a ∉ g1.rho) :
    Step g H ⟨g1.Z, g1.rho ++ [a], g1.T⟩ H1 ∧ Ok K ⟨g1.Z, g1.rho ++ [a], g1.T⟩ H1 (st ++ [c]) := by
  obtain ⟨m, em, fm⟩ := s.r
  have lift : ∀ {v : V} {x : Val}, RVal K g1 H1 v x → RVal K ⟨g1.Z, g1.rho ++ [a], g1.T⟩ H1 v x := fun {v x} r => by
    cases x with
    | dat d => exact r
    | loc n =>
      obtain ⟨b, e, q⟩ := r
      exact ⟨b, by rw [List.getElem?_append_left (List.getElem?_eq_some_iff.mp e).1]; exact e, q⟩
  have liftK : ∀ {vs : List (Key × V)} {xs : List (Str × Val)}, RKV K g1 H1 vs xs → RKV K ⟨g1.Z, g1.rho ++ [a], g1.T⟩ H1 vs xs := by
    intro vs xs r
    induction r with
    | nil => exact .nil
    | cons r t ih => exact .cons (lift r) ih
  refine ⟨⟨s.z, s.zn, ⟨m ++ [a], by rw [em, List.append_assoc], fun b hb => ?_⟩, s.keep, s.gone, s.t⟩, ⟨fun b z hb => ?_, o.zs, by rw [List.length_append, List.length_append, o.len]; rfl, ?_, fun n b c' e1 e2 => ?_, o.tb⟩⟩
  · rcases List.mem_append.mp hb with q | q
    · exact fm b q
    · rw [List.mem_singleton.mp q]
      exact hn
  · rcases List.mem_append.mp hb with q | q
    · exact o.zr b z q
    · rw [List.mem_singleton.mp q] at z
      exact nz z
  · rw [List.nodup_append]
    refine ⟨o.nd, by simp, fun b hb c hc => ?_⟩
    rw [List.mem_singleton.mp hc]
    exact fun e => nr (e ▸ hb)
  · by_cases hn' : n < g1.rho.length
    · rw [List.getElem?_append_left hn'] at e1
      rw [List.getElem?_append_left (by rw [← o.len]; exact hn')] at e2
      have q := o.cell n b c' e1 e2
      cases c' with
      | lst xs => exact q
      | dic kvs =>
        obtain ⟨kv, e, r⟩ := q
        exact ⟨kv, e, liftK r⟩
    · rw [List.getElem?_append_right (by omega)] at e1
      rw [List.getElem?_append_right (by rw [← o.len]; omega)] at e2
      have h0 : n - g1.rho.length = 0 := by
        have := (List.getElem?_eq_some_iff.mp e1).1
        simp only [List.length_singleton] at this
        omega
      rw [h0] at e1
      rw [← o.len, h0] at e2
      cases e1
      cases e2
      exact ha
theorem RKV.lift {K : PySem.W.Frag} {g : G} {H : Hp} {a : Addr} {vs : List (Key × V)} {xs : List (Str × Val)} (r : RKV K g H vs xs) : RKV K ⟨g.Z, g.rho ++ [a], g.T⟩ H vs xs := by
  induction r with
  | nil => exact .nil
  | @cons k v vs x xs r t ih =>
    refine .cons ?_ ih
    cases x with
    | dat d => exact r
    | loc n =>
      obtain ⟨b, e, q⟩ := r
      exact ⟨b, by rw [List.getElem?_append_left (List.getElem?_eq_some_iff.mp e).1]; exact e, q⟩
theorem rout_loc {K : PySem.W.Frag} {pk fr : Bool} {g : G} {H H0 : Hp} {v : V} {n : Nat} (r : RVal K g H v (.loc n)) : ROut K pk g H H0 v ⟨fr, .loc n⟩ := by
  cases fr <;> exact r
theorem sim_toloc {a : Ex} (ha : SimE a) : SimE (.toloc a) := by
  intro X W N sc lv g H σ env st e pk Q at_ hm hr h
  refine ha e false _ at_ (cond_true hm).2 hr (Post.bindF based_e h fun x st1 g1 v H1 s1 o1 r1 hq => ?_)
  have h1 := hq g H .refl
  clear hq
  obtain ⟨fr, y⟩ := x
  cases fr <;> rcases y with d | m <;> try exact h1.elim
  cases d <;> try exact h1.elim
  rename_i xs
  obtain ⟨b, rfl, n, vs, e, rd, nz, nr⟩ := r1
  obtain ⟨s2, o2⟩ := cell_new (c := .lst xs) s1 o1 n ⟨vs, e, rd⟩ nz nr
  refine h1 _ _ H1 s2 o2 (rout_loc ⟨b, ?_, rfl⟩)
  rw [← o1.len, List.getElem?_append_right (Nat.le_refl _), Nat.sub_self]
  rfl
theorem sim_dicl {ks : List Str} {es : Exs} (hs : SimK es) : SimE (.dicl ks es) := by
  intro X W N sc lv g H σ env st e pk Q at_ hm hr h
  cases e <;> try exact no_false hm
  rename_i keys values pos
  obtain ⟨hm, h6⟩ := cond_true hm
  obtain ⟨hm, h5⟩ := cond_true hm
  obtain ⟨hm, h4⟩ := cond_true hm
  obtain ⟨hm, h3⟩ := cond_true hm
  obtain ⟨h1, h2⟩ := cond_true hm
  have h2 : ks.length = values.length := of_decide_eq_true h2
  have h3 : ks.length ≤ 15 := of_decide_eq_true h3
  have h5 : ks.Nodup := of_decide_eq_true h5
  have hk : ∀ {ks : List Str} {keys : List (Option Expr)}, mKeys ks keys = true → keys.all (·.isSome) = true ∧ keys.length = ks.length := by
    intro ks
    induction ks with
    | nil =>
      intro keys h
      cases keys <;> first | exact ⟨rfl, rfl⟩ | exact no_false h
    | cons k ks ih =>
      intro keys h
      cases keys <;> try exact no_false h
      rename_i k' r
      cases k' <;> try exact no_false h
      rename_i k'
      cases k' <;> try exact no_false h
      rename_i c j p
      cases c <;> try exact no_false h
      obtain ⟨_, h2⟩ := cond_true h
      obtain ⟨i1, i2⟩ := ih h2
      exact ⟨by rw [List.all_cons, i1] <;> rfl, by rw [List.length_cons, List.length_cons, i2]⟩
  obtain ⟨k1, k2⟩ := hk h1
  have hne : keys ≠ [] := by
    intro e
    subst e
    cases ks <;> first | exact no_false h4 | cases k2
  refine WE.of (pe_disp (pps_of h1 h2) k1 (k2.trans h2) hne (by omega)) ?_
  intro p hp
  have s0 : Step g H g (upd H p (.dK [])) := .new hp
  have o0 : Ok X.K g (upd H p (.dK [])) st := at_.ok.new hp
  have at0 := at_.on s0 o0
  have h : Post X.K X.mg (WS_ W σ) (relE X.K pk) g H ((evV es env st).bind fun vs st => bif decide (vs.length = ks.length) then .ok ⟨false, .loc st.length⟩ (st ++ [.dic (ks.zip vs)]) else .no) Q := h
  have key : ∀ {ps : List (V × V)} {H1 : Hp}, True := fun {_ _} => trivial
  have q := hs (W := W) ks values (fun us H1 => ∃ g1 st1 xs, Step g (upd H p (.dK [])) g1 H1 ∧ Ok X.K g1 H1 st1 ∧ RVals X.K g1 H1 us xs ∧ ks.length = xs.length ∧
    Post X.K X.mg (WS_ W σ) (relE X.K pk) g H (.ok ⟨false, .loc st1.length⟩ (st1 ++ [.dic (ks.zip xs)])) Q) at0 h6 h2 hr (by
      cases ev : evV es env st with
      | no =>
        rw [ev] at h
        exact h.elim
      | exc c ds st1 =>
        rw [ev] at h
        exact fun g' cls d H' s' o w => h g' cls d H' (s0.trans s') o w
      | ok xs st1 =>
        rw [ev] at h
        obtain ⟨hc, h⟩ := Post.cond (x := .ok (⟨false, .loc st1.length⟩ : RV) (st1 ++ [.dic (ks.zip xs)])) h
        exact fun g1 us H1 s1 o1 r1 => ⟨g1, st1, xs, s1, o1, r1, (of_decide_eq_true hc).symm, h⟩)
  have mono : ∀ {trs : List (TE × TE)} {H : Hp} {Q Q' : List (V × V) → Hp → Prop}, (∀ p ∈ trs, (∃ k, p.1 = tC (.str k)) ∧ ∃ e, p.2 = WE X e) → (∀ ps H, Q ps H → Q' ps H) → tPairs trs σ H Q → tPairs trs σ H Q' := by
    intro trs
    induction trs with
    | nil => exact fun _ w q => w _ _ q
    | cons p r ih =>
      intro H Q Q' m w q
      obtain ⟨⟨k, e1⟩, ⟨e, e2⟩⟩ := m p List.mem_cons_self
      obtain ⟨p1, p2⟩ := p
      simp only at e1 e2
      subst e1 e2
      have q : WE X e σ H (fun y H2 => tPairs r σ H2 fun ps H3 => Q ((V.str k, y) :: ps) H3) := q
      show WE X e σ H (fun y H2 => tPairs r σ H2 fun ps H3 => Q' ((V.str k, y) :: ps) H3)
      exact q.mono fun y H2 q2 => ih (fun p hp => m p (List.mem_cons_of_mem _ hp)) (fun ps H3 q3 => w _ _ q3) q2
  have hm1 : ∀ (ks : List Str) (es : List Expr) p, p ∈ trsOf X ks es → (∃ k, p.1 = tC (.str k)) ∧ ∃ e, p.2 = WE X e := by
    intro ks
    induction ks with
    | nil => intro es p hp; exact (List.not_mem_nil hp).elim
    | cons k ks ih =>
      intro es p hp
      cases es with
      | nil => exact (List.not_mem_nil hp).elim
      | cons e es =>
        rcases List.mem_cons.mp hp with q | q
        · subst q
          exact ⟨⟨k, rfl⟩, ⟨e, rfl⟩⟩
        · exact ih es p q
  refine mono (hm1 ks values) (fun ps H1 q => ?_) q
  obtain ⟨ep, g1, st1, xs, s1, o1, r1, hl, hq⟩ := q
  have ed : H1 p = some (.dK []) := s1.keep _ _ upd_same (at_.ok.notIn hp) ntD
  obtain ⟨f1, f2⟩ := rkv_of ep r1 hl
  have lps : ps.length = ks.length := by
    have := congrArg List.length ep
    rwa [List.length_map, List.length_map] at this
  refine ⟨ed, _, f2, by rw [List.length_map, List.length_zip, List.length_map]; omega, ?_⟩
  have hnd : ((([] : List (Key × V)) ++ (ks.zip (ps.map (·.2))).map fun p => ((Sum.inr p.1 : Key), p.2)).map (·.1)).Nodup := by
    rw [List.nil_append, List.map_map]
    have e : ((fun x : Key × V => x.1) ∘ fun p : Str × V => ((Sum.inr p.1 : Key), p.2)) = (fun x : Str => (Sum.inr x : Key)) ∘ (·.1) := rfl
    rw [e, ← List.map_map, List.map_fst_zip (by rw [List.length_map]; omega)]
    exact List.Pairwise.map _ (fun a b h e => h (Sum.inr.inj e)) h5
  rw [merge_nodup _ _ hnd, List.nil_append]
  have s01 := s0.trans s1
  have nz : ¬ g1.Z p := s1.nz (fun z => at_.ok.zs p z hp) (by rw [upd_same]; exact fun q => by cases q)
  have nr : p ∉ g1.rho := s1.nr (at_.ok.notIn hp) (by rw [upd_same]; exact fun q => by cases q)
  -- the dict is laid
  have hh : Holds g1.Z g1.Z H1 (upd H1 p (.dK ((ks.zip (ps.map (·.2))).map fun p => ((Sum.inr p.1 : Key), p.2)))) := by
    have go : ∀ b w, b ≠ p → Rd H1 b w → Rd (upd H1 p (.dK ((ks.zip (ps.map (·.2))).map fun p => ((Sum.inr p.1 : Key), p.2)))) b w := fun b w n r => by
      rcases r with r | ⟨o, r⟩
      · exact .inl (by rw [upd_ne n]; exact r)
      · exact .inr ⟨o, by rw [upd_ne n]; exact r⟩
    refine ⟨fun b xs r => go b _ (fun e => ?_) r, fun _ h => h, fun b w z _ r => go b w (fun e => nz (e ▸ z)) r⟩
    subst e
    rcases r with r | ⟨o, r⟩ <;> rw [ed] at r <;> cases r
  have o2 : Ok X.K g1 (upd H1 p (.dK ((ks.zip (ps.map (·.2))).map fun p => ((Sum.inr p.1 : Key), p.2)))) st1 := by
    refine ⟨o1.zr, fun b z e => ?_, o1.len, o1.nd, fun n b c e1 e2 => ?_, tabs_dK o1.tb ed⟩
    · by_cases hb : b = p
      · exact nz (hb ▸ z)
      · rw [upd_ne hb] at e
        exact o1.zs b z e
    · have q := o1.cell n b c e1 e2
      have nb : b ≠ p := fun e => nr (e ▸ List.mem_of_getElem? e1)
      cases c with
      | lst xs =>
        obtain ⟨vs, e, r⟩ := q
        exact ⟨vs, by rw [upd_ne nb]; exact e, RDs.holds hh r⟩
      | dic kvs =>
        obtain ⟨kv, e, r⟩ := q
        exact ⟨kv, by rw [upd_ne nb]; exact e, r.holds hh⟩
  obtain ⟨s3, o3⟩ := cell_new (c := .dic (ks.zip xs)) (s01.upd_new (u := .dK ((ks.zip (ps.map (·.2))).map fun p => ((Sum.inr p.1 : Key), p.2))) hp) o2 hp ⟨_, upd_same, (f1.holds hh).lift⟩ nz nr
  refine hq _ _ _ s3 o3 (rout_loc ⟨p, ?_, rfl⟩)
  rw [← o1.len, List.getElem?_append_right (Nat.le_refl _), Nat.sub_self]
  rfl
theorem notSuper_ok {e : Expr} {f : Str} {env : PySem.Env} (h : notSuper e = true) : attributeBase e f env (eval e env) = eval e env := by
  cases e <;> first | rfl | exact no_false h
/-- a cell is changed -/
theorem Ok.setCell {K : PySem.W.Frag} {g : G} {H : Hp} {st : Store} {n : Nat} {a : Addr} {u : HO} {c : Cell} (o : Ok K g H st) (hn : g.rho[n]? = Option.some a) (hh : Holds g.Z g.Z H (upd H a u)) (hc : CellIs K g (upd H a u) a c) : Ok K g (upd H a u) (st.set n c) := by
  refine ⟨o.zr, fun b z e => ?_, by rw [List.length_set]; exact o.len, o.nd, fun m b c' e1 e2 => ?_, (o.some (List.mem_of_getElem? hn)).elim (fun ⟨_, e⟩ => tabs_lst o.tb e) fun ⟨_, e⟩ => tabs_dK o.tb e⟩
  · by_cases hb : b = a
    · exact o.zr b z (hb ▸ List.mem_of_getElem? hn)
    · rw [upd_ne hb] at e
      exact o.zs b z e
  · by_cases hm : n = m
    · subst hm
      rw [hn] at e1
      cases e1
      rw [List.getElem?_set_self (by rw [← o.len]; exact (List.getElem?_eq_some_iff.mp hn).1)] at e2
      cases e2
      exact hc
    · rw [List.getElem?_set_ne hm] at e2
      have nb : b ≠ a := fun e => by
        subst e
        exact hm (nodup_at o.nd hn e1)
      have q := o.cell m b c' e1 e2
      cases c' with
      | lst xs =>
        obtain ⟨vs, e, r⟩ := q
        exact ⟨vs, by rw [upd_ne nb]; exact e, RDs.holds hh r⟩
      | dic kvs =>
        obtain ⟨kv, e, r⟩ := q
        exact ⟨kv, by rw [upd_ne nb]; exact e, r.holds hh⟩
where
  nodup_at {l : List Addr} {i j : Nat} {x : Addr} (nd : l.Nodup) (h1 : l[i]? = Option.some x) (h2 : l[j]? = Option.some x) : i = j := by
    obtain ⟨a1, b1⟩ := List.getElem?_eq_some_iff.mp h1
    obtain ⟨a2, b2⟩ := List.getElem?_eq_some_iff.mp h2
    exact (List.getElem_inj nd).mp (b1.trans b2.symm)
/-- .. of a cell's object -/
theorem holds_cell {K : PySem.W.Frag} {g : G} {H : Hp} {st : Store} {a : Addr} {u : HO} (o : Ok K g H st) (ha : a ∈ g.rho) : Holds g.Z g.Z H (upd H a u) := by
  have go : ∀ b w, b ≠ a → Rd H b w → Rd (upd H a u) b w := fun b w n r => by
    rcases r with r | ⟨o, r⟩
    · exact .inl (by rw [upd_ne n]; exact r)
    · exact .inr ⟨o, by rw [upd_ne n]; exact r⟩
  refine ⟨fun b xs r => go b _ (fun e => ?_) r, fun _ h => h, fun b w z _ r => go b w (fun e => o.zr b z (e ▸ ha)) r⟩
  exact o.rd r ⟨fun ⟨_, q⟩ => (by cases q), fun ⟨_, q⟩ => (by cases q)⟩ (e ▸ ha)
theorem Step.cell {g g1 : G} {H H1 : Hp} {a : Addr} {u : HO} (s : Step g H g1 H1) (ha : a ∈ g1.rho) : Step g H g1 (upd H1 a u) := by
  obtain ⟨m, em, fm⟩ := s.r
  refine ⟨s.z, s.zn, ⟨m, em, fm⟩, fun b o e n nt => ?_, fun b e => ?_, s.t⟩
  · by_cases hb : b = a
    · subst hb
      rw [em] at ha
      rcases List.mem_append.mp ha with q | q
      · exact (n q).elim
      · rw [fm b q] at e
        cases e
    · rw [upd_ne hb]
      exact s.keep b o e n nt
  · by_cases hb : b = a
    · subst hb
      rw [upd_same] at e
      cases e
    · rw [upd_ne hb] at e
      exact s.gone b e
theorem RDs.last {K : PySem.W.Frag} {Z : Addr → Prop} {H : Hp} {vs : List V} {ds : List D} {d : D} (r : RDs K Z H vs ds) (h : ds.getLast? = some d) : ∃ v, vs[vs.length - 1]? = some v ∧ RD K Z H v d := by
  rw [List.getLast?_eq_getElem?] at h
  rw [r.length]
  exact r.get h
theorem RDs.dropLast {K : PySem.W.Frag} {Z : Addr → Prop} {H : Hp} {vs : List V} {ds : List D} (r : RDs K Z H vs ds) : RDs K Z H vs.dropLast ds.dropLast := by
  rw [List.dropLast_eq_take, List.dropLast_eq_take, r.length]
  exact r.take _
theorem sim_popl {a : Ex} (ha : SimE a) : SimE (.popl a) := by
  intro X W N sc lv g H σ env st e pk Q at_ hm hr h
  cases e <;> try exact no_false hm
  rename_i f args kws pos
  cases f <;> try exact no_false hm
  rename_i a' x ap
  cases args <;> cases kws <;> try exact no_false hm
  obtain ⟨hm, h4⟩ := cond_true hm
  obtain ⟨hm, h3⟩ := cond_true hm
  obtain ⟨h1, h2⟩ := cond_true hm
  have h1 : x = "pop" := of_decide_eq_true h1
  subst h1
  have h2 : ap.endLine = pos.line := of_decide_eq_true h2
  refine WE.of (pe_bm0 PySem.F.plainAttrs_list PySem.F.slot_list_pop PySem.F.type_list_pop mt_pop pe_we (notSuper_ok h3) (by rw [h2]; exact beq_self_eq_true _)) (ha a' false _ at_ h4 hr (Post.bindF based_e h fun x st1 g1 v H1 s1 o1 r1 hq => ?_))
  have h1 := hq g H .refl
  clear hq
  obtain ⟨fr, y⟩ := x
  cases y with
  | dat d => exact h1.elim
  | loc n =>
    have rv : RVal X.K g1 H1 v (.loc n) := by cases fr <;> exact r1
    obtain ⟨p, hp1, rfl⟩ := rv
    have h1 : Post X.K X.mg (WS_ W σ) (relE X.K pk) g H (match st1[n]? with
      | some (.lst xs) => (match xs.getLast? with
        | some d => .ok (plain d) (st1.set n (.lst xs.dropLast))
        | none => .no)
      | _ => .no) Q := h1
    cases hn : st1[n]? with
    | none =>
      rw [hn] at h1
      exact h1.elim
    | some c =>
      rw [hn] at h1
      cases c with
      | dic kvs => exact h1.elim
      | lst xs =>
        obtain ⟨vs, ev, rd⟩ := o1.cell n p _ hp1 hn
        have h1 : Post X.K X.mg (WS_ W σ) (relE X.K pk) g H (match xs.getLast? with
          | some d => .ok (plain d) (st1.set n (.lst xs.dropLast))
          | none => .no) Q := h1
        cases hl : xs.getLast? with
        | none =>
          rw [hl] at h1
          exact h1.elim
        | some d =>
          rw [hl] at h1
          obtain ⟨w, hw, rw1⟩ := rd.last hl
          have hmem := List.mem_of_getElem? hp1
          have hh := holds_cell (u := .lst vs.dropLast) o1 hmem
          refine ⟨.inl ⟨rfl, vs, .inl (.inl ev)⟩, p, vs, w, rfl, rfl, ev, hw, h1 g1 w _ (s1.cell hmem) (o1.setCell hp1 hh ⟨_, upd_same, (RDs.holds hh rd).dropLast⟩) ?_⟩
          have q := RD.holds hh rw1
          cases pk with
          | true => exact .inl q
          | false => exact q
theorem RDs.eraseIdx {K : PySem.W.Frag} {Z : Addr → Prop} {H : Hp} : ∀ {vs : List V} {ds : List D} (r : RDs K Z H vs ds) (k : Nat), RDs K Z H (vs.eraseIdx k) (ds.eraseIdx k)
  | [], _, r, k => by
    cases r
    exact .nil
  | v :: vs, _, r, 0 => by
    cases r
    assumption
  | v :: vs, _, r, k + 1 => by
    cases r with
    | cons h q => exact .cons h (RDs.eraseIdx q k)
theorem rds_rg {K : PySem.W.Frag} {Z : Addr → Prop} {H : Hp} (i j : Int) : RDs K Z H (rgV i j) (rangeUp i j) := by
  unfold rgV rangeUp
  have go : ∀ l : List Nat, RDs K Z H (l.map fun k => V.int (i + (k : Nat))) (l.map fun (k : Nat) => PyData.int (i + k)) := by
    intro l
    induction l with
    | nil => exact .nil
    | cons a l ih => exact .cons (.int _) ih
  exact go _
theorem sim_lrng1 {a : Ex} (ha : SimE a) : SimE (.lrng1 a) := by
  intro X W N sc lv g H σ env st e pk Q at_ hm hr h
  cases e <;> try exact no_false hm
  rename_i f args kws pos
  cases f <;> try exact no_false hm
  rename_i x xp
  rcases args with _ | ⟨e2, _ | ⟨_, _⟩⟩ <;> cases kws <;> try exact no_false hm
  cases e2 <;> try exact no_false hm
  rename_i f2 args2 kws2 pos2
  cases f2 <;> try exact no_false hm
  rename_i y yp
  rcases args2 with _ | ⟨a', _ | ⟨_, _⟩⟩ <;> cases kws2 <;> try exact no_false hm
  obtain ⟨hm, h6⟩ := cond_true hm
  obtain ⟨hm, h5⟩ := cond_true hm
  obtain ⟨hm, h4⟩ := cond_true hm
  obtain ⟨hm, h3⟩ := cond_true hm
  obtain ⟨h1, h2⟩ := cond_true hm
  have h1 : x = "list" := of_decide_eq_true h1
  subst h1
  have h3 : y = "range" := of_decide_eq_true h3
  subst h3
  have z1 : X.mg "list" = none := hr.head
  have z2 : X.mg "range" = none := hr.tail.head
  refine WE.of (pe_listRg at_.c.calm (at_.c.gl h2) z1 (prg_1 (at_.c.gl h4) z2 pe_we (starEach_cons h5))) (ha a' true _ at_ h6 hr.tail.tail (Post.bind based_e h fun x st1 g1 v H1 s1 o1 r1 h1 => ?_))
  obtain ⟨i, ei, h1⟩ := h1.int
  have e1 := (r1.rt ei).int
  subst e1
  obtain ⟨hb, h1⟩ := h1.cond
  simp only [rgB, rngOk, Bool.and_eq_true, decide_eq_true_eq] at hb
  have h1 : Fin X.K pk g1 H1 st1 (fresh (.list (rangeUp 0 i))) Q := h1
  exact ⟨i, rfl, ⟨hb.1.1.1, hb.1.1.2, hb.1.2.1, hb.1.2.2, hb.2⟩, fun p n => h1.lst o1 (rds_rg 0 i) n⟩
theorem sim_lrng2 {a b : Ex} (ha : SimE a) (hb : SimE b) : SimE (.lrng2 a b) := by
  intro X W N sc lv g H σ env st e pk Q at_ hm hr h
  cases e <;> try exact no_false hm
  rename_i f args kws pos
  cases f <;> try exact no_false hm
  rename_i x xp
  rcases args with _ | ⟨e2, _ | ⟨_, _⟩⟩ <;> cases kws <;> try exact no_false hm
  cases e2 <;> try exact no_false hm
  rename_i f2 args2 kws2 pos2
  cases f2 <;> try exact no_false hm
  rename_i y yp
  rcases args2 with _ | ⟨a', _ | ⟨b', _ | ⟨_, _⟩⟩⟩ <;> cases kws2 <;> try exact no_false hm
  obtain ⟨hm, h8⟩ := cond_true hm
  obtain ⟨hm, h7⟩ := cond_true hm
  obtain ⟨hm, h6⟩ := cond_true hm
  obtain ⟨hm, h5⟩ := cond_true hm
  obtain ⟨hm, h4⟩ := cond_true hm
  obtain ⟨hm, h3⟩ := cond_true hm
  obtain ⟨h1, h2⟩ := cond_true hm
  have h1 : x = "list" := of_decide_eq_true h1
  subst h1
  have h3 : y = "range" := of_decide_eq_true h3
  subst h3
  have z1 : X.mg "list" = none := hr.head
  have z2 : X.mg "range" = none := hr.tail.head
  refine WE.of (pe_listRg at_.c.calm (at_.c.gl h2) z1 (prg_2 (at_.c.gl h4) z2 pe_we pe_we (starEach_cons h5) (starEach_cons h7) (by rw [starEach_cons h7]; rfl))) (ha a' true _ at_ h6 hr.tail.tail.left (Post.bind based_e h fun x st1 g1 v H1 s1 o1 r1 h1 => ?_))
  obtain ⟨i, ei, h1⟩ := h1.int
  have e1 := (r1.rt ei).int
  subst e1
  refine hb b' true _ (at_.on s1 o1) h8 hr.tail.tail.right (Post.bind based_e h1 fun y st2 g2 v2 H2 s2 o2 r2 h2 => ?_)
  obtain ⟨j, ej, h2⟩ := h2.int
  have e2 := (r2.rt ej).int
  subst e2
  obtain ⟨hb, h2⟩ := h2.cond
  simp only [rgB, rngOk, Bool.and_eq_true, decide_eq_true_eq] at hb
  have h2 : Fin X.K pk g2 H2 st2 (fresh (.list (rangeUp i j))) Q := h2
  exact ⟨i, j, rfl, rfl, ⟨hb.1.1.1, hb.1.1.2, hb.1.2.1, hb.1.2.2, hb.2⟩, fun p n => h2.lst o2 (rds_rg i j) n⟩
theorem sim_cntL {a k : Ex} (ha : SimE a) (hk : SimE k) : SimE (.cntL a k) := by
  intro X W N sc lv g H σ env st e pk Q at_ hm hr h
  cases e <;> try exact no_false hm
  rename_i f args kws pos
  cases f <;> try exact no_false hm
  rename_i a' x ap
  rcases args with _ | ⟨k', _ | ⟨_, _⟩⟩ <;> cases kws <;> try exact no_false hm
  obtain ⟨hm, h6⟩ := cond_true hm
  obtain ⟨hm, h5⟩ := cond_true hm
  obtain ⟨hm, h4⟩ := cond_true hm
  obtain ⟨hm, h3⟩ := cond_true hm
  obtain ⟨h1, h2⟩ := cond_true hm
  have h1 : x = "count" := of_decide_eq_true h1
  subst h1
  have h2 : ap.endLine = pos.line := of_decide_eq_true h2
  refine WE.of (pe_bm PySem.F.plainAttrs_list PySem.F.slot_list_count PySem.F.type_list_count mt_lcount pe_we (pa_cons pe_we pa_nil (starEach_cons h4)) (notSuper_ok h3) (by rw [starEach_cons h4]; rfl) (by rw [h2]; exact beq_self_eq_true _) (starEach_cons h4) (by rfl)) (ha a' true _ at_ h5 hr.left (Post.bind based_e h fun x st1 g1 v H1 s1 o1 r1 h1 => ?_))
  obtain ⟨d, ed, h1⟩ := h1.dat
  obtain ⟨xs, exs, h1⟩ := h1.opt
  have rt := r1.rt ed
  obtain ⟨ds, rfl⟩ : ∃ ds, d = .list ds := by cases d <;> simp only [listOf] at exs <;> first | exact ⟨_, rfl⟩ | cases exs
  have exs : xs = ds := by simp only [listOf] at exs; exact (Option.some.inj exs).symm
  subst exs
  obtain ⟨p, vs, rfl, sq, rd⟩ := rt.list
  refine ⟨.inl ⟨rfl, vs, sq⟩, ?_⟩
  refine hk k' true _ (at_.on s1 o1) h6 hr.right (Post.bind based_e h1 fun y st2 g2 v2 H2 s2 o2 r2 h2 => ?_)
  obtain ⟨i, ei, h2⟩ := h2.int
  have e2 := (r2.rt ei).int
  subst e2
  cases hb : intsOf xs with
  | none =>
    rw [hb] at h2
    exact h2.elim
  | some is =>
    rw [hb] at h2
    have h2 : Fin X.K pk g2 H2 st2 (MP.plain (.int (is.count i : Nat))) Q := h2
    obtain ⟨p', vs', e3, sq2, rd2⟩ := (rt.step s2 o1).list
    cases e3
    have := rd2.ints hb
    subst this
    exact ⟨p, is, i, rfl, rfl, sq2, h2.plain o2 (.int _)⟩
theorem sim_popi {a k : Ex} (ha : SimE a) (hk : SimE k) : SimE (.popi a k) := by
  intro X W N sc lv g H σ env st e pk Q at_ hm hr h
  cases e <;> try exact no_false hm
  rename_i f args kws pos
  cases f <;> try exact no_false hm
  rename_i a' x ap
  rcases args with _ | ⟨k', _ | ⟨_, _⟩⟩ <;> cases kws <;> try exact no_false hm
  obtain ⟨hm, h6⟩ := cond_true hm
  obtain ⟨hm, h5⟩ := cond_true hm
  obtain ⟨hm, h4⟩ := cond_true hm
  obtain ⟨hm, h3⟩ := cond_true hm
  obtain ⟨h1, h2⟩ := cond_true hm
  have h1 : x = "pop" := of_decide_eq_true h1
  subst h1
  have h2 : ap.endLine = pos.line := of_decide_eq_true h2
  refine WE.of (pe_bm PySem.F.plainAttrs_list PySem.F.slot_list_pop PySem.F.type_list_pop mt_popAt pe_we (pa_cons pe_we pa_nil (starEach_cons h4)) (notSuper_ok h3) (by rw [starEach_cons h4]; rfl) (by rw [h2]; exact beq_self_eq_true _) (starEach_cons h4) (by rfl)) (ha a' false _ at_ h5 hr.left (Post.bind based_e h fun x st1 g1 v H1 s1 o1 r1 h1 => ?_))
  obtain ⟨fr, y⟩ := x
  cases y with
  | dat d => exact h1.elim
  | loc n =>
    have rv : RVal X.K g1 H1 v (.loc n) := by cases fr <;> exact r1
    obtain ⟨p, hp1, rfl⟩ := rv
    cases hn : st1[n]? with
    | none =>
      have h1 : Post X.K X.mg (WS_ W σ) (relE X.K pk) g1 H1 (match st1[n]? with
        | some (.lst _) => _
        | _ => .no) Q := h1
      rw [hn] at h1
      exact h1.elim
    | some c =>
      have h1 : Post X.K X.mg (WS_ W σ) (relE X.K pk) g1 H1 (match st1[n]? with
        | some (.lst _) => _
        | _ => .no) Q := h1
      rw [hn] at h1
      cases c with
      | dic kvs => exact h1.elim
      | lst xs0 =>
        obtain ⟨vs0, ev0, rd0⟩ := o1.cell n p _ hp1 hn
        refine ⟨.inl ⟨rfl, vs0, .inl (.inl ev0)⟩, ?_⟩
        refine hk k' true _ (at_.on s1 o1) h6 hr.right (Post.bind based_e h1 fun y st2 g2 v2 H2 s2 o2 r2 h2 => ?_)
        obtain ⟨i, ei, h2⟩ := h2.int
        have e2 := (r2.rt ei).int
        subst e2
        obtain ⟨more, em, _⟩ := s2.r
        have hp2 : g2.rho[n]? = some p := by
          rw [em]
          rw [List.getElem?_append_left (List.getElem?_eq_some_iff.mp hp1).1]
          exact hp1
        cases hn2 : st2[n]? with
        | none =>
          rw [hn2] at h2
          exact h2.elim
        | some c2 =>
          rw [hn2] at h2
          cases c2 with
          | dic kvs => exact h2.elim
          | lst xs =>
            obtain ⟨hb, h2⟩ := h2.cond
            have hb : xs.length < 2 ^ 60 := of_decide_eq_true hb
            obtain ⟨vs, ev, rd⟩ := o2.cell n p _ hp2 hn2
            cases hj : L2.ixN xs.length i with
            | none =>
              rw [hj] at h2
              exact h2.elim
            | some j =>
              rw [hj] at h2
              cases hd : xs[j]? with
              | none =>
                have h2 : Post X.K X.mg (WS_ W σ) (relE X.K pk) g2 H2 (match xs[j]? with
                  | some d => .ok (plain d) (st2.set n (.lst (xs.eraseIdx j)))
                  | none => .no) Q := h2
                rw [hd] at h2
                exact h2.elim
              | some d =>
                have h2 : Post X.K X.mg (WS_ W σ) (relE X.K pk) g2 H2 (match xs[j]? with
                  | some d => .ok (plain d) (st2.set n (.lst (xs.eraseIdx j)))
                  | none => .no) Q := h2
                rw [hd] at h2
                obtain ⟨w, hw, rw1⟩ := rd.get hd
                have hlen := rd.length
                obtain ⟨q1, q2, q3, q4⟩ := L2.ixN_seq hj
                have hmem := List.mem_of_getElem? hp2
                have hh := holds_cell (u := .lst (vs.eraseIdx j)) o2 hmem
                refine ⟨p, vs, i, j, w, rfl, rfl, ev, by omega, by omega, by rw [hlen]; exact q1, hw, ?_⟩
                refine h2 g2 w _ (Step.refl.cell hmem) (o2.setCell hp2 hh ⟨_, upd_same, (RDs.holds hh rd).eraseIdx j⟩) ?_
                have q := RD.holds hh rw1
                cases pk with
                | true => exact .inl q
                | false => exact q
theorem dic2_shape {a x b y : Int} {o : Expr} (h : dic2 a x b y o = true) : ∃ j1 p1 j2 p2 j3 p3 j4 p4 pd, o = .Dict [some (.Constant (.int a) j1 p1), some (.Constant (.int b) j2 p2)] [.Constant (.int x) j3 p3, .Constant (.int y) j4 p4] pd := by
  unfold dic2 at h
  split at h
  · simp only [Bool.and_eq_true, decide_eq_true_eq] at h
    obtain ⟨⟨⟨rfl, rfl⟩, rfl⟩, rfl⟩ := h
    exact ⟨_, _, _, _, _, _, _, _, _, rfl⟩
  · cases h
theorem cstI_shape {d : Int} {e : Expr} (h : cstI d e = true) : ∃ j p, e = .Constant (.int d) j p := by
  unfold cstI at h
  split at h
  · cases of_decide_eq_true h
    exact ⟨_, _, rfl⟩
  · cases h
theorem sim_get2 {a x b y d : Int} {k : Ex} (hk : SimE k) : SimE (.get2 a x b y d k) := by
  intro X W N sc lv g H σ env st e pk Q at_ hm hr h
  cases e <;> try exact no_false hm
  rename_i f args kws pos
  cases f <;> try exact no_false hm
  rename_i o m ap
  rcases args with _ | ⟨k', _ | ⟨e', _ | ⟨_, _⟩⟩⟩ <;> cases kws <;> try exact no_false hm
  obtain ⟨hm, h7⟩ := cond_true hm
  obtain ⟨hm, h6⟩ := cond_true hm
  obtain ⟨hm, h5⟩ := cond_true hm
  obtain ⟨hm, h4⟩ := cond_true hm
  obtain ⟨hm, h3⟩ := cond_true hm
  obtain ⟨h1, h2⟩ := cond_true hm
  have h1 : m = "get" := of_decide_eq_true h1
  subst h1
  have h2 : ap.endLine = pos.line := of_decide_eq_true h2
  have h4 : a ≠ b := of_decide_eq_true h4
  obtain ⟨j1, p1, j2, p2, j3, p3, j4, p4, pd, rfl⟩ := dic2_shape h3
  obtain ⟨j5, p5, rfl⟩ := cstI_shape h6
  have hu : X.A.units + 1 < cLine := by
    have := room_u at_.c.room
    omega
  refine WE.of (pe_dget2 hu (pe_disp (pps_cons pe_int pe_int (pps_cons pe_int pe_int pps_nil)) rfl rfl (by simp) (by simp)) pe_we pe_int ⟨rfl, by rw [starEach_cons h5]; rfl, by rw [h2]; exact beq_self_eq_true _, by rw [starEach_cons h5]; rfl⟩) ?_
  intro p hp
  have hnd : ((([] : List (Key × V)) ++ [((Sum.inl a : Key), V.int x), (Sum.inl b, V.int y)]).map (·.1)).Nodup := by
    simp [h4]
  refine ⟨upd_same, [(Sum.inl a, .int x), (Sum.inl b, .int y)], rfl, by simp, ?_⟩
  rw [merge_nodup _ _ hnd, List.nil_append, upd_upd]
  have s0 : Step g H g (upd H p (.dK [((Sum.inl a : Key), V.int x), (Sum.inl b, V.int y)])) := .new hp
  have o0 : Ok X.K g (upd H p (.dK [((Sum.inl a : Key), V.int x), (Sum.inl b, V.int y)])) st := at_.ok.new hp
  refine ⟨p, rfl, .inl ⟨_, .inl upd_same⟩, ?_⟩
  refine hk k' true _ (at_.on s0 o0) h7 hr ?_
  have h : Post X.K X.mg (WS_ W σ) (relE X.K pk) g H ((evE k true env st).bind fun z st => (intOf z st).bind fun i st => .ok (plain (.int (bif decide (a = i) then x else bif decide (b = i) then y else d))) st) Q := h
  cases ev : evE k true env st with
  | no =>
    rw [ev] at h
    exact h.elim
  | exc c ds st1 =>
    rw [ev] at h
    exact fun g' cls d H' s' o w => h g' cls d H' (s0.trans s') o w
  | ok z st1 =>
    rw [ev] at h
    have h : Post X.K X.mg (WS_ W σ) (relE X.K pk) g H ((intOf z st1).bind fun i st => .ok (plain (.int (bif decide (a = i) then x else bif decide (b = i) then y else d))) st) Q := h
    obtain ⟨i, ei, h⟩ := h.int
    intro g1 v H2 s1 o1 r1
    have e2 := (r1.rt ei).int
    subst e2
    have ed : H2 p = some (.dK [((Sum.inl a : Key), V.int x), (Sum.inl b, V.int y)]) := s1.keep _ _ upd_same (at_.ok.notIn hp) ntD
    refine ⟨_, DGet.k (k := Sum.inl i) ed, ?_⟩
    have q := h g1 (.int (bif decide (a = i) then x else bif decide (b = i) then y else d)) H2 (s0.trans s1) o1 (by
      cases pk with
      | true => exact .inl (.int _)
      | false => exact .int _)
    have ev2 : (valV [((Sum.inl a : Key), V.int x), (Sum.inl b, V.int y)] (Sum.inl i)).getD (.int d) = .int (bif decide (a = i) then x else bif decide (b = i) then y else d) := by
      unfold valV
      by_cases q1 : a = i
      · simp [q1]
      · by_cases q2 : b = i
        · simp [q1, q2]
        · simp [q1, q2]
    rw [ev2]
    exact q
/-! ### dicts by whole numbers -/
theorem RKs.get {K : PySem.W.Frag} {Z : Addr → Prop} {H : Hp} {n : Int} : ∀ {kv : List (Key × V)} {ds : List (MP.D × MP.D)}, RKs K Z H kv ds → (dGetI ds n = none → valV kv (.inl n) = none) ∧ ∀ d, dGetI ds n = some d → ∃ v, valV kv (.inl n) = some v ∧ RD K Z H v d
  | _, _, .nil => ⟨fun _ => rfl, fun d h => by cases h⟩
  | _, _, .cons (k := k) (v := v) r t => by
    obtain ⟨t1, t2⟩ := t.get (n := n)
    cases k with
    | inl j =>
      by_cases e : j = n
      · subst e
        have e1 : ∀ (d : MP.D) (ds : List (MP.D × MP.D)), dGetI ((keyD (.inl j), d) :: ds) j = some d := fun d ds => by
          show (bif decide (j = j) then some d else dGetI ds j) = some d
          simp
        exact ⟨fun h => (by rw [e1] at h; cases h), fun d h => ⟨v, valV_pos rfl, (by rw [e1] at h; cases h; exact r)⟩⟩
      · have e1 : ∀ (d : MP.D) (ds : List (MP.D × MP.D)), dGetI ((keyD (.inl j), d) :: ds) n = dGetI ds n := fun d ds => by
          show (bif decide (j = n) then some d else dGetI ds n) = dGetI ds n
          simp [e]
        have e2 : ¬ ((Sum.inl j : Key), v).1 = .inl n := fun h => e (Sum.inl.inj h)
        rw [e1, valV_neg e2]
        exact ⟨t1, t2⟩
    | inr x =>
      have e1 : ∀ (d : MP.D) (ds : List (MP.D × MP.D)), dGetI ((keyD (.inr x), d) :: ds) n = dGetI ds n := fun d ds => rfl
      have e2 : ¬ ((Sum.inr x : Key), v).1 = .inl n := fun h => by cases h
      rw [e1, valV_neg e2]
      exact ⟨t1, t2⟩
theorem RKs.any {K : PySem.W.Frag} {Z : Addr → Prop} {H : Hp} {n : Int} {kv : List (Key × V)} {ds : List (MP.D × MP.D)} (r : RKs K Z H kv ds) : (valV kv (.inl n)).isSome = (dGetI ds n).isSome := by
  obtain ⟨h1, h2⟩ := r.get (n := n)
  cases e : dGetI ds n with
  | none => rw [h1 e]; rfl
  | some d =>
    obtain ⟨v, e2, _⟩ := h2 d e
    rw [e2]
    rfl
theorem RKs.length {K : PySem.W.Frag} {Z : Addr → Prop} {H : Hp} : ∀ {kv : List (Key × V)} {ds : List (MP.D × MP.D)}, RKs K Z H kv ds → kv.length = ds.length
  | _, _, .nil => rfl
  | _, _, .cons _ t => congrArg Nat.succ t.length
theorem RKs.append {K : PySem.W.Frag} {Z : Addr → Prop} {H : Hp} : ∀ {kv kw : List (Key × V)} {ds es : List (MP.D × MP.D)}, RKs K Z H kv ds → RKs K Z H kw es → RKs K Z H (kv ++ kw) (ds ++ es)
  | _, _, _, _, .nil, q => q
  | _, _, _, _, .cons r t, q => .cons r (t.append q)
theorem RKs.map {K : PySem.W.Frag} {Z : Addr → Prop} {H : Hp} {n : Int} {w : V} {e : MP.D} (q : RD K Z H w e) : ∀ {kv : List (Key × V)} {ds : List (MP.D × MP.D)}, RKs K Z H kv ds →
    RKs K Z H (kv.map fun kv => if kv.1 = .inl n then (kv.1, w) else kv) (ds.map fun p => bif isKeyI n p.1 then (p.1, e) else p)
  | _, _, .nil => .nil
  | _, _, .cons (k := k) (v := v) (d := d) r t => by
    have ih := RKs.map (n := n) q t
    cases k with
    | inl j =>
      by_cases h : j = n
      · subst h
        have e1 : isKeyI j (keyD (.inl j)) = true := by
          show decide (j = j) = true
          simp
        simp only [List.map_cons, e1, cond_true, if_true]
        exact .cons q ih
      · have e1 : isKeyI n (keyD (.inl j)) = false := by
          show decide (j = n) = false
          simp [h]
        have e2 : ¬ (Sum.inl j : Key) = .inl n := fun z => h (Sum.inl.inj z)
        simp only [List.map_cons, e1, cond_false, if_neg e2]
        exact .cons r ih
    | inr x =>
      have e1 : isKeyI n (keyD (.inr x)) = false := rfl
      have e2 : ¬ (Sum.inr x : Key) = .inl n := fun z => by cases z
      simp only [List.map_cons, e1, cond_false, if_neg e2]
      exact .cons r ih
theorem RKs.put {K : PySem.W.Frag} {Z : Addr → Prop} {H : Hp} {n : Int} {w : V} {e : MP.D} (q : RD K Z H w e) {kv : List (Key × V)} {ds : List (MP.D × MP.D)} (r : RKs K Z H kv ds) : RKs K Z H (putK kv (.inl n) w) (dPutI ds n e) := by
  unfold putK dPutI
  rw [valV_any, r.any]
  cases h : (dGetI ds n).isSome with
  | true =>
    rw [if_pos rfl]
    exact r.map q
  | false =>
    rw [if_neg Bool.false_ne_true]
    exact r.append (.cons (k := .inl n) q .nil)
theorem RKs.keys {K : PySem.W.Frag} {Z : Addr → Prop} {H : Hp} : ∀ {kv : List (Key × V)} {ds : List (MP.D × MP.D)} {ks : List Int}, RKs K Z H kv ds → dKeysI ds = some ks → kv.map (·.1) = ks.map Sum.inl
  | _, _, _, .nil, h => by
    cases h
    rfl
  | _, _, ks, .cons (k := k) (v := v) (ds := ds) r t, h => by
    cases k with
    | inl j =>
      have h : (dKeysI ds).map (j :: ·) = some ks := h
      cases e : dKeysI ds with
      | none =>
        rw [e] at h
        cases h
      | some ks' =>
        rw [e] at h
        cases h
        simp only [List.map_cons]
        rw [t.keys e]
    | inr x => cases h
theorem at_slot {X : Cx} {W : WX} {N : List Str} {sc : Scope} {lv : Nat} {g : G} {H : Hp} {σ : L2.St} {env : Env} {st : Store} {i : Nat} {xs : List (MP.D × MP.D)} (at_ : At X W N sc lv g H σ env st) (hs : env[i]? = some (.own (.dict xs))) :
    ∃ a vs, σ[i]? = some (some (.ref a)) ∧ H a = some (.dK vs) ∧ RKs X.K g.Z H vs xs ∧ ¬ g.Z a ∧ a ∉ g.rho := by
  obtain ⟨x, ex, so⟩ := at_.en.slot hs
  obtain ⟨a, rfl, vs, e, r, z, n⟩ := so
  exact ⟨a, vs, ex, e, r, z, n⟩
theorem sim_dicn : SimE .dicn := by
  intro X W N sc lv g H σ env st e pk Q a hm hr h
  cases e <;> try exact no_false hm
  rename_i keys values pos
  obtain ⟨h1, h2⟩ := cond_true hm
  cases keys with
  | cons _ _ => cases h1
  | nil =>
    cases values with
    | cons _ _ => cases h2
    | nil =>
      refine WE.of pe_dnewK fun p n => h g (.ref p) _ (.new n) (a.ok.new n) ⟨p, rfl, n, [], upd_same, .nil, fun z => a.ok.zs p z n, a.ok.notIn n⟩
theorem dhas_sh {neg : Bool} {k : Ex} {i : Nat} {N : List Str} {sc : Scope} {e : Expr} (hm : mE N (.dhas neg k i) sc e = true) : ∃ k' x px pos, e = .Compare k' [bif neg then .NotIn else .In] [.Name x px] pos ∧ mE N k sc k' = true ∧ N[i]? = some x ∧ isVis sc x = true ∧ okName x = true := by
  cases e <;> try exact no_false hm
  rename_i k' os bs pos
  rcases os with _ | ⟨o', _ | ⟨_, _⟩⟩ <;> try exact no_false hm
  rcases bs with _ | ⟨b', br⟩ <;> try exact no_false hm
  cases b' <;> try exact no_false hm
  cases br <;> try exact no_false hm
  rename_i x px
  obtain ⟨hm, h5⟩ := cond_true hm
  obtain ⟨hm, h4⟩ := cond_true hm
  obtain ⟨hm, h3⟩ := cond_true hm
  obtain ⟨h1, h2⟩ := cond_true hm
  have h1 : o' = bif neg then .NotIn else .In := of_decide_eq_true h1
  subst h1
  exact ⟨k', x, px, pos, rfl, h2, of_decide_eq_true h3, h4, h5⟩
theorem dhas_ev {neg : Bool} {k : Ex} {i : Nat} {env : Env} {st : Store} {pk : Bool} : evE (.dhas neg k i) pk env st = (evE k true env st).bind fun z st => (intOf z st).bind fun n st => (match env[i]? with
    | some (.own (.dict kvs)) => .ok (plain (.bool (bif neg then !(dGetI kvs n).isSome else (dGetI kvs n).isSome))) st
    | _ => .no) := rfl
theorem sim_dhas {neg : Bool} {k : Ex} {i : Nat} (hk : SimE k) : SimE (.dhas neg k i) := by
  intro X W N sc lv g H σ env st e pk Q at_ hm hr h
  obtain ⟨k', x, px, pos, rfl, h2, h3, h4, h5⟩ := dhas_sh hm
  have hd := okName_debug h5
  have hu : X.A.units + 1 < cLine := by
    have := room_u at_.c.room
    omega
  rw [dhas_ev] at h
  have pv := pe_var (pos := px) (by rw [at_.c.eN]; exact h3) (at_.c.vis h4) hd.1 hd.2.1
  cases neg with
  | true =>
    refine WE.of (pe_cmp (pc_dnotin hu pe_we pv) (by rfl)) (hk k' true _ at_ h2 hr (h.bind based_e fun z st1 g1 v H1 s1 o1 r1 h1 => ?_))
    obtain ⟨n, en, h1⟩ := h1.int
    have ew := (r1.rt en).int
    subst ew
    cases hs : env[i]? with
    | none => rw [hs] at h1; exact h1.elim
    | some sl =>
      rw [hs] at h1
      cases sl <;> try exact h1.elim
      rename_i dd
      cases dd <;> try exact h1.elim
      rename_i kvs
      obtain ⟨a, vs, ex, ea, rd, _, _⟩ := at_slot (at_.on s1 o1) hs
      refine ⟨.ref a, ex, a, _, rfl, DGet.k (k := .inl n) ea, ?_⟩
      rw [rd.any]
      have h1 : Fin X.K pk g1 H1 st1 (plain (.bool (!(dGetI kvs n).isSome))) Q := h1
      exact h1.plain o1 (.bool _)
  | false =>
    refine WE.of (pe_cmp (pc_din hu pe_we pv) (by rfl)) (hk k' true _ at_ h2 hr (h.bind based_e fun z st1 g1 v H1 s1 o1 r1 h1 => ?_))
    obtain ⟨n, en, h1⟩ := h1.int
    have ew := (r1.rt en).int
    subst ew
    cases hs : env[i]? with
    | none => rw [hs] at h1; exact h1.elim
    | some sl =>
      rw [hs] at h1
      cases sl <;> try exact h1.elim
      rename_i dd
      cases dd <;> try exact h1.elim
      rename_i kvs
      obtain ⟨a, vs, ex, ea, rd, _, _⟩ := at_slot (at_.on s1 o1) hs
      refine ⟨.ref a, ex, a, _, rfl, DGet.k (k := .inl n) ea, ?_⟩
      rw [rd.any]
      have h1 : Fin X.K pk g1 H1 st1 (plain (.bool ((dGetI kvs n).isSome))) Q := h1
      exact h1.plain o1 (.bool _)
theorem dhas_evT {neg : Bool} {k : Ex} {i : Nat} {env : Env} {st : Store} : ((evE (.dhas neg k i) true env st).bind fun x st => boolOf x st) = (evE k true env st).bind fun z st => (intOf z st).bind fun n st => (match env[i]? with
    | some (.own (.dict kvs)) => .ok (bif neg then !(dGetI kvs n).isSome else (dGetI kvs n).isSome) st
    | _ => .no) := by
  rw [dhas_ev]
  cases evE k true env st <;> try rfl
  rename_i z s1
  show ((intOf z s1).bind _).bind _ = (intOf z s1).bind _
  cases intOf z s1 <;> try rfl
  rename_i n s1
  show R.bind (match env[i]? with | some (.own (.dict kvs)) => _ | _ => _) _ = _
  cases env[i]? <;> try rfl
  rename_i sl
  cases sl <;> try rfl
  rename_i d
  cases d <;> rfl
theorem simT_dhas {neg : Bool} {k : Ex} {i : Nat} (hk : SimE k) : SimT (.dhas neg k i) := by
  intro X W N sc lv g H σ env st e Q at_ hm hr h
  obtain ⟨k', x, px, pos, rfl, h2, h3, h4, h5⟩ := dhas_sh hm
  refine ⟨?_, notBool fun _ _ _ q => by cases q⟩
  have hd := okName_debug h5
  have hu : X.A.units + 1 < cLine := by
    have := room_u at_.c.room
    omega
  rw [dhas_evT] at h
  have pv := pe_var (pos := px) (by rw [at_.c.eN]; exact h3) (at_.c.vis h4) hd.1 hd.2.1
  cases neg with
  | true =>
    refine WT.of (pt_cmp (pc_dnotin hu pe_we pv) (by rfl)) (hk k' true _ at_ h2 hr (h.bind based_eq fun z st1 g1 v H1 s1 o1 r1 h1 => ?_))
    obtain ⟨n, en, h1⟩ := h1.int
    have ew := (r1.rt en).int
    subst ew
    cases hs : env[i]? with
    | none => rw [hs] at h1; exact h1.elim
    | some sl =>
      rw [hs] at h1
      cases sl <;> try exact h1.elim
      rename_i dd
      cases dd <;> try exact h1.elim
      rename_i kvs
      obtain ⟨a, vs, ex, ea, rd, _, _⟩ := at_slot (at_.on s1 o1) hs
      refine ⟨.ref a, ex, a, _, rfl, DGet.k (k := .inl n) ea, ?_⟩
      rw [rd.any]
      exact ⟨_, rfl, h1 g1 _ H1 .refl o1 rfl⟩
  | false =>
    refine WT.of (pt_cmp (pc_din hu pe_we pv) (by rfl)) (hk k' true _ at_ h2 hr (h.bind based_eq fun z st1 g1 v H1 s1 o1 r1 h1 => ?_))
    obtain ⟨n, en, h1⟩ := h1.int
    have ew := (r1.rt en).int
    subst ew
    cases hs : env[i]? with
    | none => rw [hs] at h1; exact h1.elim
    | some sl =>
      rw [hs] at h1
      cases sl <;> try exact h1.elim
      rename_i dd
      cases dd <;> try exact h1.elim
      rename_i kvs
      obtain ⟨a, vs, ex, ea, rd, _, _⟩ := at_slot (at_.on s1 o1) hs
      refine ⟨.ref a, ex, a, _, rfl, DGet.k (k := .inl n) ea, ?_⟩
      rw [rd.any]
      exact ⟨_, rfl, h1 g1 _ H1 .refl o1 rfl⟩
theorem shas_sh {k : Ex} {i : Nat} {N : List Str} {sc : Scope} {e : Expr} (hm : mE N (.shas k i) sc e = true) : ∃ k' x px pos, e = .Compare k' [.In] [.Name x px] pos ∧ mE N k sc k' = true ∧ N[i]? = some x ∧ isVis sc x = true ∧ okName x = true := by
  cases e <;> try exact no_false hm
  rename_i k' os bs pos
  rcases os with _ | ⟨o', _ | ⟨_, _⟩⟩ <;> try exact no_false hm
  rcases bs with _ | ⟨b', br⟩ <;> try exact no_false hm
  cases b' <;> try exact no_false hm
  cases br <;> try exact no_false hm
  rename_i x px
  obtain ⟨hm, h5⟩ := cond_true hm
  obtain ⟨hm, h4⟩ := cond_true hm
  obtain ⟨hm, h3⟩ := cond_true hm
  obtain ⟨h1, h2⟩ := cond_true hm
  have h1 : o' = .In := of_decide_eq_true h1
  subst h1
  exact ⟨k', x, px, pos, rfl, h2, of_decide_eq_true h3, h4, h5⟩
theorem RKV.any {K : PySem.W.Frag} {g : G} {H : Hp} {s : Str} : ∀ {kv : List (Key × V)} {kvs : List (Str × Val)}, RKV K g H kv kvs → (valV kv (.inr s)).isSome = (kvs.lookup s).isSome
  | _, _, .nil => rfl
  | _, _, .cons (k := k) (v := v) r t => by
    by_cases hk : s = k
    · subst hk
      rw [List.lookup_cons_self, valV_pos rfl]
      rfl
    · rw [List.lookup_cons, show (s == k) = false from beq_eq_false_iff_ne.mpr hk, valV_neg (fun q => hk (Sum.inr.inj q).symm)]
      exact t.any
/-- what a text among keys comes to -/
theorem shas_in {X : Cx} {W : WX} {N : List Str} {sc : Scope} {lv : Nat} {g : G} {H : Hp} {σ : L2.St} {env : Env} {st : Store} {i : Nat} {x : Val} (at_ : At X W N sc lv g H σ env st) {P : R RV → Prop} (hno : ¬ P .no) (h : P (shasR env[i]? x st)) :
    ∃ z n kvs p kv, x = .dat (.str z) ∧ env[i]? = some (.val (.loc n)) ∧ σ[i]? = some (some (.ref p)) ∧ H p = some (.dK kv) ∧ RKV X.K g H kv kvs ∧ P (.ok (plain (.bool (kvs.lookup z).isSome)) st) := by
  cases hs : env[i]? with
  | none => rw [hs] at h; exact (hno h).elim
  | some sl =>
    rw [hs] at h
    cases sl <;> try exact (hno h).elim
    rename_i v
    cases v <;> try exact (hno h).elim
    rename_i n
    cases x <;> try exact (hno h).elim
    rename_i d
    cases d <;> try exact (hno h).elim
    rename_i z
    obtain ⟨v, ex, so⟩ := at_.en.slot hs
    obtain ⟨_, rfl, p, hp1, rfl⟩ := so
    have h : P (match st[n]? with | some (.dic kvs) => .ok (plain (.bool (kvs.lookup z).isSome)) st | _ => .no) := h
    cases hn : st[n]? with
    | none => rw [hn] at h; exact (hno h).elim
    | some c =>
      rw [hn] at h
      cases c with
      | lst xs => exact (hno h).elim
      | dic kvs =>
        obtain ⟨kv, ek, rk⟩ := at_.ok.cell n p _ hp1 hn
        exact ⟨z, n, kvs, p, kv, rfl, rfl, ex, ek, rk, h⟩
theorem sim_shas {k : Ex} {i : Nat} (hk : SimE k) : SimE (.shas k i) := by
  intro X W N sc lv g H σ env st e pk Q at_ hm hr h
  obtain ⟨k', x, px, pos, rfl, h2, h3, h4, h5⟩ := shas_sh hm
  have hd := okName_debug h5
  have hu : X.A.units + 1 < cLine := by
    have := room_u at_.c.room
    omega
  have pv := pe_var (pos := px) (by rw [at_.c.eN]; exact h3) (at_.c.vis h4) hd.1 hd.2.1
  refine WE.of (pe_cmp (pc_din hu pe_we pv) (by rfl)) (hk k' true _ at_ h2 hr (h.bind based_e fun z st1 g1 v H1 s1 o1 r1 h1 => ?_))
  obtain ⟨y, n, kvs, a, kv, ez, _, ex, ea, rk, h9⟩ := shas_in (at_.on s1 o1) (P := fun r => Post X.K X.mg (WS_ W σ) (relE X.K pk) g1 H1 r Q) (fun q => q.elim) h1
  obtain ⟨fz, zv⟩ := z
  subst ez
  have ew := (r1.rt rfl).str
  subst ew
  refine ⟨.ref a, ex, a, _, rfl, DGet.k (k := .inr y) ea, ?_⟩
  rw [rk.any]
  have h1 : Fin X.K pk g1 H1 st1 (plain (.bool ((kvs.lookup y).isSome))) Q := h9
  exact h1.plain o1 (.bool _)
theorem simT_shas {k : Ex} {i : Nat} (hk : SimE k) : SimT (.shas k i) := by
  intro X W N sc lv g H σ env st e Q at_ hm hr h
  obtain ⟨k', x, px, pos, rfl, h2, h3, h4, h5⟩ := shas_sh hm
  refine ⟨?_, notBool fun _ _ _ q => by cases q⟩
  have hd := okName_debug h5
  have hu : X.A.units + 1 < cLine := by
    have := room_u at_.c.room
    omega
  have pv := pe_var (pos := px) (by rw [at_.c.eN]; exact h3) (at_.c.vis h4) hd.1 hd.2.1
  have e0 : ((evE (.shas k i) true env st).bind fun x st => boolOf x st) = (evE k true env st).bind fun z st => (shasR env[i]? z.v st).bind fun x st => boolOf x st := by
    show ((evE k true env st).bind fun z st => shasR env[i]? z.v st).bind _ = _
    cases evE k true env st <;> rfl
  rw [e0] at h
  refine WT.of (pt_cmp (pc_din hu pe_we pv) (by rfl)) (hk k' true _ at_ h2 hr (h.bind based_eq fun z st1 g1 v H1 s1 o1 r1 h1 => ?_))
  obtain ⟨y, n, kvs, a, kv, ez, _, ex, ea, rk, h9⟩ := shas_in (at_.on s1 o1) (P := fun r => Post X.K X.mg (WS_ W σ) _ g1 H1 (r.bind fun x st => boolOf x st) Q) (fun q => q.elim) h1
  obtain ⟨fz, zv⟩ := z
  subst ez
  have ew := (r1.rt rfl).str
  subst ew
  refine ⟨.ref a, ex, a, _, rfl, DGet.k (k := .inr y) ea, ?_⟩
  rw [rk.any]
  exact ⟨_, rfl, h9 g1 _ H1 .refl o1 rfl⟩
theorem sim_dget {i : Nat} {k : Ex} (hk : SimE k) : SimE (.dget i k) := by
  intro X W N sc lv g H σ env st e pk Q at_ hm hr h
  cases e <;> try exact no_false hm
  rename_i o k' pos
  cases o <;> try exact no_false hm
  rename_i x px
  obtain ⟨hm, h5⟩ := cond_true hm
  obtain ⟨hm, h4⟩ := cond_true hm
  obtain ⟨hm, h3⟩ := cond_true hm
  obtain ⟨h1, h2⟩ := cond_true hm
  have h3 : N[i]? = some x := of_decide_eq_true h3
  have hd := okName_debug h5
  have hp := plainIx_ok h1
  have hu : X.A.units + 1 < cLine := by
    have := room_u at_.c.room
    omega
  have pv := pe_var (pos := px) (by rw [at_.c.eN]; exact h3) (at_.c.vis h4) hd.1 hd.2.1
  refine WE.of (pe_dget hu pv pe_we hp.2) ?_
  have h : Post X.K X.mg (WS_ W σ) (relE X.K pk) g H (match env[i]? with
    | some (.own (.dict kvs)) => (evE k true env st).bind fun z st => (intOf z st).bind fun n st => (match dGetI kvs n with
      | some d => .ok (plain d) st
      | none => .no)
    | _ => .no) Q := h
  cases hs : env[i]? with
  | none => rw [hs] at h; exact h.elim
  | some sl =>
    rw [hs] at h
    cases sl <;> try exact h.elim
    rename_i dd
    cases dd <;> try exact h.elim
    rename_i kvs
    have h : Post X.K X.mg (WS_ W σ) (relE X.K pk) g H ((evE k true env st).bind fun z st => (intOf z st).bind fun n st => (match dGetI kvs n with
      | some d => .ok (plain d) st
      | none => .no)) Q := h
    obtain ⟨a, vs, ex, _, _, _, _⟩ := at_slot at_ hs
    refine ⟨.ref a, ex, hk k' true _ at_ h2 hr (h.bind based_e fun z st1 g1 v H1 s1 o1 r1 h1 => ?_)⟩
    obtain ⟨n, en, h1⟩ := h1.int
    have ew := (r1.rt en).int
    subst ew
    obtain ⟨a', vs', ex', ea, rd, _, _⟩ := at_slot (at_.on s1 o1) hs
    rw [ex] at ex'
    cases ex'
    obtain ⟨_, q⟩ := rd.get (n := n)
    cases hg : dGetI kvs n with
    | none => rw [hg] at h1; exact h1.elim
    | some d =>
      rw [hg] at h1
      obtain ⟨w, e1, rw1⟩ := q d hg
      have h1 : Fin X.K pk g1 H1 st1 (plain d) Q := h1
      refine ⟨a, w, rfl, ?_, h1.plain o1 rw1⟩
      have q := DGet.k (k := .inl n) ea
      rw [e1] at q
      exact q
theorem perm_sorted {ys ks : List Int} (h1 : ys.Perm ks) (h2 : ys.Pairwise (· ≤ ·)) : ys = ks.mergeSort fun a b => decide (a ≤ b) := by
  have h3 : (ks.mergeSort fun a b => decide (a ≤ b)).Pairwise (· ≤ ·) := by
    have := List.pairwise_mergeSort (le := fun (a b : Int) => decide (a ≤ b)) (fun a b c => by simp; omega) (fun a b => by simp; omega) ks
    exact this.imp fun h => by simpa using h
  exact List.Perm.eq_of_pairwise (le := fun (a b : Int) => a ≤ b) (fun a b _ _ h1 h2 => by omega) h2 h3 (h1.trans (List.mergeSort_perm ks _).symm)
theorem sim_dsort {i : Nat} : SimE (.dsort i) := by
  intro X W N sc lv g H σ env st e pk Q at_ hm hr h
  cases e <;> try exact no_false hm
  rename_i f args kws pos
  cases f <;> try exact no_false hm
  rename_i y p
  rcases args with _ | ⟨a', ar⟩ <;> try exact no_false hm
  · cases a' <;> try exact no_false hm
    cases ar <;> try exact no_false hm
    rename_i x px
    cases kws with
    | cons _ _ => exact no_false hm
    | nil =>
      obtain ⟨hm, h5⟩ := cond_true hm
      obtain ⟨hm, h4⟩ := cond_true hm
      obtain ⟨hm, h3⟩ := cond_true hm
      obtain ⟨h1, h2⟩ := cond_true hm
      have h1 : y = "sorted" := of_decide_eq_true h1
      subst h1
      have h3 : N[i]? = some x := of_decide_eq_true h3
      have hd := okName_debug h5
      have pv := pe_var (pos := px) (by rw [at_.c.eN]; exact h3) (at_.c.vis h4) hd.1 hd.2.1
      have h : Post X.K X.mg (WS_ W σ) (relE X.K pk) g H (match env[i]? with
        | some (.own (.dict kvs)) => (match dKeysI kvs with
          | some ks => bif decide (ks.length < 64) then .ok (fresh (.list ((ks.mergeSort fun a b => decide (a ≤ b)).map PyData.int))) st else .no
          | none => .no)
        | _ => .no) Q := h
      cases hs : env[i]? with
      | none => rw [hs] at h; exact h.elim
      | some sl =>
        rw [hs] at h
        cases sl <;> try exact h.elim
        rename_i dd
        cases dd <;> try exact h.elim
        rename_i kvs
        have h : Post X.K X.mg (WS_ W σ) (relE X.K pk) g H (match dKeysI kvs with
          | some ks => bif decide (ks.length < 64) then .ok (fresh (.list ((ks.mergeSort fun a b => decide (a ≤ b)).map PyData.int))) st else .no
          | none => .no) Q := h
        cases hk : dKeysI kvs with
        | none => rw [hk] at h; exact h.elim
        | some ks =>
          rw [hk] at h
          have h : Post X.K X.mg (WS_ W σ) (relE X.K pk) g H (bif decide (ks.length < 64) then .ok (fresh (.list ((ks.mergeSort fun a b => decide (a ≤ b)).map PyData.int))) st else .no) Q := h
          obtain ⟨hl, h⟩ := h.cond
          have h : Fin X.K pk g H st (fresh (.list ((ks.mergeSort fun a b => decide (a ≤ b)).map PyData.int))) Q := h
          obtain ⟨a, vs, ex, ea, rd, _, _⟩ := at_slot at_ hs
          refine WE.of (pe_callB (call_sortedDI at_.c.calm) (at_.c.gl h2) hr.head (by decide +kernel) (pa_cons pv pa_nil rfl) (by decide) (by decide) rfl (by rfl)) ?_
          refine ⟨.ref a, ex, a, vs, ks, rfl, .inl ea, rd.keys hk, of_decide_eq_true hl, fun ys q p1 p2 hq => ?_⟩
          rw [perm_sorted p1 p2]
          exact h.lst at_.ok (RDs.ofInts _) hq
theorem dicN_sh : ∀ {kvs : List (Int × Int)} {keys : List (Option Expr)} {values : List Expr}, dicN kvs keys values = true → keys.all (·.isSome) = true ∧ keys.length = kvs.length ∧ values.length = kvs.length ∧ ∀ (X : Cx) (pos : Pos), ∃ trs, PPs X pos keys values trs ∧ ∀ σ H (Q : List (V × V) → Hp → Prop), Q (kvs.map fun p => (kV (.inl p.1), V.int p.2)) H → tPairs trs σ H Q
  | [], [], [], _ => ⟨rfl, rfl, rfl, fun X pos => ⟨[], pps_nil, fun σ H Q h => h⟩⟩
  | (a, x) :: r, some (.Constant (.int a') j1 p1) :: ks, .Constant (.int x') j2 p2 :: vs, h => by
    obtain ⟨h, h3⟩ := cond_true h
    obtain ⟨h1, h2⟩ := cond_true h
    have h1 : a = a' := of_decide_eq_true h1
    have h2 : x = x' := of_decide_eq_true h2
    subst h1 h2
    obtain ⟨e1, e2, e3, q⟩ := dicN_sh h3
    refine ⟨by simp [e1], by simp [e2], by simp [e3], fun X pos => ?_⟩
    obtain ⟨trs, ht, hq⟩ := q X pos
    exact ⟨_, pps_cons pe_int pe_int ht, fun σ H Q h => hq σ H _ h⟩
theorem valV_ints {n : Int} : ∀ (kvs : List (Int × Int)), valV (kvs.map fun p => ((Sum.inl p.1 : Key), V.int p.2)) (Sum.inl n) = (kvs.lookup n).map V.int
  | [] => rfl
  | (a, x) :: r => by
    by_cases e : a = n
    · subst e
      rw [List.map_cons, valV_pos rfl, List.lookup_cons_self]
      rfl
    · have ne : (n == a) = false := beq_eq_false_iff_ne.mpr (Ne.symm e)
      rw [List.map_cons, valV_neg (fun z => e (Sum.inl.inj z)), List.lookup_cons, ne]
      exact valV_ints r
theorem sim_dixl {kvs : List (Int × Int)} {k : Ex} (hk : SimE k) : SimE (.dixl kvs k) := by
  intro X W N sc lv g H σ env st e pk Q at_ hm hr h
  cases e <;> try exact no_false hm
  rename_i o k' pos
  cases o <;> try exact no_false hm
  rename_i keys values pd
  obtain ⟨hm, h6⟩ := cond_true hm
  obtain ⟨hm, h5⟩ := cond_true hm
  obtain ⟨hm, h4⟩ := cond_true hm
  obtain ⟨hm, h3⟩ := cond_true hm
  obtain ⟨h1, h2⟩ := cond_true hm
  have h4 : (kvs.map (·.1)).Nodup := of_decide_eq_true h4
  have h5 : kvs.length ≤ 15 := of_decide_eq_true h5
  have hp := plainIx_ok h1
  have hu : X.A.units + 1 < cLine := by
    have := room_u at_.c.room
    omega
  obtain ⟨e1, e2, e3, q⟩ := dicN_sh h3
  obtain ⟨trs, ht, hq⟩ := q X pd
  refine WE.of (pe_dget hu (pe_disp ht e1 (e2.trans e3.symm) (fun z => ?_) (by rw [e2]; exact h5)) pe_we hp.2) ?_
  · subst z
    cases kvs with
    | nil => cases h6
    | cons _ _ => cases e2
  intro p hpn
  let kw : List (Key × V) := kvs.map fun p => ((Sum.inl p.1 : Key), V.int p.2)
  have hnd : ((([] : List (Key × V)) ++ kw).map (·.1)).Nodup := by
    have : (kw.map (·.1)) = (kvs.map (·.1)).map Sum.inl := by simp [kw]
    rw [List.nil_append, this]
    exact List.pairwise_map.mpr (h4.imp fun h z => h (Sum.inl.inj z))
  refine hq σ _ _ ⟨upd_same, kw, by simp [kw], by simpa [kw] using h5, ?_⟩
  rw [merge_nodup _ _ hnd, List.nil_append, upd_upd]
  have s0 : Step g H g (upd H p (.dK kw)) := .new hpn
  have o0 : Ok X.K g (upd H p (.dK kw)) st := at_.ok.new hpn
  refine hk k' true _ (at_.on s0 o0) h2 hr ?_
  have h : Post X.K X.mg (WS_ W σ) (relE X.K pk) g H ((evE k true env st).bind fun z st => (intOf z st).bind fun i st => (match kvs.lookup i with
    | some x => .ok (plain (.int x)) st
    | none => .no)) Q := h
  cases ev : evE k true env st with
  | no =>
    rw [ev] at h
    exact h.elim
  | exc c ds st1 =>
    rw [ev] at h
    exact fun g' cls d H' s' o w => h g' cls d H' (s0.trans s') o w
  | ok z st1 =>
    rw [ev] at h
    have h : Post X.K X.mg (WS_ W σ) (relE X.K pk) g H ((intOf z st1).bind fun i st => (match kvs.lookup i with
      | some x => .ok (plain (.int x)) st
      | none => .no)) Q := h
    obtain ⟨i, ei, h⟩ := h.int
    intro g1 v H2 s1 o1 r1
    have e2 := (r1.rt ei).int
    subst e2
    have ed : H2 p = some (.dK kw) := s1.keep _ _ upd_same (at_.ok.notIn hpn) ntD
    cases hl : kvs.lookup i with
    | none => rw [hl] at h; exact h.elim
    | some x =>
      rw [hl] at h
      have q := h g1 (.int x) H2 (s0.trans s1) o1 (by
        cases pk with
        | true => exact .inl (.int _)
        | false => exact .int _)
      refine ⟨p, .int x, rfl, ?_, q⟩
      have q := DGet.k (k := Sum.inl i) ed
      rw [valV_ints, hl] at q
      exact q
theorem sim_lenl {a : Ex} (ha : SimE a) : SimE (.lenl a) := by
  intro X W N sc lv g H σ env st e pk Q at_ hm hr h
  cases e <;> try exact no_false hm
  rename_i f args kws pos
  cases f <;> try exact no_false hm
  rename_i y p
  rcases args with _ | ⟨a', _ | ⟨_, _⟩⟩ <;> try exact no_false hm
  cases kws with
  | cons _ _ => exact no_false hm
  | nil =>
    obtain ⟨hm, h4⟩ := cond_true hm
    obtain ⟨hm, h3⟩ := cond_true hm
    obtain ⟨h1, h2⟩ := cond_true hm
    have h1 : y = "len" := of_decide_eq_true h1
    subst h1
    refine WE.of (pe_callB (r := wcr X (.builtin "len")) cr_wc (at_.c.gl h2) hr.head (by decide +kernel) (pa_cons pe_we pa_nil (starEach_cons h3)) (by decide) (by decide) (starEach_cons h3) (by rfl))
      (ha a' false _ at_ h4 hr.tail (Post.bind based_e h fun x st1 g1 v H1 s1 o1 r1 h1 => ?_))
    obtain ⟨fr, y⟩ := x
    cases y with
    | dat d => exact h1.elim
    | loc n =>
      have rv : RVal X.K g1 H1 v (.loc n) := by cases fr <;> exact r1
      obtain ⟨p, hp1, rfl⟩ := rv
      cases hn : st1[n]? with
      | none =>
        simp only [lenL, hn] at h1
        exact h1.elim
      | some c =>
        cases c with
        | dic kvs =>
          simp only [lenL, hn] at h1
          exact h1.elim
        | lst xs =>
          simp only [lenL, hn] at h1
          obtain ⟨vs, ev, rd⟩ := o1.cell n p _ hp1 hn
          have h1 : Fin X.K pk g1 H1 st1 (plain (.int xs.length)) Q := h1
          exact WC.of call_len_seq ⟨p, vs, rfl, .inl (.inl (.inl ev)), by rw [rd.length]; exact h1.plain o1 (.int _)⟩
theorem simT_plain {m : Ex} (he : SimE m) (hf : ∀ {N : List Str} {sc : Scope} {e : Expr}, mE N m sc e = true → match e with
    | .UnaryOp .Not _ _ => False
    | .BoolOp _ _ _ => False
    | .IfExp _ _ _ _ => False
    | .Compare _ _ _ _ => False
    | _ => True) : SimT m :=
  simT_of he fun {N sc e} env hm => by
    have q := hf hm
    cases e <;> first | exact q.elim | skip
    all_goals first
      | exact ⟨fun _ _ _ z => (by cases z), fun _ => rfl⟩
      | (rename_i o a p
         cases o <;> first | exact q.elim | exact ⟨fun _ _ _ z => (by cases z), fun _ => rfl⟩)
theorem sim_dic0 : SimE .dic0 := by
  intro X W N sc lv g H σ env st e pk Q a hm hr h
  cases e <;> try exact no_false hm
  rename_i keys values pos
  obtain ⟨h1, h2⟩ := cond_true hm
  cases keys with
  | cons _ _ => cases h1
  | nil =>
    cases values with
    | cons _ _ => cases h2
    | nil =>
      refine WE.of pe_dnewK fun p n => h (g.add p) (.ref p) _ ((Step.new n).add n) ((a.ok.new n).add (a.ok.notIn n) (by rw [upd_same]; exact fun q => by cases q)) ?_
      have r : RD X.K (g.add p).Z (upd H p (.dK [])) (.ref p) (.dict []) := .dict (.inr rfl) (.inl upd_same) .nil
      cases pk with
      | true => exact .inl r
      | false => exact r
mutual
theorem simX : (m : Ex) → SimE m ∧ (SimE m → SimT m)
  | .var i => ⟨sim_var, fun h => simT_plain h fun {N sc e} hm => by cases e <;> first | trivial | exact no_false hm⟩
  | .cst k => ⟨sim_cst, fun h => simT_plain h fun {N sc e} hm => by cases e <;> first | trivial | exact no_false hm⟩
  | .glob x d => ⟨sim_glob, fun h => simT_plain h fun {N sc e} hm => by cases e <;> first | trivial | exact no_false hm⟩
  | .neg a => ⟨sim_neg (simX a).1, fun h => simT_plain h fun {N sc e} hm => by
      cases e <;> first | trivial | exact no_false hm | skip
      rename_i o b p
      cases o <;> first | trivial | exact no_false hm⟩
  | .not a => ⟨sim_not (simX a).1, fun _ => simT_not ((simX a).2 (simX a).1)⟩
  | .bin o a b => ⟨sim_bin (simX a).1 (simX b).1, fun h => simT_plain h fun {N sc e} hm => by cases e <;> first | trivial | exact no_false hm⟩
  | .cmp o a b => ⟨sim_cmp (simX a).1 (simX b).1, fun _ => simT_cmp (simX a).1 (simX b).1⟩
  | .chain o1 o2 a b c => ⟨sim_chain (simX a).1 (simX b).1 (simX c).1, fun _ => simT_chain (simX a).1 (simX b).1 (simX c).1⟩
  | .and a b => ⟨sim_and (simX a).1 (simX b).1, fun _ => simT_and ((simX a).2 (simX a).1) ((simX b).2 (simX b).1)⟩
  | .or a b => ⟨sim_or (simX a).1 (simX b).1, fun _ => simT_or ((simX a).2 (simX a).1) ((simX b).2 (simX b).1)⟩
  | .ite c a b => ⟨sim_ite ((simX c).2 (simX c).1) (simX a).1 (simX b).1, fun _ => simT_ite ((simX c).2 (simX c).1) ((simX a).2 (simX a).1) ((simX b).2 (simX b).1)⟩
  | .tup es => ⟨sim_tup (simXs es).2.1, fun h => simT_plain h fun {N sc e} hm => by cases e <;> first | trivial | exact no_false hm⟩
  | .lst es => ⟨sim_lst (simXs es).2.1, fun h => simT_plain h fun {N sc e} hm => by cases e <;> first | trivial | exact no_false hm⟩
  | .ix a b => ⟨sim_ix (simX a).1 (simX b).1, fun h => simT_plain h fun {N sc e} hm => by cases e <;> first | trivial | exact no_false hm⟩
  | .slice a lo hi => ⟨sim_slice (simX a).1 (simXo lo).1 (simXo hi).1, fun h => simT_plain h fun {N sc e} hm => by cases e <;> first | trivial | exact no_false hm⟩
  | .rev a => ⟨sim_rev (simX a).1, fun h => simT_plain h fun {N sc e} hm => by cases e <;> first | trivial | exact no_false hm⟩
  | .call x s es => ⟨sim_call (simXs es).1, fun h => simT_plain h fun {N sc e} hm => by cases e <;> first | trivial | exact no_false hm⟩
  | .blt f es => ⟨sim_blt (simXs es).2.2.1, fun h => simT_plain h fun {N sc e} hm => by cases e <;> first | trivial | exact no_false hm⟩
  | .isi a ts => ⟨sim_isi (simX a).1, fun h => simT_plain h fun {N sc e} hm => by cases e <;> first | trivial | exact no_false hm⟩
  | .comp elt own tg it ifs => ⟨sim_comp (simX elt).1 (simXi it) (simXo ifs).2, fun h => simT_plain h fun {N sc e} hm => by cases e <;> first | trivial | exact no_false hm⟩
  | .comp2 elt own tg it ifs own1 tg1 it1 ifs1 => ⟨sim_comp2 (simX elt).1 (simXi it) (simXo ifs).2 (simXi it1) (simXo ifs1).2, fun h => simT_plain h fun {N sc e} hm => by cases e <;> first | trivial | exact no_false hm⟩
  | .dicl ks es => ⟨sim_dicl (simXs es).2.2.2, fun h => simT_plain h fun {N sc e} hm => by cases e <;> first | trivial | exact no_false hm⟩
  | .dic0 => ⟨sim_dic0, fun h => simT_plain h fun {N sc e} hm => by cases e <;> first | trivial | exact no_false hm⟩
  | .toloc a => ⟨sim_toloc (simX a).1, fun h => simT_plain h fun {N sc e} hm => by
      have q := (cond_true hm).1
      cases e <;> first | trivial | exact no_false q⟩
  | .popl a => ⟨sim_popl (simX a).1, fun h => simT_plain h fun {N sc e} hm => by cases e <;> first | trivial | exact no_false hm⟩
  | .get2 _ _ _ _ _ k => ⟨sim_get2 (simX k).1, fun h => simT_plain h fun {N sc e} hm => by cases e <;> first | trivial | exact no_false hm⟩
  | .dicn => ⟨sim_dicn, fun h => simT_plain h fun {N sc e} hm => by cases e <;> first | trivial | exact no_false hm⟩
  | .dhas _ k _ => ⟨sim_dhas (simX k).1, fun _ => simT_dhas (simX k).1⟩
  | .shas k _ => ⟨sim_shas (simX k).1, fun _ => simT_shas (simX k).1⟩
  | .dget _ k => ⟨sim_dget (simX k).1, fun h => simT_plain h fun {N sc e} hm => by cases e <;> first | trivial | exact no_false hm⟩
  | .dsort _ => ⟨sim_dsort, fun h => simT_plain h fun {N sc e} hm => by cases e <;> first | trivial | exact no_false hm⟩
  | .dixl _ k => ⟨sim_dixl (simX k).1, fun h => simT_plain h fun {N sc e} hm => by cases e <;> first | trivial | exact no_false hm⟩
  | .revc a => ⟨sim_revc (simX a).1, fun h => simT_plain h fun {N sc e} hm => by cases e <;> first | trivial | exact no_false hm⟩
  | .lrng1 a => ⟨sim_lrng1 (simX a).1, fun h => simT_plain h fun {N sc e} hm => by cases e <;> first | trivial | exact no_false hm⟩
  | .lrng2 a b => ⟨sim_lrng2 (simX a).1 (simX b).1, fun h => simT_plain h fun {N sc e} hm => by cases e <;> first | trivial | exact no_false hm⟩
  | .cntL a k => ⟨sim_cntL (simX a).1 (simX k).1, fun h => simT_plain h fun {N sc e} hm => by cases e <;> first | trivial | exact no_false hm⟩
  | .popi a k => ⟨sim_popi (simX a).1 (simX k).1, fun h => simT_plain h fun {N sc e} hm => by cases e <;> first | trivial | exact no_false hm⟩
  | .lenl a => ⟨sim_lenl (simX a).1, fun h => simT_plain h fun {N sc e} hm => by cases e <;> first | trivial | exact no_false hm⟩
  | .lamc _ _ b => ⟨sim_lamc (simX b).1, fun h => simT_plain h fun {N sc e} hm => by cases e <;> first | trivial | exact no_false hm⟩
theorem simXs : (m : Exs) → SimV m ∧ SimA m ∧ SimP m ∧ SimK m
  | .nil => ⟨simV_nil, simA_nil, simP_nil, simK_nil⟩
  | .cons e es => ⟨simV_cons (simX e).1 (simXs es).1, simA_cons (simX e).1 (simXs es).2.1, simP_cons (simX e).1 (simXs es).2.2.1, simK_cons (simX e).1 (simXs es).2.2.2⟩
  | .star e es => ⟨simV_star, simA_star (simX e).1 (simXs es).2.1, simP_star, simK_star⟩
theorem simXo : (m : Opt) → SimO m ∧ SimC m
  | .non => ⟨simO_non, simC_non⟩
  | .som e => ⟨simO_som (simX e).1, simC_som ((simX e).2 (simX e).1)⟩
theorem simXi : (m : It) → SimI m
  | .seq e => simI_seq (simX e).1
  | .rng1 a => simI_rng1 (simX a).1
  | .rng2 a b => simI_rng2 (simX a).1 (simX b).1
  | .rng3 a b c => simI_rng3 (simX a).1 (simX b).1 (simX c).1
  | .enum e => simI_enum (simX e).1
  | .zip a b => simI_zip (simX a).1 (simX b).1
end
theorem sim (m : Ex) : SimE m ∧ SimT m := ⟨(simX m).1, (simX m).2 (simX m).1⟩
end MP
/-! Statements: their text; what holds between them. -/
namespace MP
open PySem PyProof.Rows L2 PySem.Spec
/-! ### which text a statement stands for -/
def isNoneE : Ex → Bool
  | .cst .none => true
  | _ => false
def isCompE : Ex → Bool
  | .comp _ _ _ _ _ => true
  | .comp2 _ _ _ _ _ _ _ _ _ => true
  | _ => false
def notComp : Expr → Bool
  | .ListComp _ _ _ _ => false
  | .SetComp _ _ _ _ => false
  | .DictComp _ _ _ _ _ => false
  | _ => true
/-- the stores of a comprehension that a name is put to are exchanged -/
def swB (sc : Scope) (y : Str) (py : Pos) : Expr → Bool
  | .ListComp _ _ s p => sc.names.lookup y == some .local && py.line == p.line && !(s.names.any fun (n, k) => n == y && (k == .local || k == .cell))
  | .SetComp _ _ s p => sc.names.lookup y == some .local && py.line == p.line && !(s.names.any fun (n, k) => n == y && (k == .local || k == .cell))
  | .DictComp _ _ _ s p => sc.names.lookup y == some .local && py.line == p.line && !(s.names.any fun (n, k) => n == y && (k == .local || k == .cell))
  | _ => false
def isStarB : Expr → Bool
  | .Starred _ _ => true
  | _ => false
def parName (sc : Scope) (line : Nat) : Expr → Option Str
  | .Name id pos => if sc.names.lookup id == some .local && pos.line == line then some id else none
  | _ => none
/-- none: not told; else the names that are stored from the right -/
def ssB (sc : Scope) : Expr → Expr → Option (Option (List Str))
  | .Tuple ts _ _, .Tuple vs _ _ =>
    if !(ts.length == 2 || ts.length == 3) || vs.length != ts.length then some none
    else if vs.any isStarB then some none
    else let names := ts.filterMap (parName sc ((ts.head?.map (·.pos.line)).getD 0))
      if names.length != ts.length || names.eraseDups.length != names.length then some none
      else if vs.all (foldedForSure 8) then some none
      else if vs.all (constantsAlone 8) then none
      else some (some names)
  | .Tuple _ _ _, _ => some none
  | _, _ => none
theorem bk_fun {env : PySem.Env} (hk : env.scope.kind = .function) : env.blockKind = .function := by
  unfold Env.blockKind
  rw [hk]
  rfl
theorem sw_name {env : PySem.Env} {y : Str} {py : Pos} {e : Expr} {l : Nat} (hk : env.scope.kind = .function) : swapsWith e (some (.Name y py)) l env = pure (swB env.scope y py e) := by
  have hb := bk_fun hk
  have go : ∀ (s : Scope) (p : Pos), (pure (env.blockKind == .function && env.kindOf y == some .local && py.line == p.line && !(s.names.any fun (n, k) => n == y && (k == .local || k == .cell))) : Sem Bool) =
      pure (env.scope.names.lookup y == some .local && py.line == p.line && !(s.names.any fun (n, k) => n == y && (k == .local || k == .cell))) := by
    intro s p
    rw [hb]
    rfl
  cases e <;> first | rfl | exact go _ _
theorem sw_tuple {env : PySem.Env} {e : Expr} {ts : List Expr} {k : Nat} {p : Pos} {l : Nat} : swapsWith e (some (.Tuple ts k p)) l env = pure false := by
  cases e <;> rfl
theorem sw_sub {env : PySem.Env} {e a b : Expr} {p : Pos} {l : Nat} : swapsWith e (some (.Subscript a b p)) l env = pure false := by
  cases e <;> rfl
theorem sw_none {env : PySem.Env} {e : Expr} {l : Nat} (h : notComp e = true) : swapsWith e none l env = pure false := by
  cases e <;> first | rfl | cases h
theorem ss_any : ∀ vs : List Expr, (vs.any fun | .Starred .. => true | _ => false) = vs.any isStarB := fun vs => by
  congr 1
theorem ss_ok {env : PySem.Env} (hk : env.scope.kind = .function) {tg value : Expr} {r : Option (List Str)} (h : ssB env.scope tg value = some r) : swappedStores [tg] value env = pure r := by
  have hb := bk_fun hk
  cases tg <;> try exact no_some h
  rename_i ts k p
  by_cases hv : ∃ vs k2 p2, value = .Tuple vs k2 p2
  · obtain ⟨vs, k2, p2, rfl⟩ := hv
    unfold ssB at h
    dsimp only at h
    unfold swappedStores
    dsimp only
    rw [hb]
    have e1 : (!(ts.length == 2 || ts.length == 3) || vs.length != ts.length || (ScopeKind.function != .function)) = (!(ts.length == 2 || ts.length == 3) || vs.length != ts.length) := by
      have : (ScopeKind.function != .function) = false := by decide
      rw [this, Bool.or_false]
    rw [e1]
    cases c1 : (!(ts.length == 2 || ts.length == 3) || vs.length != ts.length) with
    | true =>
      rw [c1, if_pos rfl] at h
      cases h
      rw [if_pos rfl]
    | false =>
      rw [c1, if_neg Bool.false_ne_true] at h
      simp only [if_neg Bool.false_ne_true]
      have e2 := ss_any vs
      cases c2 : vs.any isStarB with
      | true =>
        rw [c2, if_pos rfl] at h
        cases h
        rw [c2] at e2
        show (if (vs.any fun | .Starred .. => true | _ => false) = true then pure none else _) = _
        rw [e2]
        rfl
      | false =>
        rw [c2, if_neg Bool.false_ne_true] at h
        rw [c2] at e2
        show (if (vs.any fun | .Starred .. => true | _ => false) = true then pure none else _) = _
        rw [e2, if_neg Bool.false_ne_true]
        let nm := ts.filterMap (parName env.scope ((ts.head?.map (·.pos.line)).getD 0))
        show (if (nm.length != ts.length || nm.eraseDups.length != nm.length) = true then pure none else if vs.all (foldedForSure 8) = true then pure none else if vs.all (constantsAlone 8) = true then unsupported "assign.tuple-of-constant-expressions:order-of-the-stores" >>= fun _ => pure (some nm) else pure (some nm)) = (pure r : Sem (Option (List Str)))
        have hn : nm = ts.filterMap (parName env.scope ((ts.head?.map (·.pos.line)).getD 0)) := rfl
        clear_value nm
        rw [← hn] at h
        cases c3 : (nm.length != ts.length || nm.eraseDups.length != nm.length) with
        | true =>
          rw [c3, if_pos rfl] at h
          cases h
          rw [if_pos rfl]
        | false =>
          rw [c3, if_neg Bool.false_ne_true] at h
          simp only [if_neg Bool.false_ne_true]
          cases c4 : vs.all (foldedForSure 8) with
          | true =>
            rw [c4, if_pos rfl] at h
            cases h
            rw [if_pos rfl]
          | false =>
            rw [c4, if_neg Bool.false_ne_true] at h
            simp only [if_neg Bool.false_ne_true]
            cases c5 : vs.all (constantsAlone 8) with
            | true =>
              rw [c5, if_pos rfl] at h
              cases h
            | false =>
              rw [c5, if_neg Bool.false_ne_true] at h
              cases h
              simp only [if_neg Bool.false_ne_true]
  · have e1 : ssB env.scope (.Tuple ts k p) value = some none := by
      cases value <;> first | rfl | exact (hv ⟨_, _, _, rfl⟩).elim
    rw [e1] at h
    cases h
    cases value <;> first | rfl | exact (hv ⟨_, _, _, rfl⟩).elim
/-- a written text: a constant, or a tuple of one text -/
def isCE : Ex → Bool
  | .cst _ => true
  | .tup (.cons (.cst (.str _)) .nil) => true
  | .lst (.cons (.cst (.str _)) .nil) => true
  | .cmp .isNot (.var _) (.cst .none) => true
  | _ => false
mutual
def mS (N : List Str) : Sm → Scope → Stmt → Bool
  | .pass, _, s => match s with
    | .Pass _ => true
    | .Expr (.Constant (.str _) _ _) _ => true
    | _ => false
  | .exp e, sc, s => match s with
    | .Expr e' _ => notComp e' && mE N e sc e'
    | _ => false
  | .ret e, sc, s => match s with
    | .Return o _ => (match o with
      | some e' => mE N e sc e'
      | none => isNoneE e)
    | _ => false
  | .set i _ e, sc, s => match s with
    | .Assign ts e' _ => (match ts with
      | [.Name y py] => decide (N[i]? = some y) && isLoc sc y && mE N e sc e' && (!swB sc y py e' || isCompE e)
      | _ => false)
    | _ => false
  | .setT us e, sc, s => match s with
    | .Assign ts e' _ => (match ts with
      | [.Tuple es k p] => mTgs N us sc es && mE N e sc e' && decide (ssB sc (.Tuple es k p) e' = some none)
      | _ => false)
    | _ => false
  | .par is es, sc, s => match s with
    | .Assign [.Tuple ts k p] (.Tuple vs k2 p2) _ => mEs N es sc vs && (match is, ts with
      | [i, j], [.Name x _, .Name y _] => decide (vs.length = 2) && decide (N[i]? = some x) && decide (N[j]? = some y) && decide (i ≠ j) && decide (sc.names.lookup x = some .local) && decide (sc.names.lookup y = some .local) &&
        decide (ssB sc (.Tuple ts k p) (.Tuple vs k2 p2) = some (some [x, y]))
      | [i, j, l], [.Name x _, .Name y _, .Name z _] => decide (vs.length = 3) && decide (N[i]? = some x) && decide (N[j]? = some y) && decide (N[l]? = some z) && decide (i ≠ j) && decide (i ≠ l) && decide (j ≠ l) &&
        decide (sc.names.lookup x = some .local) && decide (sc.names.lookup y = some .local) && decide (sc.names.lookup z = some .local) && decide (ssB sc (.Tuple ts k p) (.Tuple vs k2 p2) = some (some [x, y, z]))
      | _, _ => false)
    | _ => false
  | .parO is _ es, sc, s => match s with
    | .Assign [.Tuple ts k p] (.Tuple vs k2 p2) _ => mEs N es sc vs && (match is, ts with
      | [i, j], [.Name x _, .Name y _] => decide (vs.length = 2) && decide (N[i]? = some x) && decide (N[j]? = some y) && decide (i ≠ j) && ((decide (sc.names.lookup x = some .local) && decide (sc.names.lookup y = some .local) &&
        decide (ssB sc (.Tuple ts k p) (.Tuple vs k2 p2) = some (some [x, y]))) || (isLoc sc x && isLoc sc y && decide (ssB sc (.Tuple ts k p) (.Tuple vs k2 p2) = some none)))
      | [i, j, l], [.Name x _, .Name y _, .Name z _] => decide (vs.length = 3) && decide (N[i]? = some x) && decide (N[j]? = some y) && decide (N[l]? = some z) && decide (i ≠ j) && decide (i ≠ l) && decide (j ≠ l) &&
        decide (sc.names.lookup x = some .local) && decide (sc.names.lookup y = some .local) && decide (sc.names.lookup z = some .local) && decide (ssB sc (.Tuple ts k p) (.Tuple vs k2 p2) = some (some [x, y, z]))
      | _, _ => false)
    | _ => false
  | .aug i o e, sc, s => match s with
    | .AugAssign (.Name x _) op e' _ => decide (N[i]? = some x) && isLoc sc x && mE N e sc e' && (match o, op with
      | .add, .Add => true
      | .sub, .Sub => true
      | _, _ => false)
    | _ => false
  | .ite c a b, sc, s => match s with
    | .If c' a' b' _ => mE N c sc c' && mSs N a sc a' && mSs N b sc b'
    | _ => false
  | .whil c b, sc, s => match s with
    | .While c' b' o _ => mE N c sc c' && mSs N b sc b' && o.isEmpty
    | _ => false
  | .forr tg it b, sc, s => match s with
    | .For tg' it' b' o _ => mTg N tg sc tg' && notSet it' && mI N it sc tg' it' && mSs N b sc b' && o.isEmpty
    | _ => false
  | .brk, _, s => match s with
    | .Break _ => true
    | _ => false
  | .cnt, _, s => match s with
    | .Continue _ => true
    | _ => false
  | .app i e, sc, s => match s with
    | .Expr (.Call (.Attribute (.Name x _) m ap) [e'] [] cp) _ => decide (N[i]? = some x) && isVis sc x && okName x && decide (m = "append") && decide (ap.endLine = cp.line) && notStar e' && mE N e sc e'
    | _ => false
  | .popd i, sc, s => match s with
    | .Expr (.Call (.Attribute (.Name x _) m ap) [] [] cp) _ => decide (N[i]? = some x) && isVis sc x && okName x && decide (m = "pop") && decide (ap.endLine = cp.line)
    | _ => false
  | .popt j i, sc, s => match s with
    | .Assign [.Name y _] (.Call (.Attribute (.Name x _) m ap) [] [] cp) _ => decide (N[j]? = some y) && isLoc sc y && decide (N[i]? = some x) && isVis sc x && okName x && decide (m = "pop") && decide (ap.endLine = cp.line)
    | _ => false
  | .setix i k e, sc, s => match s with
    | .Assign [.Subscript (.Name x _) k' _] e' _ => decide (N[i]? = some x) && isVis sc x && okName x && plainIx k' && mE N k sc k' && mE N e sc e'
    | _ => false
  | .setloc a k e, sc, s => match s with
    | .Assign [.Subscript a' k' _] e' _ => plainIx k' && mE N a sc a' && mE N k sc k' && mE N e sc e'
    | _ => false
  | .dput i k e, sc, s => match s with
    | .Assign [.Subscript (.Name x _) k' _] e' _ => decide (N[i]? = some x) && isVis sc x && okName x && plainIx k' && mE N k sc k' && mE N e sc e'
    | _ => false
  | .frz _, _, _ => false
  | .never, _, _ => true
  | .clr i, sc, s => match s with
    | .Expr (.Call (.Attribute (.Name x _) m ap) [] [] cp) _ => decide (N[i]? = some x) && isVis sc x && okName x && decide (m = "clear") && decide (ap.endLine = cp.line)
    | _ => false
  | .rais c, sc, s => match s with
    | .Raise (some (.Call (.Name x _) [] [] _)) none _ => decide (c = x) && isGl sc x && okName x
    | _ => false
  | .tryR b c e, sc, s => match s with
    | .Try body [.ExceptHandler (some (.Name x _)) none [.Return (some e') _] _] [] [] _ => mSs N b sc body && decide (c = x) && isGl sc x && okName x && isCE e && mE N e sc e'
    | _ => false
  | .tryY b c i k, sc, s => match s with
    | .Try body [.ExceptHandler (some (.Name x _)) (some n) [.Return (some (.Call (.Name y _) [.Name n2 _, .Name k2 _] [] _)) _] _] [] [] _ => mSs N b sc body && decide (c = x) && isGl sc x && okName x && decide (y = "isinstance") && isGl sc y && decide (n2 = n) && decide (N[i]? = some n) && decide (sc.names.lookup n = some .local) && okName n && decide (k = k2) && isGl sc k && okName k
    | _ => false
  | .raisD c f e, sc, s => match s with
    | .Raise (some (.Call (.Name x _) [e'] [] _)) none _ => decide (c = x) && isGl sc x && okName x && notStar e' && mE N e sc e'
    | _ => false
  | .tryX b c i h, sc, s => match s with
    | .Try body [.ExceptHandler (some (.Name x _)) (some n) [.Return (some e') _] _] [] [] _ => mSs N b sc body && decide (c = x) && isGl sc x && okName x && decide (N[i]? = some n) && decide (sc.names.lookup n = some .local) && okName n && hxS sc h (some n) e'
    | _ => false
def mSs (N : List Str) : Sms → Scope → List Stmt → Bool
  | .nil, _, l => l.isEmpty
  | .cons s ss, sc, l => match s with
    | .frz _ => mSs N ss sc l
    | .never => true
    | _ => (match l with
      | s' :: l' => mS N s sc s' && mSs N ss sc l'
      | [] => false)
end
mutual
def rqS : Sm → List Req
  | .pass => []
  | .exp e => rqE e
  | .ret e => rqE e
  | .set _ _ e => rqE e
  | .setT _ e => rqE e
  | .par _ es => rqEs es
  | .parO _ _ es => rqEs es
  | .aug _ _ e => rqE e
  | .ite c a b => rqE c ++ (rqSs a ++ rqSs b)
  | .whil c b => rqE c ++ rqSs b
  | .forr _ it b => rqI it ++ rqSs b
  | .brk => []
  | .cnt => []
  | .app _ e => rqE e
  | .popd _ => []
  | .popt _ _ => []
  | .setix _ k e => rqE k ++ rqE e
  | .setloc a k e => rqE a ++ rqE k ++ rqE e
  | .frz _ => []
  | .never => []
  | .clr _ => []
  | .rais c => [.exc c]
  | .dput _ k e => rqE k ++ rqE e
  | .tryR b c e => .exc c :: (rqSs b ++ rqE e)
  | .tryY b c _ k => .excIs c k :: .non "isinstance" :: rqSs b
  | .raisD c f e => .excD c f :: rqE e
  | .tryX b c _ h => .catch c h :: rqSs b
def rqSs : Sms → List Req
  | .nil => []
  | .cons s ss => rqS s ++ rqSs ss
end
end MP
/-! Statements: what holds between them. -/
namespace MP
open PySem PyProof.Rows L2 PySem.Spec
structure SCtx (X : Cx) (W : WX) (N : List Str) (sc : Scope) (lv : Nat) (T : List (Addr × Str)) : Prop where
  c : CtxOk X W N sc lv
  sce : X.env.scope = sc
  stk : X.stack = X.env :: X.outer
  frm : X.env.frame = some X.env.locals
  tl : TLs X.K X.mg X.base T
/-- where a statement is met: g0, H0 stand at the def's entry, zb, Hb at the loop's -/
structure SI (K : PySem.W.Frag) (g0 : G) (H0 : Hp) (zb : Addr → Prop) (Hb : Hp) (g : G) (H : Hp) (σ : L2.St) (env : Env) (st : Store) : Prop where
  s : Step g0 H0 g H
  ok : Ok K g H st
  en : EnvOk K g H σ env
  new : ∀ (i : Nat) (d : MP.D) (a : Addr), env[i]? = some (.own d) → σ[i]? = some (some (.ref a)) → H0 a = none
  h : Holds zb g.Z Hb H
def PostS (K : PySem.W.Frag) (mg : Str → Option Value) (W : WX) (g0 : G) (H0 : Hp) (zb : Addr → Prop) (Hb : Hp) (r : SR) (D : Ends) : Prop := match r with
  | .nx env st => ∀ g H σ, SI K g0 H0 zb Hb g H σ env st → D.nx σ H
  | .br env st => ∀ g H σ, SI K g0 H0 zb Hb g H σ env st → D.bk σ H
  | .ct env st => ∀ g H σ, SI K g0 H0 zb Hb g H σ env st → D.ct σ H
  | .rt x st => ∀ g H v, Step g0 H0 g H → Ok K g H st → ROut K false g H H0 v x → D.rt v H
  | .ex c ds env st => ∀ g H σ cls d, SI K g0 H0 zb Hb g H σ env st → ExcIs K mg g H c ds cls d → W cls d σ H
  | .no => False
section
variable {K : PySem.W.Frag} {mg : Str → Option Value} {W : WX} {g0 g g1 : G} {H0 Hb H H1 : Hp} {zb : Addr → Prop} {st st1 : Store} {σ : L2.St} {env env' : Env} {D D' : Ends}
theorem SI.step (i : SI K g0 H0 zb Hb g H σ env st) (s : Step g H g1 H1) (o : Ok K g1 H1 st1) : SI K g0 H0 zb Hb g1 H1 σ env st1 :=
  ⟨i.s.trans s, o, i.en.step s i.ok, i.new, i.h.trans (s.holds i.ok)⟩
theorem SI.at_ {X : Cx} {N : List Str} {sc : Scope} {lv : Nat} (c : SCtx X W N sc lv g0.T) (i : SI X.K g0 H0 zb Hb g H σ env st) : At X W N sc lv g H σ env st := ⟨c.c, i.ok, i.en, by rw [i.s.t]; exact c.tl⟩
theorem PostS.sr {α β : Type} {Rl : Hp → G → Hp → β → α → Prop} {r : R α} {f : α → Store → SR} {Q1 : β → Hp → Prop} (i : SI K g0 H0 zb Hb g H σ env st) (h : PostS K mg W g0 H0 zb Hb (r.sr env f) D)
    (k : ∀ x st1 g1 v H1, SI K g0 H0 zb Hb g1 H1 σ env st1 → Step g H g1 H1 → Rl H g1 H1 v x → PostS K mg W g0 H0 zb Hb (f x st1) D → Q1 v H1) : Post K mg (WS_ W σ) Rl g H r Q1 := by
  cases r with
  | ok x st1 => exact fun g1 v H1 s o q => k x st1 g1 v H1 (i.step s o) s q h
  | exc c ds st1 => exact fun g1 cls d H1 s o q => h g1 H1 σ cls d (i.step s o) q
  | no => exact h.elim
theorem PostS.dat {x : RV} {f : MP.D → Store → SR} (h : PostS K mg W g0 H0 zb Hb ((datOf x st).sr env f) D) : ∃ d, x.v = .dat d ∧ PostS K mg W g0 H0 zb Hb (f d st) D := by
  obtain ⟨fr, y⟩ := x
  cases y with
  | dat d => exact ⟨d, rfl, h⟩
  | loc n => exact h.elim
theorem PostS.int {x : RV} {f : Int → Store → SR} (h : PostS K mg W g0 H0 zb Hb ((intOf x st).sr env f) D) : ∃ d, x.v = .dat (.int d) ∧ PostS K mg W g0 H0 zb Hb (f d st) D := by
  obtain ⟨fr, y⟩ := x
  cases y with
  | dat d =>
    cases d <;> try exact h.elim
    exact ⟨_, rfl, h⟩
  | loc n => exact h.elim
theorem PostS.bool {x : RV} {f : Bool → Store → SR} (h : PostS K mg W g0 H0 zb Hb ((boolOf x st).sr env f) D) : ∃ d, x.v = .dat (.bool d) ∧ PostS K mg W g0 H0 zb Hb (f d st) D := by
  obtain ⟨fr, y⟩ := x
  cases y with
  | dat d =>
    cases d <;> try exact h.elim
    exact ⟨_, rfl, h⟩
  | loc n => exact h.elim
theorem PostS.cond {c : Bool} {x : SR} (h : PostS K mg W g0 H0 zb Hb (bif c then x else .no) D) : c = true ∧ PostS K mg W g0 H0 zb Hb x D := by
  cases c with
  | true => exact ⟨rfl, h⟩
  | false => exact h.elim
theorem PostS.mono {r : SR} (h : PostS K mg W g0 H0 zb Hb r D) (n : ∀ σ H, D.nx σ H → D'.nx σ H) (b : ∀ σ H, D.bk σ H → D'.bk σ H) (c : ∀ σ H, D.ct σ H → D'.ct σ H) (t : ∀ v H, D.rt v H → D'.rt v H) : PostS K mg W g0 H0 zb Hb r D' := by
  cases r with
  | nx e s => exact fun g H σ i => n _ _ (h g H σ i)
  | br e s => exact fun g H σ i => b _ _ (h g H σ i)
  | ct e s => exact fun g H σ i => c _ _ (h g H σ i)
  | rt e s => exact fun g H v i o q => t _ _ (h g H v i o q)
  | ex _ _ _ _ => exact h
  | no => exact h
theorem PostS.seq {x : SR} {f : Env → Store → SR} {N : L2.St → Hp → Prop} (h : PostS K mg W g0 H0 zb Hb (x.seq f) D) (k : ∀ env st g H σ, SI K g0 H0 zb Hb g H σ env st → PostS K mg W g0 H0 zb Hb (f env st) D → N σ H) : PostS K mg W g0 H0 zb Hb x { D with nx := N } := by
  cases x with
  | nx e s => exact fun g H σ i => k e s g H σ i h
  | br e s => exact h
  | ct e s => exact h
  | rt e s => exact h
  | ex _ _ _ _ => exact h
  | no => exact h
theorem PostS.turn {x : SR} {f : Env → Store → SR} {N : L2.St → Hp → Prop} (h : PostS K mg W g0 H0 zb Hb (turn x f) D) (k : ∀ env st g H σ, SI K g0 H0 zb Hb g H σ env st → PostS K mg W g0 H0 zb Hb (f env st) D → N σ H) :
    PostS K mg W g0 H0 zb Hb x { D with nx := N, ct := N, bk := D.nx } := by
  cases x with
  | nx e s => exact fun g H σ i => k e s g H σ i h
  | br e s => exact h
  | ct e s => exact fun g H σ i => k e s g H σ i h
  | rt e s => exact h
  | ex _ _ _ _ => exact h
  | no => exact h
/-- from a loop's beginning on -/
theorem PostS.rebase {r : SR} {zc : Addr → Prop} {Hc : Hp} (q : Holds zb zc Hb Hc) (h : PostS K mg W g0 H0 zb Hb r D) : PostS K mg W g0 H0 zc Hc r D := by
  have go : ∀ {g H σ env st}, SI K g0 H0 zc Hc g H σ env st → SI K g0 H0 zb Hb g H σ env st := fun i => ⟨i.s, i.ok, i.en, i.new, q.trans i.h⟩
  cases r with
  | nx e s => exact fun g H σ i => h g H σ (go i)
  | br e s => exact fun g H σ i => h g H σ (go i)
  | ct e s => exact fun g H σ i => h g H σ (go i)
  | rt e s => exact h
  | ex _ _ _ _ => exact fun g H σ cls d i => h g H σ cls d (go i)
  | no => exact h
theorem bind_sr {α β : Type} {r : R α} {f : α → Store → R β} {k : β → Store → SR} : (r.bind f).sr env k = r.sr env fun x st => (f x st).sr env k := by
  cases r <;> rfl
/-! ### slots -/
theorem set_other {i j : Nat} {s t : Slot} {d : MP.D} (hs : ∀ d, s ≠ .own d) (e : (List.set env i s)[j]? = some (.own d)) : i ≠ j ∧ env[j]? = some (.own d) := by
  by_cases h : i = j
  · subst h
    rw [List.getElem?_set] at e
    split at e
    · split at e
      · exact (hs d (Option.some.inj e)).elim
      · cases e
    · rename_i h
      exact absurd rfl h
  · rw [List.getElem?_set_ne h] at e
    exact ⟨h, e⟩
theorem SI.setVal {x : Val} {v : V} (i : Nat) (si : SI K g0 H0 zb Hb g H σ env st) (r : RVal K g H v x) : SI K g0 H0 zb Hb g H (σ.set i (some v)) (List.set env i (.val x)) st := by
  refine ⟨si.s, si.ok, si.en.setVal i r, fun j d a e1 e2 => ?_, si.h⟩
  obtain ⟨n, e1⟩ := set_other (t := .un) (fun _ h => by cases h) e1
  rw [List.getElem?_set_ne n] at e2
  exact si.new j d a e1 e2
theorem EnvOk.setOwn {d : MP.D} {a : Addr} (i : Nat) (en : EnvOk K g H σ env) (r : OwnAt K g H a d) (ap : ∀ j d', j ≠ i → env[j]? = some (.own d') → σ[j]? ≠ some (some (.ref a))) : EnvOk K g H (σ.set i (some (.ref a))) (List.set env i (.own d)) := by
  refine ⟨by rw [List.length_set, List.length_set]; exact en.len, fun j s y e1 e2 => ?_, fun j k d1 d2 b e1 e2 e3 e4 => ?_⟩
  · by_cases hj : i = j
    · subst hj
      have hi : i < env.length := by
        have q := (List.getElem?_eq_some_iff.mp e1).1
        rwa [List.length_set] at q
      rw [List.getElem?_set_self hi] at e1
      rw [List.getElem?_set_self (by rw [← en.len]; exact hi)] at e2
      cases e1
      cases e2
      exact ⟨a, rfl, r⟩
    · rw [List.getElem?_set_ne hj] at e1 e2
      exact en.at_ j s y e1 e2
  · have self : ∀ {l : Nat} {y : V}, l = i → (σ.set i (some (.ref a)))[l]? = some (some y) → y = .ref a := fun {l y} e q => by
      subst e
      rw [List.getElem?_set] at q
      split at q
      · split at q
        · cases q
          rfl
        · cases q
      · rename_i h
        exact absurd rfl h
    by_cases hj : j = i
    · by_cases hk : k = i
      · rw [hj, hk]
      · have eb := self hj e3
        cases eb
        rw [List.getElem?_set_ne (Ne.symm hk)] at e2 e4
        exact (ap k d2 hk e2 e4).elim
    · by_cases hk : k = i
      · have eb := self hk e4
        cases eb
        rw [List.getElem?_set_ne (Ne.symm hj)] at e1 e3
        exact (ap j d1 hj e1 e3).elim
      · rw [List.getElem?_set_ne (Ne.symm hj)] at e1 e3
        rw [List.getElem?_set_ne (Ne.symm hk)] at e2 e4
        exact en.apart j k d1 d2 b e1 e2 e3 e4
theorem SI.setOwn {d : MP.D} {a : Addr} (i : Nat) (si : SI K g0 H0 zb Hb g H σ env st) (r : OwnAt K g H a d) (ap : ∀ j d', j ≠ i → env[j]? = some (.own d') → σ[j]? ≠ some (some (.ref a))) (n : H0 a = none) :
    SI K g0 H0 zb Hb g H (σ.set i (some (.ref a))) (List.set env i (.own d)) st := by
  refine ⟨si.s, si.ok, si.en.setOwn i r ap, fun j d' b e1 e2 => ?_, si.h⟩
  by_cases h : i = j
  · subst h
    rw [List.getElem?_set] at e2
    split at e2
    · split at e2
      · cases e2
        exact n
      · cases e2
    · rename_i h
      exact absurd rfl h
  · rw [List.getElem?_set_ne h] at e1 e2
    exact si.new j d' b e1 e2
/-- the list in a slot of ours is changed -/
theorem SI.mut {i : Nat} {a : Addr} {d : MP.D} {us vs : List V} {ys : List MP.D} (si : SI K g0 H0 zb Hb g H σ env st) (e : env[i]? = some (.own d)) (es : σ[i]? = some (some (.ref a))) (ha : H a = some (.lst us)) (nz : ¬ g.Z a) (nr : a ∉ g.rho) (r : RDs K g.Z H vs ys) :
    SI K g0 H0 zb Hb g (upd H a (.lst vs)) σ (List.set env i (.own (.list ys))) st := by
  have hh := holds_own (u := .lst vs) ha nz
  have n0 := si.new i d a e es
  have en : EnvOk K g (upd H a (.lst vs)) σ (List.set env i (.own (.list ys))) := by
    refine ⟨by rw [List.length_set]; exact si.en.len, fun j s y e1 e2 => ?_, fun j k d1 d2 b e1 e2 e3 e4 => ?_⟩
    · by_cases hj : i = j
      · subst hj
        have hi : i < env.length := (List.getElem?_eq_some_iff.mp e).1
        rw [List.getElem?_set_self hi] at e1
        cases e1
        rw [es] at e2
        cases e2
        exact ⟨a, rfl, vs, upd_same, RDs.holds hh r, nz, nr⟩
      · rw [List.getElem?_set_ne hj] at e1
        have q := si.en.at_ j s y e1 e2
        cases s with
        | un => trivial
        | val v =>
          obtain ⟨w, ew, rw1⟩ := q
          exact ⟨w, ew, rw1.holds hh⟩
        | own d' =>
          obtain ⟨b, eb, ob⟩ := q
          subst eb
          have nb : b ≠ a := fun h => hj (si.en.apart i j d d' a e e1 es (h ▸ e2))
          refine ⟨b, rfl, ?_⟩
          cases d' <;> try exact ob.elim
          · obtain ⟨ws, e3, r3, q3⟩ := ob
            exact ⟨ws, by rw [upd_ne nb]; exact e3, RDs.holds hh r3, q3⟩
          · obtain ⟨ws, e3, r3, q3⟩ := ob
            exact ⟨ws, by rw [upd_ne nb]; exact e3, RKs.holds hh r3, q3⟩
    · have back : ∀ {l : Nat} {d' : MP.D}, (List.set env i (.own (.list ys)))[l]? = some (.own d') → ∃ d'', env[l]? = some (.own d'') := fun {l d'} q => by
        by_cases hl : i = l
        · subst hl
          exact ⟨d, e⟩
        · rw [List.getElem?_set_ne hl] at q
          exact ⟨d', q⟩
      obtain ⟨_, f1⟩ := back e1
      obtain ⟨_, f2⟩ := back e2
      exact si.en.apart j k _ _ b f1 f2 e3 e4
  refine ⟨si.s.upd_new n0, si.ok.own ha nz nr, en, fun j d' b e1 e2 => ?_, si.h.trans hh⟩
  by_cases h : i = j
  · subst h
    exact si.new i d b e e2
  · rw [List.getElem?_set_ne h] at e1
    exact si.new j d' b e1 e2
/-- the dict in a slot of ours is changed -/
theorem SI.mutD {i : Nat} {a : Addr} {d : MP.D} {us vs : List (Key × V)} {ys : List (MP.D × MP.D)} (si : SI K g0 H0 zb Hb g H σ env st) (e : env[i]? = some (.own d)) (es : σ[i]? = some (some (.ref a))) (ha : H a = some (.dK us)) (nz : ¬ g.Z a) (nr : a ∉ g.rho) (r : RKs K g.Z H vs ys) :
    SI K g0 H0 zb Hb g (upd H a (.dK vs)) σ (List.set env i (.own (.dict ys))) st := by
  have hh := holds_ownD (u := .dK vs) ha nz
  have n0 := si.new i d a e es
  have en : EnvOk K g (upd H a (.dK vs)) σ (List.set env i (.own (.dict ys))) := by
    refine ⟨by rw [List.length_set]; exact si.en.len, fun j s y e1 e2 => ?_, fun j k d1 d2 b e1 e2 e3 e4 => ?_⟩
    · by_cases hj : i = j
      · subst hj
        have hi : i < env.length := (List.getElem?_eq_some_iff.mp e).1
        rw [List.getElem?_set_self hi] at e1
        cases e1
        rw [es] at e2
        cases e2
        exact ⟨a, rfl, vs, upd_same, RKs.holds hh r, nz, nr⟩
      · rw [List.getElem?_set_ne hj] at e1
        have q := si.en.at_ j s y e1 e2
        cases s with
        | un => trivial
        | val v =>
          obtain ⟨w, ew, rw1⟩ := q
          exact ⟨w, ew, rw1.holds hh⟩
        | own d' =>
          obtain ⟨b, eb, ob⟩ := q
          subst eb
          have nb : b ≠ a := fun h => hj (si.en.apart i j d d' a e e1 es (h ▸ e2))
          refine ⟨b, rfl, ?_⟩
          cases d' <;> try exact ob.elim
          · obtain ⟨ws, e3, r3, q3⟩ := ob
            exact ⟨ws, by rw [upd_ne nb]; exact e3, RDs.holds hh r3, q3⟩
          · obtain ⟨ws, e3, r3, q3⟩ := ob
            exact ⟨ws, by rw [upd_ne nb]; exact e3, RKs.holds hh r3, q3⟩
    · have back : ∀ {l : Nat} {d' : MP.D}, (List.set env i (.own (.dict ys)))[l]? = some (.own d') → ∃ d'', env[l]? = some (.own d'') := fun {l d'} q => by
        by_cases hl : i = l
        · subst hl
          exact ⟨d, e⟩
        · rw [List.getElem?_set_ne hl] at q
          exact ⟨d', q⟩
      obtain ⟨_, f1⟩ := back e1
      obtain ⟨_, f2⟩ := back e2
      exact si.en.apart j k _ _ b f1 f2 e3 e4
  refine ⟨si.s.upd_new n0, si.ok.ownD ha nz nr, en, fun j d' b e1 e2 => ?_, si.h.trans hh⟩
  by_cases h : i = j
  · subst h
    exact si.new i d b e e2
  · rw [List.getElem?_set_ne h] at e1
    exact si.new j d' b e1 e2
/-- .. is frozen -/
theorem SI.frz {i : Nat} {d : MP.D} (si : SI K g0 H0 zb Hb g H σ env st) (e : env[i]? = some (.own d)) : ∃ g', SI K g0 H0 zb Hb g' H σ (List.set env i (.val (.dat d))) st := by
  obtain ⟨x, ex, so⟩ := si.en.slot e
  obtain ⟨a, rfl, oa⟩ := so
  have n0 := si.new i d a e ex
  have ok' := si.ok.add oa.nz.2 oa.ne
  have hi : i < env.length := (List.getElem?_eq_some_iff.mp e).1
  refine ⟨g.add a, si.s.add n0, ok', ⟨by rw [List.length_set]; exact si.en.len, fun j s y e1 e2 => ?_, fun j k d1 d2 b e1 e2 e3 e4 => ?_⟩, fun j d' b e1 e2 => ?_, si.h.trans holds_add⟩
  · by_cases hj : i = j
    · subst hj
      rw [List.getElem?_set_self hi] at e1
      cases e1
      rw [ex] at e2
      cases e2
      exact ⟨_, rfl, oa.frozen⟩
    · rw [List.getElem?_set_ne hj] at e1
      have q := si.en.at_ j s y e1 e2
      cases s with
      | un => trivial
      | val v =>
        obtain ⟨w, ew, rw1⟩ := q
        exact ⟨w, ew, rval_add rw1⟩
      | own d' =>
        obtain ⟨b, eb, ob⟩ := q
        subst eb
        have nb : b ≠ a := fun h => hj (si.en.apart i j d d' a e e1 ex (h ▸ e2))
        refine ⟨b, rfl, ?_⟩
        cases d' <;> try exact ob.elim
        · obtain ⟨ws, e3, r3, q3⟩ := ob
          exact ⟨ws, e3, RDs.holds holds_add r3, fun z => z.elim q3.1 nb, q3.2⟩
        · obtain ⟨ws, e3, r3, q3⟩ := ob
          exact ⟨ws, e3, RKs.holds holds_add r3, fun z => z.elim q3.1 nb, q3.2⟩
  · obtain ⟨_, e1⟩ := set_other (t := .un) (fun _ h => by cases h) e1
    obtain ⟨_, e2⟩ := set_other (t := .un) (fun _ h => by cases h) e2
    exact si.en.apart j k d1 d2 b e1 e2 e3 e4
  · obtain ⟨_, e1⟩ := set_other (t := .un) (fun _ h => by cases h) e1
    exact si.new j d' b e1 e2
end
end MP
/-! Statements: the model does what is reckoned. -/
namespace MP
open PySem PyProof.Rows L2 PySem.Spec
def SimS (m : Sm) : Prop := ∀ {X : Cx} {W : WX} {N : List Str} {sc : Scope} {lv : Nat} {g0 g : G} {H0 Hb H : Hp} {zb : Addr → Prop} {σ : L2.St} {env : Env} {st : Store} (s : Stmt) (D : Ends), SCtx X W N sc lv g0.T → SI X.K g0 H0 zb Hb g H σ env st →
  mS N m sc s = true → Rqs X lv (rqS m) → PostS X.K X.mg W g0 H0 zb Hb (evS m env st) D → WS X s D σ H
def SimSs (m : Sms) : Prop := ∀ {X : Cx} {W : WX} {N : List Str} {sc : Scope} {lv : Nat} {g0 g : G} {H0 Hb H : Hp} {zb : Addr → Prop} {σ : L2.St} {env : Env} {st : Store} (s : List Stmt) (D : Ends), SCtx X W N sc lv g0.T → SI X.K g0 H0 zb Hb g H σ env st →
  mSs N m sc s = true → Rqs X lv (rqSs m) → PostS X.K X.mg W g0 H0 zb Hb (evSs m env st) D → WSs X s D σ H
theorem SCtx.hk {X : Cx} {W : WX} {N : List Str} {sc : Scope} {lv : Nat} {T : List (Addr × Str)} (c : SCtx X W N sc lv T) : X.env.scope.kind = .function := by rw [c.sce]; exact c.c.kind
theorem sims_pass : SimS .pass := by
  intro X W N sc lv g0 g H0 Hb H zb σ env st s D c si hm hr h
  have h : ∀ g H σ, SI X.K g0 H0 zb Hb g H σ env st → D.nx σ H := h
  cases s <;> try exact no_false hm
  · rename_i e p
    cases e <;> try exact no_false hm
    rename_i k j q
    cases k <;> try exact no_false hm
    exact WS.of ps_doc (h g H σ si)
  · exact WS.of ps_pass (h g H σ si)
theorem sims_brk : SimS .brk := by
  intro X W N sc lv g0 g H0 Hb H zb σ env st s D c si hm hr h
  have h : ∀ g H σ, SI X.K g0 H0 zb Hb g H σ env st → D.bk σ H := h
  cases s <;> try exact no_false hm
  exact WS.of ps_break (h g H σ si)
theorem sims_cnt : SimS .cnt := by
  intro X W N sc lv g0 g H0 Hb H zb σ env st s D c si hm hr h
  have h : ∀ g H σ, SI X.K g0 H0 zb Hb g H σ env st → D.ct σ H := h
  cases s <;> try exact no_false hm
  exact WS.of ps_continue (h g H σ si)
theorem sims_never : SimS .never := fun {X W N sc lv g0 g H0 Hb H zb σ env st} s D c si hm hr h => h.elim
theorem sims_exp {e : Ex} (he : SimE e) : SimS (.exp e) := by
  intro X W N sc lv g0 g H0 Hb H zb σ env st s D c si hm hr h
  cases s <;> try exact no_false hm
  rename_i e' p
  obtain ⟨h1, h2⟩ := cond_true hm
  refine WS.of (ps_expr pe_we (sw_none h1)) (he e' true _ (si.at_ c) h2 hr (PostS.sr si h fun x st1 g1 v H1 i1 s1 r1 h1 => ?_))
  exact h1 g1 H1 σ i1
theorem step_val {K : PySem.W.Frag} {g0 g g1 : G} {H0 Hb H H1 : Hp} {zb : Addr → Prop} {st1 : Store} {σ : L2.St} {env : Env} {st : Store} {v : V} {x : RV} (si : SI K g0 H0 zb Hb g H σ env st) (i1 : SI K g0 H0 zb Hb g1 H1 σ env st1) (s1 : Step g H g1 H1) (r : ROut K false g1 H1 H v x) :
    ∃ g2, SI K g0 H0 zb Hb g2 H1 σ env st1 ∧ RVal K g2 H1 v x.v := by
  obtain ⟨g2, s2, o2, r2⟩ := r.frozenV s1 i1.ok
  exact ⟨g2, si.step s2 o2, r2⟩
theorem sims_ret {e : Ex} (he : SimE e) : SimS (.ret e) := by
  intro X W N sc lv g0 g H0 Hb H zb σ env st s D c si hm hr h
  cases s <;> try exact no_false hm
  rename_i o p
  -- the plain road
  have go : ∀ e', mE N e sc e' = true → PostS X.K X.mg W g0 H0 zb Hb ((evE e false env st).sr env fun x st => .rt x st) D → WS X (.Return (some e') p) D σ H := by
    intro e' hm h
    refine WS.of (ps_ret pe_we) (he e' false _ (si.at_ c) hm hr (PostS.sr si h fun x st1 g1 v H1 i1 s1 r1 h1 => ?_))
    exact h1 g1 H1 v i1.s i1.ok (based_e _ _ _ _ _ _ (fun a ha => si.s.gone a ha) r1)
  cases o with
  | none =>
    cases e <;> try exact no_false hm
    rename_i l
    cases l <;> try exact no_false hm
    refine WS.of ps_retN ?_
    exact h g H .non si.s si.ok .none
  | some e' =>
    have hm : mE N e sc e' = true := hm
    cases e with
    | var i =>
      cases hs : env[i]? with
      | none =>
        refine go e' hm ?_
        simp only [evS, hs] at h
        exact h
      | some sl =>
        cases sl with
        | un =>
          refine go e' hm ?_
          simp only [evS, hs] at h
          exact h
        | val v =>
          refine go e' hm ?_
          simp only [evS, hs] at h
          exact h
        | own d =>
          simp only [evS, hs] at h
          obtain ⟨x, ex, so⟩ := si.en.slot hs
          obtain ⟨a, rfl, oa⟩ := so
          cases e' with
          | Name x pos =>
            obtain ⟨hm, h3⟩ := cond_true (show (decide (N[i]? = some x) && isVis sc x && okName x) = true from hm)
            obtain ⟨h1, h2⟩ := cond_true hm
            have h1 : N[i]? = some x := of_decide_eq_true h1
            have hd := okName_debug h3
            refine WS.of (ps_ret (pe_var (by rw [c.c.eN]; exact h1) (c.c.vis h2) hd.1 hd.2.1)) ⟨_, ex, ?_⟩
            exact h g H _ si.s si.ok ⟨a, rfl, si.new i d a hs ex, oa⟩
          | _ => exact no_false hm
    | _ => exact go e' hm h
theorem comp2_inv {N : List Str} {sc : Scope} {elt : Ex} {own own1 : List (Str × Nat)} {tg tg1 : Tg} {it it1 : MP.It} {ifs ifs1 : Opt} {e : Expr} (h : mE N (.comp2 elt own tg it ifs own1 tg1 it1 ifs1) sc e = true) :
    ∃ elt' tg' it' ifs' tg1' it1' ifs1' scope pos, e = .ListComp elt' [⟨tg', it', ifs', 0⟩, ⟨tg1', it1', ifs1', 0⟩] scope pos ∧ blkC N sc scope own = true ∧ mTg N tg scope tg' = true ∧ notSet it' = true ∧ notSet it1' = true ∧ mI N it sc tg' it' = true ∧ mC N ifs scope ifs' = true ∧ mTg N tg1 scope tg1' = true ∧
      mI N it1 scope tg1' it1' = true ∧ mC N ifs1 scope ifs1' = true ∧ mE N elt scope elt' = true ∧ tgIn tg (own.map (·.2)) = true ∧ tgIn tg1 (own1.map (·.2)) = true ∧ own1.all (fun x => own.any fun y => y.2 == x.2) = true := by
  cases e <;> try exact no_false h
  rename_i elt' gs scope pos
  rcases gs with _ | ⟨⟨tg', it', ifs', n⟩, _ | ⟨⟨tg1', it1', ifs1', n1⟩, _ | ⟨_, _⟩⟩⟩ <;> try exact no_false h
  obtain ⟨hm, hv⟩ := cond_true h
  obtain ⟨hm, h81⟩ := cond_true hm
  obtain ⟨hm, h8⟩ := cond_true hm
  obtain ⟨hm, h7⟩ := cond_true hm
  obtain ⟨hm, h61⟩ := cond_true hm
  obtain ⟨hm, h51⟩ := cond_true hm
  obtain ⟨hm, h31⟩ := cond_true hm
  obtain ⟨hm, h6⟩ := cond_true hm
  obtain ⟨hm, h5⟩ := cond_true hm
  obtain ⟨hm, h41⟩ := cond_true hm
  obtain ⟨hm, h40⟩ := cond_true hm
  obtain ⟨hm, h30⟩ := cond_true hm
  obtain ⟨hm, h20⟩ := cond_true hm
  obtain ⟨h10, h11⟩ := cond_true hm
  have h10 : n = 0 := of_decide_eq_true h10
  have h11 : n1 = 0 := of_decide_eq_true h11
  subst h10 h11
  exact ⟨_, _, _, _, _, _, _, _, _, rfl, h20, h30, h40, h41, h5, h6, h31, h51, h61, h7, h8, h81, hv⟩
theorem sims_set {i : Nat} {own : Bool} {e : Ex} (he : SimE e) (hlc : ∀ elt ow tg it ifs, e = .comp elt ow tg it ifs → SimE elt ∧ SimI it ∧ SimC ifs) (hlc2 : ∀ elt ow tg it ifs ow1 tg1 it1 ifs1, e = .comp2 elt ow tg it ifs ow1 tg1 it1 ifs1 → SimE elt ∧ SimI it ∧ SimC ifs ∧ SimI it1 ∧ SimC ifs1) : SimS (.set i own e) := by
  intro X W N sc lv g0 g H0 Hb H zb σ env st s D c si hm hr h
  cases s <;> try exact no_false hm
  rename_i ts e' p
  rcases ts with _ | ⟨t, _ | ⟨_, _⟩⟩ <;> (try exact no_false hm) <;> cases t <;> try exact no_false hm
  rename_i y py
  obtain ⟨hm, h4⟩ := cond_true hm
  obtain ⟨hm, h3⟩ := cond_true hm
  obtain ⟨h1, h2⟩ := cond_true hm
  have h1 : N[i]? = some y := of_decide_eq_true h1
  have hl := c.c.loc h2
  have hN : X.N.Nodup := by rw [c.c.eN]; exact c.c.nd
  have hi : X.N[i]? = some y := by rw [c.c.eN]; exact h1
  have fin : Post X.K X.mg (WS_ W σ) (relE X.K false) g H (evE e false env st) (fun v H1 => gName i v σ H1 D.nx) := by
    refine PostS.sr si (show PostS X.K X.mg W g0 H0 zb Hb ((evE e false env st).sr env fun x st => bif own then (match x with
        | ⟨true, .dat d⟩ => .nx (List.set env i (.own d)) st
        | _ => .no) else .nx (List.set env i (.val x.v)) st) D from h) fun x st1 g1 v H1 i1 s1 r1 h1 => ?_
    cases own with
    | false =>
      have h1 : ∀ g H σ, SI X.K g0 H0 zb Hb g H σ (List.set env i (.val x.v)) st1 → D.nx σ H := h1
      obtain ⟨g2, i2, r2⟩ := step_val si i1 s1 r1
      exact h1 g2 H1 _ (i2.setVal i r2)
    | true =>
      obtain ⟨fr, x⟩ := x
      cases fr <;> cases x <;> try exact h1.elim
      rename_i d
      have h1 : ∀ g H σ, SI X.K g0 H0 zb Hb g H σ (List.set env i (.own d)) st1 → D.nx σ H := h1
      obtain ⟨a, rfl, na, oa⟩ := r1
      refine h1 g1 H1 _ (i1.setOwn i oa (fun j d' hj e1 e2 => ?_) (si.s.gone a na))
      obtain ⟨z, ez, so⟩ := si.en.slot e1
      obtain ⟨b, rfl, ob⟩ := so
      rw [e2] at ez
      cases ez
      exact ob.ne na
  cases hsw : swB sc y py e' with
  | false =>
    refine WS.of (ps_set hN hi hl.1 pe_we (by rw [sw_name c.hk, c.sce, hsw]) hl.2) ?_
    exact he e' false _ (si.at_ c) h3 hr fin
  | true =>
    rw [hsw] at h4
    cases e <;> try exact no_false h4
    · rename_i elt ow tg it ifs
      obtain ⟨a1, a2, a3⟩ := hlc _ _ _ _ _ rfl
      cases e' <;> try exact no_false h3
      rename_i elt' gs scope pos
      rcases gs with _ | ⟨⟨tg', it', ifs', n⟩, _ | ⟨_, _⟩⟩ <;> try exact no_false h3
      obtain ⟨hm, h18⟩ := cond_true h3
      obtain ⟨hm, h17⟩ := cond_true hm
      obtain ⟨hm, h16⟩ := cond_true hm
      obtain ⟨hm, h15⟩ := cond_true hm
      obtain ⟨hm, h14⟩ := cond_true hm
      obtain ⟨hm, h13⟩ := cond_true hm
      obtain ⟨h11, h12⟩ := cond_true hm
      have h11 : n = 0 := of_decide_eq_true h11
      subst h11
      have hfold : ∀ x, foldedSetIterable it' X.env x = pure x := by
        intro x
        cases it' <;> first | rfl | exact no_false h14
      have hloc : X.env.scope.names.lookup y = some .local := by
        rw [c.sce]
        have q := (cond_true (cond_true (show (sc.names.lookup y == some .local && py.line == pos.line && !(scope.names.any fun (n, k) => n == y && (k == .local || k == .cell))) = true from hsw)).1).1
        exact eq_of_beq q
      refine WS.of (ps_setLc c.c.calm hN hi hloc (by rw [sw_name c.hk, c.sce, hsw]) pi_wi (blk_ok c.c h12) pg_gB (pt_tB h16) pe_eB hfold) ?_
      exact lc_ok a1 a2 a3 false _ (si.at_ c) h12 h13 h15 h16 h17 h18 hr fin
    · rename_i elt own0 tg it ifs own1 tg1 it1 ifs1 _
      obtain ⟨a1, a2, a3, a4, a5⟩ := hlc2 _ _ _ _ _ _ _ _ _ rfl
      obtain ⟨elt', tg', it', ifs', tg1', it1', ifs1', scope, pos, rfl, h20, h30, h40, h41, h5, h6, h31, h51, h61, h7, h8, h81, hv⟩ := comp2_inv h3
      have hfold : ∀ x, foldedSetIterable it' X.env x = pure x := by
        intro x
        cases it' <;> first | rfl | exact no_false h40
      have hfold1 : ∀ env x, foldedSetIterable it1' env x = pure x := by
        intro env x
        cases it1' <;> first | rfl | exact no_false h41
      have hv' : ∀ i ∈ own1.map (·.2), i ∈ own0.map (·.2) := by
        intro i hi
        obtain ⟨x, hx, rfl⟩ := List.mem_map.mp hi
        have q := List.all_eq_true.mp hv x hx
        obtain ⟨y, hy, e⟩ := List.any_eq_true.mp q
        exact List.mem_map.mpr ⟨y, hy, by simpa using e⟩
      have hloc : X.env.scope.names.lookup y = some .local := by
        rw [c.sce]
        have q := (cond_true (cond_true (show (sc.names.lookup y == some .local && py.line == pos.line && !(scope.names.any fun (n, k) => n == y && (k == .local || k == .cell))) = true from hsw)).1).1
        exact eq_of_beq q
      refine WS.of (ps_setLc2 c.c.calm hN hi hloc (by rw [sw_name c.hk, c.sce, hsw]) pi_wi (blk_ok c.c h20) hv' pg_gB (pt_tB h6) pi_iB pg_gB (pt_tB h61) pe_eB hfold hfold1) ?_
      exact lc2_ok a1 a2 a3 a4 a5 false _ (si.at_ c) h20 h30 h5 h6 h31 h51 h61 h7 h8 h81 hr fin
end MP
/-! Statements: the model does what is reckoned. -/
namespace MP
open PySem PyProof.Rows L2 PySem.Spec
mutual
def tgSlots : Tg → List Nat
  | .nm i => [i]
  | .tup ts => tgsSlots ts
def tgsSlots : Tgs → List Nat
  | .nil => []
  | .cons t ts => tgSlots t ++ tgsSlots ts
end
mutual
theorem tgIn_slots : ∀ (t : Tg) {vs : List Nat}, (∀ i ∈ tgSlots t, i ∈ vs) → tgIn t vs = true
  | .nm i, vs, h => List.contains_iff_mem.mpr (h i (List.mem_singleton.mpr rfl))
  | .tup ts, vs, h => tgsIn_slots ts h
theorem tgsIn_slots : ∀ (t : Tgs) {vs : List Nat}, (∀ i ∈ tgsSlots t, i ∈ vs) → tgsIn t vs = true
  | .nil, vs, h => rfl
  | .cons t ts, vs, h => Bool.and_eq_true_iff.mpr ⟨tgIn_slots t fun i hi => h i (List.mem_append_left _ hi), tgsIn_slots ts fun i hi => h i (List.mem_append_right _ hi)⟩
end
mutual
theorem own_bind : ∀ (t : Tg) {d : MP.D} {env env' : Env} {j : Nat} {x : MP.D}, bindTg t d env = some env' → env'[j]? = some (.own x) → j ∉ tgSlots t ∧ env[j]? = some (.own x)
  | .nm i, d, env, env', j, x, h, e => by
    have h : some (List.set env i (.val (.dat d))) = some env' := h
    cases h
    obtain ⟨n, e⟩ := set_other (t := .un) (fun _ h => by cases h) e
    exact ⟨fun q => n (List.mem_singleton.mp q).symm, e⟩
  | .tup ts, d, env, env', j, x, h, e => by
    cases d <;> try exact no_some h
    · exact owns_bind ts h e
    · exact owns_bind ts h e
theorem owns_bind : ∀ (t : Tgs) {d : List MP.D} {env env' : Env} {j : Nat} {x : MP.D}, bindTgs t d env = some env' → env'[j]? = some (.own x) → j ∉ tgsSlots t ∧ env[j]? = some (.own x)
  | .nil, d, env, env', j, x, h, e => by
    cases d <;> try exact no_some h
    have h : some env = some env' := h
    cases h
    exact ⟨List.not_mem_nil, e⟩
  | .cons t ts, d, env, env', j, x, h, e => by
    cases d <;> try exact no_some h
    rename_i d ds
    have h : (match bindTg t d env with | some env' => bindTgs ts ds env' | none => none) = some env' := h
    cases h1 : bindTg t d env with
    | none =>
      rw [h1] at h
      exact no_some h
    | some env1 =>
      rw [h1] at h
      obtain ⟨n2, e2⟩ := owns_bind ts h e
      obtain ⟨n1, e1⟩ := own_bind t h1 e2
      exact ⟨fun q => (List.mem_append.mp q).elim n1 n2, e1⟩
end
theorem wipe_get {σ : L2.St} {j : Nat} : ∀ {vs : List Nat}, j ∉ vs → (L2.wipe σ vs)[j]? = σ[j]?
  | [], _ => rfl
  | v :: vs, h => by
    show ((L2.wipe σ vs).set v none)[j]? = _
    rw [List.getElem?_set_ne (fun e => h (by rw [e]; exact List.mem_cons_self)), wipe_get fun q => h (List.mem_cons_of_mem _ q)]
section
variable {K : PySem.W.Frag} {g0 g : G} {H0 Hb H : Hp} {zb : Addr → Prop} {st : Store} {σ : L2.St} {env env' : Env}
/-- a target's slots are stored -/
theorem si_tg {X : Cx} {W : WX} {N : List Str} {sc : Scope} {lv : Nat} {t : Tg} {e : Expr} {v : V} {d : MP.D} {Q : L2.St → Hp → Prop} (c : CtxOk X W N sc lv) (si : SI X.K g0 H0 zb Hb g H σ env st) (hm : mTg N t sc e = true) (r : RD X.K g.Z H v d) (hb : bindTg t d env = some env')
    (q : ∀ σ', SI X.K g0 H0 zb Hb g H σ' env' st → Q σ' H) : WG X e v σ H Q := by
  refine tg_ok c (tgSlots t) t hm si.en r hb fun σ' en' w => q σ' ⟨si.s, si.ok, en', fun i d a e1 e2 => ?_, si.h⟩
  obtain ⟨n, e3⟩ := own_bind t hb e1
  have w := w (tgIn_slots t fun _ h => h)
  refine si.new i d a e3 ?_
  have q1 : (L2.wipe σ (tgSlots t))[i]? = σ[i]? := wipe_get n
  have q2 : (L2.wipe σ' (tgSlots t))[i]? = σ'[i]? := wipe_get n
  rw [← q1, ← w, q2]
  exact e2
end
theorem sole_tuple {env : PySem.Env} {e : Expr} {ts : List Expr} {k : Nat} {p : Pos} {l : Nat} : swapsWithSole [.Tuple ts k p] e l env = pure false := sw_tuple (env := env) (e := e) (ts := ts) (k := k) (p := p) (l := l)
theorem sims_setT {ts : Tgs} {e : Ex} (he : SimE e) : SimS (.setT ts e) := by
  intro X W N sc lv g0 g H0 Hb H zb σ env st s D c si hm hr h
  cases s <;> try exact no_false hm
  rename_i us e' p
  rcases us with _ | ⟨t, _ | ⟨_, _⟩⟩ <;> (try exact no_false hm) <;> cases t <;> try exact no_false hm
  rename_i es k tp
  obtain ⟨hm, h3⟩ := cond_true hm
  obtain ⟨hT, h2⟩ := cond_true hm
  have h3 : ssB sc (.Tuple es k tp) e' = some none := of_decide_eq_true h3
  have hw : swappedStores [.Tuple es k tp] e' X.env = pure none := ss_ok c.hk (by rw [c.sce]; exact h3)
  refine WS.of (ps_asg pe_we pg_wg sole_tuple hw) ?_
  refine he e' false _ (si.at_ c) h2 hr (PostS.sr si h fun x st1 g1 v H1 i1 s1 r1 h1 => ?_)
  obtain ⟨d, ed, h1⟩ := h1.dat
  obtain ⟨g2, i2, r2⟩ := step_val si i1 s1 r1
  rw [ed] at r2
  cases hb : bindTg (.tup ts) d env with
  | none =>
    rw [hb] at h1
    exact h1.elim
  | some env' =>
    rw [hb] at h1
    exact si_tg (t := .tup ts) c.c i2 (show mTg N (.tup ts) sc (.Tuple es k tp) = true from hT) r2 hb fun σ' i3 => h1 g2 H1 σ' i3
theorem sims_par {ts : List Nat} {es : Exs} (hs : SimA es) : SimS (.par ts es) := by
  intro X W N sc lv g0 g H0 Hb H zb σ env st s D c si hm hr h
  cases s <;> try exact no_false hm
  rename_i us e' p
  rcases us with _ | ⟨t, _ | ⟨_, _⟩⟩ <;> (try exact no_false hm) <;> cases t <;> (try exact no_false hm) <;> cases e' <;> try exact no_false hm
  rename_i tl k tp vs k2 p2
  obtain ⟨h0, hm⟩ := cond_true hm
  have hN : X.N.Nodup := by rw [c.c.eN]; exact c.c.nd
  have run : ∀ (Q : List V → Hp → Prop), (∀ g1 H1 ds st1 us, SI X.K g0 H0 zb Hb g1 H1 σ env st1 → RDs X.K g1.Z H1 us ds → PostS X.K X.mg W g0 H0 zb Hb (match putVals ts ds env with
    | some env' => .nx env' st1
    | none => .no) D → Q us H1) → WA X vs σ H Q := fun Q q => hs vs Q (si.at_ c) h0 hr (PostS.sr si h fun ds st1 g1 us H1 i1 s1 r1 h1 => q g1 H1 ds st1 us i1 r1 h1)
  rcases ts with _ | ⟨i, _ | ⟨j, _ | ⟨l, _ | ⟨_, _⟩⟩⟩⟩ <;> try exact no_false hm
  · rcases tl with _ | ⟨t1, _ | ⟨t2, _ | ⟨_, _⟩⟩⟩ <;> (try (cases t1 <;> exact no_false hm)) <;> (try exact no_false hm) <;> cases t1 <;> (try exact no_false hm) <;> cases t2 <;> (try exact no_false hm)
    rename_i x px y py
    obtain ⟨hm, h7⟩ := cond_true hm
    obtain ⟨hm, h6⟩ := cond_true hm
    obtain ⟨hm, h5⟩ := cond_true hm
    obtain ⟨hm, h4⟩ := cond_true hm
    obtain ⟨hm, h3⟩ := cond_true hm
    obtain ⟨h1, h2⟩ := cond_true hm
    have h1 := of_decide_eq_true h1
    have h2 := of_decide_eq_true h2
    have h3 := of_decide_eq_true h3
    have h4 := of_decide_eq_true h4
    have h5 := of_decide_eq_true h5
    have h6 := of_decide_eq_true h6
    have h7 := of_decide_eq_true h7
    rcases vs with _ | ⟨a, _ | ⟨b, _ | ⟨_, _⟩⟩⟩ <;> try (cases h1)
    refine WS.of (ps_par c.c.calm hN (by rw [c.c.eN]; exact h2) (by rw [c.c.eN]; exact h3) h4 (by rw [c.sce]; exact h5) (by rw [c.sce]; exact h6) pa_wa (ss_ok c.hk (by rw [c.sce]; exact h7)) sole_tuple) ?_
    refine run _ fun g1 H1 ds st1 us i1 r1 h1 => ?_
    rcases ds with _ | ⟨d1, _ | ⟨d2, _ | ⟨_, _⟩⟩⟩ <;> try exact h1.elim
    obtain _ | ⟨r1, _ | ⟨r2, _⟩⟩ := r1
    rename_i v w us hus
    cases hus
    exact ⟨v, w, rfl, h1 g1 H1 _ ((i1.setVal (x := .dat d1) i r1).setVal (x := .dat d2) j r2)⟩
  · rcases tl with _ | ⟨t1, _ | ⟨t2, _ | ⟨t3, _ | ⟨_, _⟩⟩⟩⟩ <;> (try exact no_false hm) <;> cases t1 <;> (try exact no_false hm) <;> cases t2 <;> (try exact no_false hm) <;> cases t3 <;> (try exact no_false hm)
    rename_i x px y py z pz
    obtain ⟨hm, h11⟩ := cond_true hm
    obtain ⟨hm, h10⟩ := cond_true hm
    obtain ⟨hm, h9⟩ := cond_true hm
    obtain ⟨hm, h8⟩ := cond_true hm
    obtain ⟨hm, h7⟩ := cond_true hm
    obtain ⟨hm, h6⟩ := cond_true hm
    obtain ⟨hm, h5⟩ := cond_true hm
    obtain ⟨hm, h4⟩ := cond_true hm
    obtain ⟨hm, h3⟩ := cond_true hm
    obtain ⟨h1, h2⟩ := cond_true hm
    have h1 := of_decide_eq_true h1
    have h2 := of_decide_eq_true h2
    have h3 := of_decide_eq_true h3
    have h4 := of_decide_eq_true h4
    have h5 := of_decide_eq_true h5
    have h6 := of_decide_eq_true h6
    have h7 := of_decide_eq_true h7
    have h8 := of_decide_eq_true h8
    have h9 := of_decide_eq_true h9
    have h10 := of_decide_eq_true h10
    have h11 := of_decide_eq_true h11
    rcases vs with _ | ⟨a, _ | ⟨b, _ | ⟨b3, _ | ⟨_, _⟩⟩⟩⟩ <;> try (cases h1)
    refine WS.of (ps_par3 c.c.calm hN (by rw [c.c.eN]; exact h2) (by rw [c.c.eN]; exact h3) (by rw [c.c.eN]; exact h4) h5 h6 h7 (by rw [c.sce]; exact h8) (by rw [c.sce]; exact h9) (by rw [c.sce]; exact h10) pa_wa (ss_ok c.hk (by rw [c.sce]; exact h11)) sole_tuple) ?_
    refine run _ fun g1 H1 ds st1 us i1 r1 h1 => ?_
    rcases ds with _ | ⟨d1, _ | ⟨d2, _ | ⟨d3, _ | ⟨_, _⟩⟩⟩⟩ <;> try exact h1.elim
    obtain _ | ⟨r1, _ | ⟨r2, _ | ⟨r3, _⟩⟩⟩ := r1
    rename_i u v w us hus
    cases hus
    exact ⟨_, _, _, rfl, h1 g1 H1 _ (((i1.setVal (x := .dat d1) i r1).setVal (x := .dat d2) j r2).setVal (x := .dat d3) l r3)⟩
/-! ### new lists stored by a tuple of targets -/
inductive RSl (K : PySem.W.Frag) (g : G) (H H0 : Hp) : List V → List Slot → Prop
  | nil : RSl K g H H0 [] []
  | val {v : V} {d : MP.D} {vs : List V} {ss : List Slot} : RD K g.Z H v d → RSl K g H H0 vs ss → RSl K g H H0 (v :: vs) (.val (.dat d) :: ss)
  | own {a : Addr} {d : MP.D} {vs : List V} {ss : List Slot} : H0 a = none → OwnAt K g H a d → (∀ (i : Nat) d', ss[i]? = some (.own d') → vs[i]? ≠ some (.ref a)) → RSl K g H H0 vs ss → RSl K g H H0 (.ref a :: vs) (.own d :: ss)
section
variable {K : PySem.W.Frag} {mg : Str → Option Value} {g g1 g0 : G} {H H0 H1 H2 Hb : Hp} {zb : Addr → Prop} {st st1 : Store} {σ : L2.St} {env env' : Env}
theorem RSl.none : ∀ {vs : List V} {ss : List Slot} {i : Nat} {d : MP.D} {a : Addr}, RSl K g H H0 vs ss → ss[i]? = some (.own d) → vs[i]? = some (.ref a) → H0 a = Option.none
  | _, _, _, _, _, .nil, e, _ => by simp at e
  | _, _, 0, _, _, .val _ _, e, _ => by simp at e
  | _, _, 0, _, _, .own n _ _ _, e, q => by
    simp at q
    subst q
    exact n
  | _, _, i + 1, _, _, .val _ r, e, q => RSl.none (i := i) r (by simpa using e) (by simpa using q)
  | _, _, i + 1, _, _, .own _ _ _ r, e, q => RSl.none (i := i) r (by simpa using e) (by simpa using q)
theorem RSl.base (h : ∀ a, H1 a = Option.none → H0 a = Option.none) : ∀ {vs : List V} {ss : List Slot}, RSl K g H H1 vs ss → RSl K g H H0 vs ss
  | _, _, .nil => .nil
  | _, _, .val r t => .val r (t.base h)
  | _, _, .own n o p t => .own (h _ n) o p (t.base h)
theorem RSl.step (s : Step g H g1 H1) (o : Ok K g H st) : ∀ {vs : List V} {ss : List Slot}, RSl K g H H0 vs ss → RSl K g1 H1 H0 vs ss
  | _, _, .nil => .nil
  | _, _, .val r t => .val (RD.holds (s.holds o) r) (t.step s o)
  | _, _, .own n oa p t => .own n (oa.step s o) p (t.step s o)
abbrev relS (K : PySem.W.Frag) : Hp → G → Hp → List V → List Slot → Prop := fun H0 g H v x => RSl K g H H0 v x
def SimR (fs : List Bool) (m : Exs) : Prop := ∀ {X : Cx} {W : WX} {N : List Str} {sc : Scope} {lv : Nat} {g : G} {H : Hp} {σ : L2.St} {env : Env} {st : Store} (es : List Expr) (Q : List V → Hp → Prop), At X W N sc lv g H σ env st → mEs N m sc es = true → Rqs X lv (rqEs m) →
  Post X.K X.mg (WS_ W σ) (relS X.K) g H (evR fs m env st) Q → WA X es σ H Q
theorem Post.two {α β γ δ : Type} {W : Value → Option Addr → Hp → Prop} {Rl : Hp → G → Hp → β → α → Prop} {Rm : Hp → G → Hp → δ → γ → Prop} {r : R α} {f : α → Store → R γ} {Q : δ → Hp → Prop} {Q1 : β → Hp → Prop} (s1 : Step g H g1 H1) (h : Post K mg W Rm g H (r.bind f) Q)
    (k : ∀ x st g3 v H3, Step g1 H1 g3 H3 → Ok K g3 H3 st → Rl H1 g3 H3 v x → Post K mg W Rm g H (f x st) Q → Q1 v H3) : Post K mg W Rl g1 H1 r Q1 := by
  cases r with
  | ok x st => exact fun g' v H' s o q => k x st g' v H' s o q h
  | exc c ds st => exact fun g' cls d H' s o q => h g' cls d H' (s1.trans s) o q
  | no => exact h
theorem simR_nil : SimR [] .nil := by
  intro X W N sc lv g H σ env st es Q at_ hm hr h
  cases es <;> try exact no_false hm
  exact WA.of pa_nil (h g [] H .refl at_.ok .nil)
theorem simR_no {fs : List Bool} {m : Exs} (hn : ∀ env st, evR fs m env st = .no) : SimR fs m := by
  intro X W N sc lv g H σ env st es Q at_ hm hr h
  rw [hn] at h
  exact h.elim
theorem simR_cons {b : Bool} {fs : List Bool} {e : Ex} {es : Exs} (ih : SimR fs es) : SimR (b :: fs) (.cons e es) := by
  intro X W N sc lv g H σ env st l Q at_ hm hr h
  cases l <;> try exact no_false hm
  rename_i e' r'
  obtain ⟨hm, h3⟩ := cond_true hm
  obtain ⟨h1, h2⟩ := cond_true hm
  have h : Post X.K X.mg (WS_ W σ) (relS X.K) g H ((evE e false env st).bind fun x st => bif b then (match x with
    | ⟨true, .dat d⟩ => (evR fs es env st).bind fun ss st => .ok (.own d :: ss) st
    | _ => .no) else (datOf x st).bind fun d st => (evR fs es env st).bind fun ss st => .ok (.val (.dat d) :: ss) st) Q := h
  refine WA.of (pa_cons pe_we pa_wa (starEach_cons h1)) ((sim e).1 e' false _ at_ h2 hr.left (Post.two .refl h fun x st1 g1 v H1 s1 o1 r1 h1 => ?_))
  cases b with
  | false =>
    have h1 : Post X.K X.mg (WS_ W σ) (relS X.K) g H ((datOf x st1).bind fun d st => (evR fs es env st).bind fun ss st => .ok (.val (.dat d) :: ss) st) Q := h1
    obtain ⟨d, ed, h1⟩ := Post.dat h1
    obtain ⟨g2, s2, o2, r2, _⟩ := r1.frozen s1 o1 ed
    refine ih r' _ (at_.on s2 o2) h3 hr.right (Post.two s2 h1 fun vs st3 g3 us H3 s3 o3 r3 h3 => ?_)
    exact h3 g3 (v :: us) H3 (s2.trans s3) o3 (.val (RD.holds (s3.holds o2) r2) (r3.base fun a q => s2.gone a q))
  | true =>
    obtain ⟨fr, y⟩ := x
    cases fr with
    | false => exact (show False from h1).elim
    | true =>
      cases y with
      | loc _ => exact (show False from h1).elim
      | dat d =>
        obtain ⟨a, rfl, n0, oa⟩ := r1
        refine ih r' _ (at_.on s1 o1) h3 hr.right (Post.two s1 h1 fun vs st3 g3 us H3 s3 o3 r3 h3 => ?_)
        refine h3 g3 (.ref a :: us) H3 (s1.trans s3) o3 (.own n0 (oa.step s3 o1) (fun i d' e1 e2 => ?_) (r3.base fun a q => s1.gone a q))
        exact oa.ne (r3.none e1 e2)
theorem simR : ∀ (fs : List Bool) (m : Exs), SimR fs m
  | [], .nil => simR_nil
  | _ :: _, .nil => simR_no fun _ _ => rfl
  | [], .cons _ _ => simR_no fun _ _ => rfl
  | [], .star _ _ => simR_no fun _ _ => rfl
  | _ :: _, .star _ _ => simR_no fun _ _ => rfl
  | _ :: fs, .cons _ es => simR_cons (simR fs es)
def putV : List Nat → List V → L2.St → L2.St
  | i :: is, v :: vs, σ => putV is vs (σ.set i (some v))
  | _, _, σ => σ
theorem si_puts (hg : ∀ a, H1 a = none → H0 a = none) : ∀ (ts : List Nat) {us : List V} {ss : List Slot} {σ : L2.St} {env env' : Env}, SI K g0 H0 zb Hb g H σ env st → RSl K g H H1 us ss →
    (∀ (j : Nat) d b a d' (m : Nat), env[j]? = some (.own d) → σ[j]? = some (some (.ref b)) → ss[m]? = some (.own d') → us[m]? = some (.ref a) → b ≠ a) → putSlots ts ss env = some env' → SI K g0 H0 zb Hb g H (putV ts us σ) env' st ∧ us.length = ts.length
  | [], us, ss, σ, env, env', si, r, ap, hp => by
    cases r with
    | nil =>
      cases hp
      exact ⟨si, rfl⟩
    | val _ _ => cases hp
    | own _ _ _ _ => cases hp
  | i :: is, us, ss, σ, env, env', si, r, ap, hp => by
    cases r with
    | nil => cases hp
    | val r1 r2 =>
      rename_i v d vs ss
      obtain ⟨h1, h2⟩ := si_puts hg is (si.setVal (x := .dat d) i r1) r2 (fun j d' b a d'' m e1 e2 e3 e4 => by
        obtain ⟨n, e1⟩ := set_other (t := .un) (fun _ h => by cases h) e1
        rw [List.getElem?_set_ne n] at e2
        exact ap j d' b a d'' (m + 1) e1 e2 (by simpa using e3) (by simpa using e4)) hp
      exact ⟨h1, congrArg Nat.succ h2⟩
    | own n0 oa pa r2 =>
      rename_i a d vs ss
      have far : ∀ (j : Nat) (d' : MP.D), j ≠ i → env[j]? = some (Slot.own d') → σ[j]? ≠ some (some (V.ref a)) := fun j d' _ e1 e2 => ap j d' a a d 0 e1 e2 rfl rfl rfl
      obtain ⟨h1, h2⟩ := si_puts hg is (si.setOwn i oa far (hg a n0)) r2 (fun j d' b c d'' m e1 e2 e3 e4 => by
        by_cases hj : i = j
        · subst hj
          rw [List.getElem?_set] at e2
          split at e2
          · split at e2
            · cases e2
              exact fun q => pa m d'' e3 (q ▸ e4)
            · cases e2
          · rename_i h
            exact absurd rfl h
        · rw [List.getElem?_set_ne hj] at e1 e2
          exact ap j d' b c d'' (m + 1) e1 e2 (by simpa using e3) (by simpa using e4)) hp
      exact ⟨h1, congrArg Nat.succ h2⟩
end
theorem sims_parO {ts : List Nat} {fs : List Bool} {es : Exs} : SimS (.parO ts fs es) := by
  intro X W N sc lv g0 g H0 Hb H zb σ env st s D c si hm hr h
  cases s <;> try exact no_false hm
  rename_i us e' p
  rcases us with _ | ⟨t, _ | ⟨_, _⟩⟩ <;> (try exact no_false hm) <;> cases t <;> (try exact no_false hm) <;> cases e' <;> try exact no_false hm
  rename_i tl k tp vs k2 p2
  obtain ⟨h0, hm⟩ := cond_true hm
  have hN : X.N.Nodup := by rw [c.c.eN]; exact c.c.nd
  have run : ∀ (Q : List V → Hp → Prop), (∀ g1 H1 ss st1 us, SI X.K g0 H0 zb Hb g1 H1 σ env st1 → RSl X.K g1 H1 H us ss → (∀ (j : Nat) (d : MP.D) (b : Addr), env[j]? = some (Slot.own d) → σ[j]? = some (some (V.ref b)) → H b ≠ none) → (∀ a, H a = none → H0 a = none) → PostS X.K X.mg W g0 H0 zb Hb (match putSlots ts ss env with
    | some env' => .nx env' st1
    | none => .no) D → Q us H1) → WA X vs σ H Q := fun Q q => simR fs es vs Q (si.at_ c) h0 hr (PostS.sr si h fun ss st1 g1 us H1 i1 s1 r1 h1 => q g1 H1 ss st1 us i1 r1 (fun j d b e1 e2 => by
      obtain ⟨x, ex, so⟩ := si.en.slot e1
      rw [e2] at ex
      cases ex
      obtain ⟨a, ea, oa⟩ := so
      cases ea
      exact oa.ne) si.s.gone h1)
  rcases ts with _ | ⟨i, _ | ⟨j, _ | ⟨l, _ | ⟨_, _⟩⟩⟩⟩ <;> try exact no_false hm
  · rcases tl with _ | ⟨t1, _ | ⟨t2, _ | ⟨_, _⟩⟩⟩ <;> (try (cases t1 <;> exact no_false hm)) <;> (try exact no_false hm) <;> cases t1 <;> (try exact no_false hm) <;> cases t2 <;> (try exact no_false hm)
    rename_i x px y py
    obtain ⟨hm, h5⟩ := cond_true hm
    obtain ⟨hm, h4⟩ := cond_true hm
    obtain ⟨hm, h3⟩ := cond_true hm
    obtain ⟨h1, h2⟩ := cond_true hm
    have h1 := of_decide_eq_true h1
    have h2 := of_decide_eq_true h2
    have h3 := of_decide_eq_true h3
    have h4 := of_decide_eq_true h4
    rcases vs with _ | ⟨a, _ | ⟨b, _ | ⟨_, _⟩⟩⟩ <;> try (cases h1)
    rcases Bool.or_eq_true_iff.mp h5 with hq | hq
    · obtain ⟨hq, h7⟩ := cond_true hq
      obtain ⟨h5, h6⟩ := cond_true hq
      have h5 := of_decide_eq_true h5
      have h6 := of_decide_eq_true h6
      have h7 := of_decide_eq_true h7
      refine WS.of (ps_par c.c.calm hN (by rw [c.c.eN]; exact h2) (by rw [c.c.eN]; exact h3) h4 (by rw [c.sce]; exact h5) (by rw [c.sce]; exact h6) pa_wa (ss_ok c.hk (by rw [c.sce]; exact h7)) sole_tuple) ?_
      refine run _ fun g1 H1 ss st1 us i1 r1 ho hg h1 => ?_
      cases hp : putSlots [i, j] ss env with
      | none =>
        rw [hp] at h1
        exact h1.elim
      | some env' =>
        rw [hp] at h1
        obtain ⟨i2, hl⟩ := si_puts hg [i, j] i1 r1 (fun k d b a d' m e1 e2 e3 e4 q => ho k d b e1 e2 (q ▸ r1.none e3 e4)) hp
        match us, hl with
        | [v, w], _ => exact ⟨v, w, rfl, h1 g1 H1 _ i2⟩
    · obtain ⟨hq, h7⟩ := cond_true hq
      obtain ⟨h5, h6⟩ := cond_true hq
      have h7 := of_decide_eq_true h7
      refine WS.of (ps_asg (pe_tup pa_wa) (pg_tup c.c.calm (pgs_cons (pg_name hN (by rw [c.c.eN]; exact h2) (c.c.loc h5).1 (c.c.loc h5).2) (pgs_cons (pg_name hN (by rw [c.c.eN]; exact h3) (c.c.loc h6).1 (c.c.loc h6).2) pgs_nil))) sole_tuple (ss_ok c.hk (by rw [c.sce]; exact h7))) ?_
      refine run _ fun g1 H1 ss st1 us i1 r1 ho hg h1 => ?_
      cases hp : putSlots [i, j] ss env with
      | none =>
        rw [hp] at h1
        exact h1.elim
      | some env' =>
        rw [hp] at h1
        have hl : us.length = 2 := (si_puts hg [i, j] i1 r1 (fun k d b a d' m e1 e2 e3 e4 q => ho k d b e1 e2 (q ▸ r1.none e3 e4)) hp).2
        refine ⟨by rw [hl]; decide, fun q hq => ?_⟩
        have i1' := i1.step (.new (u := .tup us) hq) (i1.ok.new hq)
        have r1' := r1.step (.new (u := .tup us) hq) i1.ok
        obtain ⟨i2, _⟩ := si_puts hg [i, j] i1' r1' (fun k d b a d' m e1 e2 e3 e4 q => ho k d b e1 e2 (q ▸ r1'.none e3 e4)) hp
        match us, hl with
        | [v, w], _ => exact ⟨q, [v, w], rfl, .inl (.inl upd_same), rfl, v, [w], rfl, w, [], rfl, rfl, h1 g1 _ _ i2⟩
  · rcases tl with _ | ⟨t1, _ | ⟨t2, _ | ⟨t3, _ | ⟨_, _⟩⟩⟩⟩ <;> (try exact no_false hm) <;> cases t1 <;> (try exact no_false hm) <;> cases t2 <;> (try exact no_false hm) <;> cases t3 <;> (try exact no_false hm)
    rename_i x px y py z pz
    obtain ⟨hm, h11⟩ := cond_true hm
    obtain ⟨hm, h10⟩ := cond_true hm
    obtain ⟨hm, h9⟩ := cond_true hm
    obtain ⟨hm, h8⟩ := cond_true hm
    obtain ⟨hm, h7⟩ := cond_true hm
    obtain ⟨hm, h6⟩ := cond_true hm
    obtain ⟨hm, h5⟩ := cond_true hm
    obtain ⟨hm, h4⟩ := cond_true hm
    obtain ⟨hm, h3⟩ := cond_true hm
    obtain ⟨h1, h2⟩ := cond_true hm
    have h1 := of_decide_eq_true h1
    have h2 := of_decide_eq_true h2
    have h3 := of_decide_eq_true h3
    have h4 := of_decide_eq_true h4
    have h5 := of_decide_eq_true h5
    have h6 := of_decide_eq_true h6
    have h7 := of_decide_eq_true h7
    have h8 := of_decide_eq_true h8
    have h9 := of_decide_eq_true h9
    have h10 := of_decide_eq_true h10
    have h11 := of_decide_eq_true h11
    rcases vs with _ | ⟨a, _ | ⟨b, _ | ⟨b3, _ | ⟨_, _⟩⟩⟩⟩ <;> try (cases h1)
    refine WS.of (ps_par3 c.c.calm hN (by rw [c.c.eN]; exact h2) (by rw [c.c.eN]; exact h3) (by rw [c.c.eN]; exact h4) h5 h6 h7 (by rw [c.sce]; exact h8) (by rw [c.sce]; exact h9) (by rw [c.sce]; exact h10) pa_wa (ss_ok c.hk (by rw [c.sce]; exact h11)) sole_tuple) ?_
    refine run _ fun g1 H1 ss st1 us i1 r1 ho hg h1 => ?_
    cases hp : putSlots [i, j, l] ss env with
    | none =>
      rw [hp] at h1
      exact h1.elim
    | some env' =>
      rw [hp] at h1
      obtain ⟨i2, hl⟩ := si_puts hg [i, j, l] i1 r1 (fun k d b a d' m e1 e2 e3 e4 q => ho k d b e1 e2 (q ▸ r1.none e3 e4)) hp
      match us, hl with
      | [u, v, w], _ => exact ⟨_, _, _, rfl, h1 g1 H1 _ i2⟩
end MP
/-! Statements: branches, loops, lists of one's own. -/
namespace MP
open PySem PyProof.Rows L2 PySem.Spec
theorem sims_aug {i : Nat} {o : Op2} {e : Ex} (he : SimE e) : SimS (.aug i o e) := by
  intro X W N sc lv g0 g H0 Hb H zb σ env st s D c si hm hr h
  cases s <;> try exact no_false hm
  rename_i t op e' p
  cases t <;> try exact no_false hm
  rename_i x px
  obtain ⟨hm, h4⟩ := cond_true hm
  obtain ⟨hm, h3⟩ := cond_true hm
  obtain ⟨h1, h2⟩ := cond_true hm
  have h1 : N[i]? = some x := of_decide_eq_true h1
  have hl := c.c.loc h2
  have hN : X.N.Nodup := by rw [c.c.eN]; exact c.c.nd
  have hi : X.N[i]? = some x := by rw [c.c.eN]; exact h1
  cases hs : env[i]? with
  | none =>
    simp only [evS, hs] at h
    exact h.elim
  | some sl =>
    cases sl with
    | un =>
      simp only [evS, hs] at h
      exact h.elim
    | own _ =>
      simp only [evS, hs] at h
      exact h.elim
    | val w =>
      cases w with
      | loc n =>
        simp only [evS, hs] at h
        exact h.elim
      | dat w =>
        cases w <;> (try (simp only [evS, hs] at h; exact h.elim))
        rename_i a
        simp only [evS, hs] at h
        obtain ⟨w, hw, so⟩ := si.en.slot hs
        obtain ⟨v, rfl, rv⟩ := so
        have ev : v = .int a := RT.int (.inl rv)
        subst ev
        have fin : ∀ (f : Int → Int → Int), (∀ a b : Int, augI o a b = some (f a b)) → WE X e' σ H fun y H1 => ipI f (.int a) y H1 fun z H2 => D.nx (σ.set i (some z)) H2 := by
          intro f hf
          refine he e' true _ (si.at_ c) h3 hr (PostS.sr si h fun y st1 g1 u H1 i1 s1 r1 h1 => ?_)
          obtain ⟨b, ed, h1⟩ := h1.int
          rw [hf] at h1
          have eu := (r1.rt ed).int
          subst eu
          exact ⟨a, b, rfl, rfl, h1 g1 H1 _ (i1.setVal (x := .dat (.int (f a b))) i (.int _))⟩
        cases o <;> (try exact no_false h4) <;> cases op <;> try exact no_false h4
        · exact WS.of (ps_aug hN hi hl.1 pe_we ip_add hl.2) ⟨_, hw, fin _ fun _ _ => rfl⟩
        · exact WS.of (ps_aug hN hi hl.1 pe_we ip_sub hl.2) ⟨_, hw, fin _ fun _ _ => rfl⟩
theorem sims_ite {e : Ex} {a b : Sms} (he : SimT e) (ha : SimSs a) (hb : SimSs b) : SimS (.ite e a b) := by
  intro X W N sc lv g0 g H0 Hb H zb σ env st s D c si hm hr h
  cases s <;> try exact no_false hm
  rename_i e' a' b' p
  obtain ⟨hm, h3⟩ := cond_true hm
  obtain ⟨h1, h2⟩ := cond_true hm
  have h : PostS X.K X.mg W g0 H0 zb Hb ((evE e true env st).sr env fun x st => (boolOf x st).sr env fun k st => bif k then evSs a env st else evSs b env st) D := h
  rw [← bind_sr (f := boolOf)] at h
  refine WS.of (ps_if pt_wt pss_wss pss_wss) ((he e' _ (si.at_ c) h1 hr.left (PostS.sr si h fun k st1 g1 k' H1 i1 s1 r1 h1' => ?_)).1)
  have r1 : k' = k := r1
  subst r1
  cases k' with
  | true =>
    rw [if_pos rfl]
    exact ha a' D c i1 h2 hr.right.left h1'
  | false =>
    simp only [if_neg Bool.false_ne_true]
    exact hb b' D c i1 h3 hr.right.right h1'
theorem sims_whil {e : Ex} {b : Sms} (he : SimT e) (hb : SimSs b) : SimS (.whil e b) := by
  intro X W N sc lv g0 g H0 Hb H zb σ env st s D c si hm hr h
  cases s <;> try exact no_false hm
  rename_i e' b' o p
  obtain ⟨hm, h3⟩ := cond_true hm
  obtain ⟨h1, h2⟩ := cond_true hm
  cases o with
  | cons _ _ => exact no_false h3
  | nil =>
    refine WS.of (ps_while c.c.passes pt_wt pss_wss) ?_
    refine ⟨fun m σ H => ∃ g env st, SI X.K g0 H0 zb Hb g H σ env st ∧ PostS X.K X.mg W g0 H0 zb Hb (whileL (fun env st => (evE e true env st).bind fun x st => boolOf x st) (evSs b) m env st) D, ⟨WF, g, env, st, si, h⟩, ?_⟩
    rintro m σ H ⟨g, env, st, si, h⟩
    cases m with
    | zero => exact h.elim
    | succ m =>
      refine (he e' _ (si.at_ c) h1 hr.left (PostS.sr si (show PostS X.K X.mg W g0 H0 zb Hb (((evE e true env st).bind fun x st => boolOf x st).sr env fun k st => bif k then turn (evSs b env st) (whileL (fun env st => (evE e true env st).bind fun x st => boolOf x st) (evSs b) m) else .nx env st) D from h) fun k st1 g1 k' H1 i1 s1 r1 h1' => ?_)).1
      have r1 : k' = k := r1
      subst r1
      cases k' with
      | true =>
        rw [if_pos rfl]
        refine ⟨fun σ H => ∃ g env st, SI X.K g0 H0 zb Hb g H σ env st ∧ PostS X.K X.mg W g0 H0 zb Hb (whileL (fun env st => (evE e true env st).bind fun x st => boolOf x st) (evSs b) m env st) D, fun σ' H' q => ⟨m, Nat.lt_succ_self m, q⟩, ?_⟩
        exact hb b' _ c i1 h2 hr.right (PostS.turn h1' fun env st g H σ i q => ⟨g, env, st, i, q⟩)
      | false =>
        simp only [if_neg Bool.false_ne_true]
        exact h1' g1 H1 σ i1
theorem sims_for {tg : Tg} {it : It} {b : Sms} (hi : SimI it) (hb : SimSs b) : SimS (.forr tg it b) := by
  intro X W N sc lv g0 g H0 Hb H zb σ env st s D c si hm hr h
  cases s <;> try exact no_false hm
  rename_i tg' it' b' o p
  obtain ⟨hm, h5⟩ := cond_true hm
  obtain ⟨hm, h4⟩ := cond_true hm
  obtain ⟨hm, h3⟩ := cond_true hm
  obtain ⟨h1, h2⟩ := cond_true hm
  cases o with
  | cons _ _ => exact no_false h5
  | nil =>
    have hfold : ∀ x, foldedSetIterable it' X.env x = pure x := by
      intro x
      cases it' <;> first | rfl | exact no_false h2
    refine WS.of (ps_for c.c.passes c.c.calm pi_wi pg_wg pss_wss hfold) ?_
    refine hi tg' it' _ (si.at_ c) h3 hr.left (PostS.sr si h fun items st1 g1 J H1 i1 s1 pres h1' => ?_)
    have pres : Pres X.K g1 H1 J items := pres
    refine ⟨fun i m σ H => i + m = items.length ∧ ∃ g env st, SI X.K g0 H0 g1.Z H1 g H σ env st ∧ PostS X.K X.mg W g0 H0 g1.Z H1 (forL tg (evSs b) (items.drop i) env st) D, ⟨items.length, Nat.zero_add _, g1, env, st1, ⟨i1.s, i1.ok, i1.en, i1.new, .refl⟩, by rw [List.drop_zero]; exact h1'.rebase i1.h⟩, ?_⟩
    rintro i m σ H ⟨him, g, env, st, si, h⟩
    by_cases hlt : i < items.length
    · refine .inr ⟨pres.go g H i si.h hlt, fun σ H => ∃ m', m' < m ∧ (i + 1) + m' = items.length ∧ ∃ g env st, SI X.K g0 H0 g1.Z H1 g H σ env st ∧ PostS X.K X.mg W g0 H0 g1.Z H1 (forL tg (evSs b) (items.drop (i + 1)) env st) D, fun σ' H' ⟨m', hm', q⟩ => ⟨m', hm', q⟩, fun x H2 hy => ?_⟩
      obtain ⟨d, hd, sy, oy, rx⟩ := pres.yld g H st i x H2 si.h si.ok hy hlt
      have hdrop : items.drop i = d :: items.drop (i + 1) := by
        have e := List.drop_eq_getElem_cons hlt
        rw [List.getElem?_eq_getElem hlt] at hd
        rw [e, Option.some.inj hd]
      rw [hdrop] at h
      have i2 := si.step sy oy
      have h : PostS X.K X.mg W g0 H0 g1.Z H1 (match bindTg tg d env with
        | none => .no
        | some env' => turn (evSs b env' st) (forL tg (evSs b) (items.drop (i + 1)))) D := h
      cases hbt : bindTg tg d env with
      | none =>
        rw [hbt] at h
        exact h.elim
      | some env' =>
        rw [hbt] at h
        refine si_tg c.c i2 h1 rx hbt fun σ' i3 => ?_
        exact hb b' _ c i3 h4 hr.right (PostS.turn h fun env st g H σ i q => ⟨m - 1, by omega, by omega, g, env, st, i, q⟩)
    · refine .inl ⟨?_, ?_⟩
      · have e : i = items.length := by omega
        subst e
        exact pres.stop g H si.h
      · have e : items.drop i = [] := List.drop_eq_nil_of_le (by omega)
        rw [e] at h
        exact h g H σ si
end MP
/-! Statements: lists of one's own, cells; all together. -/
namespace MP
open PySem PyProof.Rows L2 PySem.Spec
/-- a slot with a list of ours -/
theorem own_slot {K : PySem.W.Frag} {g0 g : G} {H0 Hb H : Hp} {zb : Addr → Prop} {st : Store} {σ : L2.St} {env : Env} {i : Nat} {xs : List MP.D} (si : SI K g0 H0 zb Hb g H σ env st) (hs : env[i]? = some (.own (.list xs))) :
    ∃ a vs, σ[i]? = some (some (.ref a)) ∧ H a = some (.lst vs) ∧ RDs K g.Z H vs xs ∧ ¬ g.Z a ∧ a ∉ g.rho := by
  obtain ⟨x, ex, so⟩ := si.en.slot hs
  obtain ⟨a, rfl, vs, e, r, z, n⟩ := so
  exact ⟨a, vs, ex, e, r, z, n⟩
theorem own_dict {K : PySem.W.Frag} {g0 g : G} {H0 Hb H : Hp} {zb : Addr → Prop} {st : Store} {σ : L2.St} {env : Env} {i : Nat} {xs : List (MP.D × MP.D)} (si : SI K g0 H0 zb Hb g H σ env st) (hs : env[i]? = some (.own (.dict xs))) :
    ∃ a vs, σ[i]? = some (some (.ref a)) ∧ H a = some (.dK vs) ∧ RKs K g.Z H vs xs ∧ ¬ g.Z a ∧ a ∉ g.rho := by
  obtain ⟨x, ex, so⟩ := si.en.slot hs
  obtain ⟨a, rfl, vs, e, r, z, n⟩ := so
  exact ⟨a, vs, ex, e, r, z, n⟩
theorem sims_app {i : Nat} {e : Ex} (he : SimE e) : SimS (.app i e) := by
  intro X W N sc lv g0 g H0 Hb H zb σ env st s D c si hm hr h
  cases s <;> try exact no_false hm
  rename_i e0 p
  cases e0 <;> try exact no_false hm
  rename_i f args kws cp
  cases f <;> try exact no_false hm
  rename_i o m ap
  cases o <;> try exact no_false hm
  rename_i x px
  rcases args with _ | ⟨e', _ | ⟨_, _⟩⟩ <;> try exact no_false hm
  cases kws <;> try exact no_false hm
  obtain ⟨hm, h7⟩ := cond_true hm
  obtain ⟨hm, h6⟩ := cond_true hm
  obtain ⟨hm, h5⟩ := cond_true hm
  obtain ⟨hm, h4⟩ := cond_true hm
  obtain ⟨hm, h3⟩ := cond_true hm
  obtain ⟨h1, h2⟩ := cond_true hm
  have h1 : N[i]? = some x := of_decide_eq_true h1
  have h4 : m = "append" := of_decide_eq_true h4
  subst h4
  have h5 : ap.endLine = cp.line := of_decide_eq_true h5
  have hd := okName_debug h3
  cases hs : env[i]? with
  | none =>
    simp only [evS, hs] at h
    exact h.elim
  | some sl =>
    cases sl <;> (try (simp only [evS, hs] at h; exact h.elim))
    rename_i d
    cases d <;> (try (simp only [evS, hs] at h; exact h.elim))
    rename_i xs
    simp only [evS, hs] at h
    obtain ⟨a, vs, ex, ea, _⟩ := own_slot si hs
    refine WS.of (ps_expr (pe_bm PySem.F.plainAttrs_list PySem.F.slot_list_append PySem.F.type_list_append mt_append (pe_var (by rw [c.c.eN]; exact h1) (c.c.vis h2) hd.1 hd.2.1) (pa_cons pe_we pa_nil (starEach_cons h6)) rfl
      (by rw [starEach_cons h6]; rfl) (by rw [h5]; exact beq_self_eq_true _) (starEach_cons h6) rfl) rfl) ?_
    refine ⟨_, ex, .inl ⟨rfl, vs, .inl (.inl ea)⟩, ?_⟩
    refine he e' false _ (si.at_ c) h7 hr (PostS.sr si h fun y st1 g1 v H1 i1 s1 r1 h1 => ?_)
    obtain ⟨d, ed, h1⟩ := h1.dat
    obtain ⟨hz, h1⟩ := h1.cond
    obtain ⟨g2, i2, r2⟩ := step_val si i1 s1 r1
    rw [ed] at r2
    obtain ⟨a', vs', ex', ea', rd, nz, nr⟩ := own_slot i2 hs
    rw [ex] at ex'
    cases ex'
    exact ⟨a, vs', v, rfl, rfl, ea', by rw [rd.length]; exact of_decide_eq_true hz, h1 g2 _ σ (i2.mut hs ex ea' nz nr (rd.append (.cons r2 .nil)))⟩
theorem sims_popd {i : Nat} : SimS (.popd i) := by
  intro X W N sc lv g0 g H0 Hb H zb σ env st s D c si hm hr h
  cases s <;> try exact no_false hm
  rename_i e0 p
  cases e0 <;> try exact no_false hm
  rename_i f args kws cp
  cases f <;> try exact no_false hm
  rename_i o m ap
  cases o <;> try exact no_false hm
  rename_i x px
  cases args <;> cases kws <;> try exact no_false hm
  obtain ⟨hm, h5⟩ := cond_true hm
  obtain ⟨hm, h4⟩ := cond_true hm
  obtain ⟨hm, h3⟩ := cond_true hm
  obtain ⟨h1, h2⟩ := cond_true hm
  have h1 : N[i]? = some x := of_decide_eq_true h1
  have h4 : m = "pop" := of_decide_eq_true h4
  subst h4
  have h5 : ap.endLine = cp.line := of_decide_eq_true h5
  have hd := okName_debug h3
  cases hs : env[i]? with
  | none =>
    simp only [evS, hs] at h
    exact h.elim
  | some sl =>
    cases sl <;> (try (simp only [evS, hs] at h; exact h.elim))
    rename_i d
    cases d <;> (try (simp only [evS, hs] at h; exact h.elim))
    rename_i xs
    simp only [evS, hs] at h
    obtain ⟨a, vs, ex, ea, rd, nz, nr⟩ := own_slot si hs
    refine WS.of (ps_expr (pe_bm0 PySem.F.plainAttrs_list PySem.F.slot_list_pop PySem.F.type_list_pop mt_pop (pe_var (by rw [c.c.eN]; exact h1) (c.c.vis h2) hd.1 hd.2.1) rfl (by rw [h5]; exact beq_self_eq_true _)) rfl) ?_
    cases hl : xs.getLast? with
    | none =>
      rw [hl] at h
      exact h.elim
    | some d =>
      rw [hl] at h
      obtain ⟨w, hw, rw1⟩ := rd.last hl
      exact ⟨_, ex, .inl ⟨rfl, vs, .inl (.inl ea)⟩, a, vs, w, rfl, rfl, ea, hw, h g _ σ (si.mut hs ex ea nz nr rd.dropLast)⟩
theorem sims_clr {i : Nat} : SimS (.clr i) := by
  intro X W N sc lv g0 g H0 Hb H zb σ env st s D c si hm hr h
  cases s <;> try exact no_false hm
  rename_i e0 p
  cases e0 <;> try exact no_false hm
  rename_i f args kws cp
  cases f <;> try exact no_false hm
  rename_i o m ap
  cases o <;> try exact no_false hm
  rename_i x px
  cases args <;> cases kws <;> try exact no_false hm
  obtain ⟨hm, h5⟩ := cond_true hm
  obtain ⟨hm, h4⟩ := cond_true hm
  obtain ⟨hm, h3⟩ := cond_true hm
  obtain ⟨h1, h2⟩ := cond_true hm
  have h1 : N[i]? = some x := of_decide_eq_true h1
  have h4 : m = "clear" := of_decide_eq_true h4
  subst h4
  have h5 : ap.endLine = cp.line := of_decide_eq_true h5
  have hd := okName_debug h3
  cases hs : env[i]? with
  | none =>
    simp only [evS, hs] at h
    exact h.elim
  | some sl =>
    cases sl <;> (try (simp only [evS, hs] at h; exact h.elim))
    rename_i d
    cases d <;> (try (simp only [evS, hs] at h; exact h.elim))
    rename_i xs
    simp only [evS, hs] at h
    obtain ⟨a, vs, ex, ea, rd, nz, nr⟩ := own_slot si hs
    refine WS.of (ps_expr (pe_bm0 PySem.F.plainAttrs_list PySem.F.slot_list_clear PySem.F.type_list_clear mt_clear (pe_var (by rw [c.c.eN]; exact h1) (c.c.vis h2) hd.1 hd.2.1) rfl (by rw [h5]; exact beq_self_eq_true _)) rfl) ?_
    exact ⟨_, ex, .inl ⟨rfl, vs, .inl (.inl ea)⟩, a, vs, rfl, rfl, ea, h g _ σ (si.mut hs ex ea nz nr .nil)⟩
theorem sims_rais {x : Str} : SimS (.rais x) := by
  intro X W N sc lv g0 g H0 Hb H zb σ env st s D c si hm hr h
  cases s <;> try exact no_false hm
  rename_i eo co p
  rcases eo with _ | e <;> try exact no_false hm
  cases e <;> try exact no_false hm
  rename_i f args kws cp
  cases f <;> cases args <;> cases kws <;> cases co <;> try exact no_false hm
  rename_i y py
  obtain ⟨hm, h3⟩ := cond_true hm
  obtain ⟨h1, h2⟩ := cond_true hm
  have h1 : x = y := of_decide_eq_true h1
  subst h1
  obtain ⟨hl, C, gC, T, _⟩ := hr.head
  have hd := okName_debug h3
  refine WS.of (ps_raise c.c.calm c.c.takes (pmk0 (k := 0) T gC (c.c.room.mono hl) (c.c.gl h2) hd.1)) ?_
  exact h g H σ (.ref C) none si ⟨gC, rfl⟩
theorem isCE_cases {e : Ex} (h : isCE e = true) : (∃ l, e = .cst l) ∨ (∃ z, e = .tup (.cons (.cst (.str z)) .nil)) ∨ (∃ z, e = .lst (.cons (.cst (.str z)) .nil)) ∨ ∃ i, e = .cmp .isNot (.var i) (.cst .none) := by
  unfold isCE at h
  split at h
  · exact .inl ⟨_, rfl⟩
  · exact .inr (.inl ⟨_, rfl⟩)
  · exact .inr (.inr (.inl ⟨_, rfl⟩))
  · exact .inr (.inr (.inr ⟨_, rfl⟩))
  · cases h
theorem sims_tryR {b : Sms} {x : Str} {e : Ex} (hb : SimSs b) : SimS (.tryR b x e) := by
  intro X W N sc lv g0 g H0 Hb H zb σ env st s D c si hm hr h
  cases s <;> try exact no_false hm
  rename_i body hs oe fb p
  rcases hs with _ | ⟨hd, tl2⟩
  · exact no_false hm
  rcases hd with ⟨ty, nm, suite, hp⟩
  rcases ty with _ | ty <;> try exact no_false hm
  cases ty <;> try exact no_false hm
  rename_i y py
  cases nm <;> try exact no_false hm
  rcases suite with _ | ⟨s1, tl⟩ <;> try exact no_false hm
  cases s1 <;> try exact no_false hm
  rename_i ro rp
  rcases ro with _ | e' <;> try exact no_false hm
  cases tl <;> try exact no_false hm
  cases tl2 <;> try exact no_false hm
  cases oe <;> cases fb <;> try exact no_false hm
  obtain ⟨hm, h6⟩ := cond_true hm
  obtain ⟨hm, h5⟩ := cond_true hm
  obtain ⟨hm, h4⟩ := cond_true hm
  obtain ⟨hm, h3⟩ := cond_true hm
  obtain ⟨h1, h2⟩ := cond_true hm
  have h2 : x = y := of_decide_eq_true h2
  subst h2
  obtain ⟨hl, C, gC, T, ex⟩ := hr.head
  have hdn := okName_debug h4
  have rb : Rqs X lv (rqSs b) := hr.tail.left
  -- the suite
  let ts : Addr → Value → Option Addr → TS := fun a cls d D σ H => ∀ oe pn, Zc cls d oe → (∃ vs, oe.data = .fields vs) → WSs (X.suite a ((a, oe) :: pn)) [.Return (some e') rp] D σ H
  have suite : ∀ (env' : Env) (st' : Store) (g1 : G) (H1 : Hp) (σ1 : L2.St), SI X.K g0 H0 zb Hb g1 H1 σ1 env' st' → PostS X.K X.mg W g0 H0 zb Hb ((evE e false env' st').sr env' fun x st => .rt x st) D → ∀ a cls d, ts a cls d D σ1 H1 := by
    intro env' st' g1 H1 σ1 i1 hp a cls d oe pn hz hf
    rcases isCE_cases h5 with ⟨l, rfl⟩ | ⟨z, rfl⟩ | ⟨z, rfl⟩ | ⟨i, rfl⟩
    · have hp : PostS X.K X.mg W g0 H0 zb Hb (.rt (plain l.d) st') D := hp
      cases e' <;> try exact no_false h6
      rename_i k j pos
      cases l <;> cases k <;> try exact no_false h6
      · exact WSs.of (pss_one (ps_ret pe_non)) (hp g1 H1 .non i1.s i1.ok .none)
      · have := of_decide_eq_true h6
        subst this
        exact WSs.of (pss_one (ps_ret pe_bl)) (hp g1 H1 (.bl _) i1.s i1.ok (.bool _))
      · have := of_decide_eq_true h6
        subst this
        exact WSs.of (pss_one (ps_ret pe_int)) (hp g1 H1 (.int _) i1.s i1.ok (.int _))
      · have := of_decide_eq_true h6
        subst this
        exact WSs.of (pss_one (ps_ret pe_str)) (hp g1 H1 (.str _) i1.s i1.ok (.str _))
    · have hp : PostS X.K X.mg W g0 H0 zb Hb (.rt (plain (.tuple [.str z])) st') D := hp
      cases e' <;> try exact no_false h6
      rename_i es k pos
      rcases es with _ | ⟨e1, _ | ⟨_, _⟩⟩ <;> try exact no_false h6
      · have h9 := (cond_true (cond_true h6).1).2
        cases e1 <;> try exact no_false h9
        rename_i kk jj ps
        cases kk <;> try exact no_false h9
        have := of_decide_eq_true h9
        subst this
        refine WSs.of (pss_one (ps_ret (pe_tup (pa_cons pe_str pa_nil)))) ⟨by show 1 ≤ sizeLine; decide, fun q hq => ?_⟩
        exact hp g1 _ (.ref q) (i1.s.trans (.new hq)) (i1.ok.new hq) (RD.new_tup i1.ok hq (.cons (.str _) .nil))
      · obtain ⟨_, h8⟩ := cond_true h6
        exact no_false h8
    · have hp : PostS X.K X.mg W g0 H0 zb Hb (.rt (fresh (.list [.str z])) st') D := hp
      cases e' <;> try exact no_false h6
      rename_i es pos
      rcases es with _ | ⟨e1, _ | ⟨_, _⟩⟩ <;> try exact no_false h6
      · have h9 := (cond_true (cond_true h6).1).2
        cases e1 <;> try exact no_false h9
        rename_i kk jj ps
        cases kk <;> try exact no_false h9
        have := of_decide_eq_true h9
        subst this
        refine WSs.of (pss_one (ps_ret (pe_lst (pa_cons pe_str pa_nil)))) ⟨by show 1 ≤ sizeLine; decide, fun q hq => ?_⟩
        exact hp g1 _ (.ref q) (i1.s.trans (.new hq)) (i1.ok.new hq) ⟨q, rfl, i1.s.gone q hq, OwnAt.new_lst i1.ok hq (.cons (.str _) .nil)⟩
      · obtain ⟨_, h8⟩ := cond_true h6
        exact no_false h8
    · cases e' <;> try exact no_false h6
      rename_i a' os bs pos
      rcases os with _ | ⟨o', _ | ⟨_, _⟩⟩ <;> try exact no_false h6
      rcases bs with _ | ⟨b', _ | ⟨_, _⟩⟩ <;> try exact no_false h6
      obtain ⟨hm, k4⟩ := cond_true h6
      obtain ⟨hm, k3⟩ := cond_true hm
      obtain ⟨k1, k2⟩ := cond_true hm
      have k1 : cpS .isNot = o' := of_decide_eq_true k1
      subst k1
      obtain ⟨y, py, rfl⟩ : ∃ y py, a' = .Name y py := by cases a' <;> first | exact ⟨_, _, rfl⟩ | exact no_false k2
      obtain ⟨km, j3⟩ := cond_true k2
      obtain ⟨j1, j2⟩ := cond_true km
      have j1 : N[i]? = some y := of_decide_eq_true j1
      have jd := okName_debug j3
      obtain ⟨jk, pk, rfl⟩ : ∃ jk pk, b' = .Constant .none jk pk := by
        cases b' with
        | Constant v j k => cases v <;> first | exact ⟨_, _, rfl⟩ | exact no_false k3
        | _ => exact no_false k3
      simp only [evE] at hp
      have hu : (X.suite a ((a, oe) :: pn)).A.units + 65 < cLine := by
        have := room_u c.c.room
        show X.A.units + 65 < cLine
        omega
      cases hs : env'[i]? with
      | none => rw [hs] at hp; exact hp.elim
      | some sl =>
        rw [hs] at hp
        obtain ⟨w0, hy, so⟩ := i1.en.slot hs
        cases sl with
        | un => exact hp.elim
        | val v =>
          obtain ⟨w, rfl, r⟩ := so
          cases v with
          | loc n => exact hp.elim
          | dat d =>
            refine WSs.of (pss_one (ps_ret (pe_cmpR op_wo pe_we pe_we rfl))) ?_
            refine WE.of (pe_var (by show X.N[i]? = some y; rw [c.c.eN]; exact j1) (c.c.vis j2) jd.1 jd.2.1) ⟨w, hy, ?_⟩
            refine WE.of pe_non ?_
            refine cmp_ok (.inl r) (.inl .none) rfl hu i1.ok (b := !isNone d) (by cases d <;> rfl) ?_
            have hp : PostS X.K X.mg W g0 H0 zb Hb (.rt (plain (.bool (!isNone d))) st') D := by
              have e : cmpD .isNot d .none = some (!isNone d) := by cases d <;> rfl
              have hp : PostS X.K X.mg W g0 H0 zb Hb ((ofB (cmpD .isNot d .none) st').sr env' fun x st => .rt x st) D := hp
              rw [e] at hp
              exact hp
            exact hp g1 H1 (.bl _) i1.s i1.ok (.bool _)
        | own d =>
          obtain ⟨w, rfl, r⟩ := so
          refine WSs.of (pss_one (ps_ret (pe_cmpR op_wo pe_we pe_we rfl))) ?_
          refine WE.of (pe_var (by show X.N[i]? = some y; rw [c.c.eN]; exact j1) (c.c.vis j2) jd.1 jd.2.1) ⟨_, hy, ?_⟩
          refine WE.of pe_non ?_
          refine cmp_ok (.inr ⟨w, rfl, r⟩) (.inl .none) rfl hu i1.ok (b := !isNone d) (by cases d <;> rfl) ?_
          have hp : PostS X.K X.mg W g0 H0 zb Hb (.rt (plain (.bool (!isNone d))) st') D := by
            have e : cmpD .isNot d .none = some (!isNone d) := by cases d <;> rfl
            have hp : PostS X.K X.mg W g0 H0 zb Hb ((ofB (cmpD .isNot d .none) st').sr env' fun x st => .rt x st) D := hp
            rw [e] at hp
            exact hp
          exact hp g1 H1 (.bl _) i1.s i1.ok (.bool _)
  refine WS.of (ps_try_only c.stk c.frm ⟨c.c.gl h3, hdn.1, .inl gC⟩ c.c.takes (ts := ts)
    (tb := fun W' D' σ' H' => ∀ pn xe, Takes (X.tr pn xe) W' → PassesOwn (model X.prog X.w) X.A X.env xe → WSs (X.tr pn xe) body D' σ' H')
    (fun W' pn xe tk ps => ⟨fun pins s σ H D I q => q pn xe tk ps pins s I⟩)
    (fun a oe cls d pn hz hf => ⟨fun pins s σ H D I q => q oe pn hz hf pins s I⟩)) ?_
  intro pn xe tk ps
  have c' : SCtx (X.tr pn xe) (wOnly X.K (.ref C) ts W D) N sc lv g0.T := ⟨⟨c.c.eN, c.c.nd, c.c.kind, c.c.calm, c.c.guards, c.c.room, tk, ps, c.c.look, c.c.fn, c.c.sm⟩, c.sce, c.stk, c.frm, c.tl⟩
  refine hb (X := X.tr pn xe) body D c' si h1 rb ?_
  have h : PostS X.K X.mg W g0 H0 zb Hb (match evSs b env st with
    | .ex c' _ env' st' => bif decide (c' = x) then (evE e false env' st').sr env' fun x st => .rt x st else .no
    | r => r) D := h
  cases hv : evSs b env st with
  | nx env' st' =>
    rw [hv] at h
    exact h
  | rt y st' =>
    rw [hv] at h
    exact h
  | br env' st' =>
    rw [hv] at h
    exact h
  | ct env' st' =>
    rw [hv] at h
    exact h
  | no =>
    rw [hv] at h
    exact h.elim
  | ex cn ds env' st' =>
    rw [hv] at h
    obtain ⟨hc, hq⟩ := h.cond
    have hc : cn = x := of_decide_eq_true hc
    clear h
    subst hc
    intro g1 H1 σ1 cls d i1 ei
    have ec : cls = .ref C := by
      have := ei.1
      have gC' : X.mg cn = some (.ref C) := gC
      rw [show (X.tr pn xe).mg cn = X.mg cn from rfl, gC'] at this
      exact (Option.some.inj this).symm
    subst ec
    exact ⟨true, ex, fun _ a _ => suite env' st' g1 H1 σ1 i1 hq a _ d, fun z => by cases z⟩
theorem sims_tryY {b : Sms} {x : Str} {i : Nat} {kk : Str} (hb : SimSs b) : SimS (.tryY b x i kk) := by
  intro X W N sc lv g0 g H0 Hb H zb σ env st s D c si hm hr h
  cases s <;> try exact no_false hm
  rename_i body hs oe fb p
  rcases hs with _ | ⟨hd, tl2⟩
  · exact no_false hm
  rcases hd with ⟨ty, nm, suite, hp⟩
  rcases ty with _ | ty <;> try exact no_false hm
  cases ty <;> try exact no_false hm
  rename_i y py
  rcases nm with _ | n <;> try exact no_false hm
  rcases suite with _ | ⟨s1, tl⟩ <;> try exact no_false hm
  cases s1 <;> try exact no_false hm
  rename_i ro rp
  rcases ro with _ | e' <;> try exact no_false hm
  cases e' <;> try exact no_false hm
  rename_i f args kws cp
  cases f <;> try exact no_false hm
  rename_i fy fp
  rcases args with _ | ⟨a1, _ | ⟨a2, _ | ⟨_, _⟩⟩⟩ <;> try exact no_false hm
  all_goals (cases a1 <;> try exact no_false hm)
  all_goals (try (cases a2 <;> try exact no_false hm))
  all_goals (try (cases kws <;> try exact no_false hm))
  all_goals (try (cases tl <;> try exact no_false hm))
  all_goals (try (cases tl2 <;> try exact no_false hm))
  all_goals (try (cases oe <;> cases fb <;> try exact no_false hm))
  rename_i n2 np2 k2 kp2
  obtain ⟨hm, h13⟩ := cond_true hm
  obtain ⟨hm, h12⟩ := cond_true hm
  obtain ⟨hm, h11⟩ := cond_true hm
  obtain ⟨hm, h10⟩ := cond_true hm
  obtain ⟨hm, h9⟩ := cond_true hm
  obtain ⟨hm, h8⟩ := cond_true hm
  obtain ⟨hm, h7⟩ := cond_true hm
  obtain ⟨hm, h6⟩ := cond_true hm
  obtain ⟨hm, h5⟩ := cond_true hm
  obtain ⟨hm, h4⟩ := cond_true hm
  obtain ⟨hm, h3⟩ := cond_true hm
  obtain ⟨h1, h2⟩ := cond_true hm
  have h2 : x = y := of_decide_eq_true h2
  subst h2
  have h5 : fy = "isinstance" := of_decide_eq_true h5
  subst h5
  have h7 : n2 = n := of_decide_eq_true h7
  subst h7
  have h8 : N[i]? = some n2 := of_decide_eq_true h8
  have h9 : sc.names.lookup n2 = some .local := of_decide_eq_true h9
  have h11 : kk = k2 := of_decide_eq_true h11
  subst h11
  obtain ⟨C, DK, gC, gK, EC, kt, ex⟩ := hr.head
  have hni : X.mg "isinstance" = none := hr.tail.head
  have hdn := okName_debug h4
  have hdn2 := okName_debug h10
  have hdk := okName_debug h13
  have rb : Rqs X lv (rqSs b) := hr.tail.tail
  have hvis : isVis sc n2 = true := by unfold isVis; rw [h9]
  have hln : X.env.kindOf n2 = some .local := by
    show X.env.scope.names.lookup n2 = some .local
    rw [c.sce]
    exact h9
  let ts : Addr → Value → Option Addr → TS := fun a cls d D σ H => ∀ oe pn, Zc cls d oe → (∃ vs, oe.data = .fields vs) → WSs (X.suite a ((a, oe) :: pn)) [.Return (some (.Call (.Name "isinstance" fp) [.Name n2 np2, .Name kk kp2] [] cp)) rp] D σ H
  refine WS.of (ps_try_as (i := i) c.stk c.frm (by rw [c.c.eN]; exact c.c.nd) (by rw [c.c.eN]; exact h8) hln ⟨c.c.gl h3, hdn.1, .inl gC⟩ c.c.takes (ts := ts)
    (tb := fun W' D' σ' H' => ∀ pn xe, Takes (X.tr pn xe) W' → PassesOwn (model X.prog X.w) X.A X.env xe → WSs (X.tr pn xe) body D' σ' H')
    (fun W' pn xe tk ps => ⟨fun pins s σ H D I q => q pn xe tk ps pins s I⟩)
    (fun a oe cls d pn hz hf => ⟨fun pins s σ H D I q => q oe pn hz hf pins s I⟩)) ?_
  intro pn xe tk ps
  have c' : SCtx (X.tr pn xe) (wAs X.K (.ref C) i ts W D) N sc lv g0.T := ⟨⟨c.c.eN, c.c.nd, c.c.kind, c.c.calm, c.c.guards, c.c.room, tk, ps, c.c.look, c.c.fn, c.c.sm⟩, c.sce, c.stk, c.frm, c.tl⟩
  refine hb (X := X.tr pn xe) body D c' si h1 rb ?_
  have h : PostS X.K X.mg W g0 H0 zb Hb (match evSs b env st with
    | .ex c' ds env' st' => bif decide (c' = x) && ds.isEmpty then (match env'[i]? with
      | some _ => .rt (plain (.bool true)) st'
      | none => .no) else .no
    | r => r) D := h
  cases hv : evSs b env st with
  | nx env' st' =>
    rw [hv] at h
    exact h
  | rt y st' =>
    rw [hv] at h
    exact h
  | br env' st' =>
    rw [hv] at h
    exact h
  | ct env' st' =>
    rw [hv] at h
    exact h
  | no =>
    rw [hv] at h
    exact h.elim
  | ex cn ds env' st' =>
    rw [hv] at h
    obtain ⟨hc, hq⟩ := h.cond
    obtain ⟨hc, hds⟩ := cond_true hc
    have hc : cn = x := of_decide_eq_true hc
    clear h
    subst hc
    intro g1 H1 σ1 cls d i1 ei
    have hd : d = none := by
      cases ds with
      | nil => exact ei.2
      | cons z zs => cases hds
    have ec : cls = .ref C := by
      have := ei.1
      have gC' : X.mg cn = some (.ref C) := gC
      rw [show (X.tr pn xe).mg cn = X.mg cn from rfl, gC'] at this
      exact (Option.some.inj this).symm
    subst ec
    subst hd
    refine ⟨true, ex, fun _ a na oe pn' hz hf => ?_, fun z => by cases z⟩
    have hN : (X.suite a ((a, oe) :: pn')).N[i]? = some n2 := by show X.N[i]? = some n2; rw [c.c.eN]; exact h8
    cases hsl : env'[i]? with
    | none => rw [hsl] at hq; exact hq.elim
    | some sl =>
    rw [hsl] at hq
    obtain ⟨w0, hy, _⟩ := i1.en.slot hsl
    have hl1 : i < σ1.length := (List.getElem?_eq_some_iff.mp hy).1
    refine WSs.of (pss_one (ps_ret (pe_callB (call_isE EC hz hf) (c.c.gl h6) hni (by decide +kernel) (pa_cons (pe_var hN (c.c.vis hvis) hdn2.1 hdn2.2.1) (pa_cons (pe_glob (v := .ref DK) (c.c.gl h12) gK rfl hdk.1) pa_nil (starEach_cons rfl)) (starEach_cons rfl)) (by decide) (by decide)
      (starEach_cons rfl) rfl))) ?_
    refine ⟨.ref a, List.getElem?_set_self hl1, ?_⟩
    exact ⟨.ref DK, .ref DK, true, rfl, fun u r => r, kt, hq g1 H1 (.bl _) i1.s i1.ok (.bool _)⟩
theorem sims_raisD {x f : Str} {e : Ex} (he : SimE e) : SimS (.raisD x f e) := by
  intro X W N sc lv g0 g H0 Hb H zb σ env st s D c si hm hr h
  cases s <;> try exact no_false hm
  rename_i eo co p
  rcases eo with _ | e0 <;> try exact no_false hm
  cases e0 <;> try exact no_false hm
  rename_i fn args kws cp
  cases fn <;> try exact no_false hm
  rename_i y py
  rcases args with _ | ⟨e', _ | ⟨_, _⟩⟩ <;> (try exact no_false hm) <;> cases kws <;> cases co <;> try exact no_false hm
  obtain ⟨hm, h5⟩ := cond_true hm
  obtain ⟨hm, h4⟩ := cond_true hm
  obtain ⟨hm, h3⟩ := cond_true hm
  obtain ⟨h1, h2⟩ := cond_true hm
  have h1 : x = y := of_decide_eq_true h1
  subst h1
  obtain ⟨hl, C, gC, T, sem, Gc, hsem⟩ := hr.head
  have hd := okName_debug h3
  refine WS.of (ps_raise c.c.calm c.c.takes (pmk1 (lv := lv - 2) (pos := cp) (p := py) T gC Gc hsem (c.c.room.mono (by omega)) c.c.guards (c.c.gl h2) hd.1 h4)) ?_
  refine he e' false _ (si.at_ c) h5 hr.tail (PostS.sr si (show PostS X.K X.mg W g0 H0 zb Hb ((evE e false env st).sr env fun x1 st => (intOf x1 st).sr env fun i st => .ex x [(f, .int i)] env st) D from h) fun y st1 g1 v H1 i1 s1 r1 h1 => ?_)
  obtain ⟨i, ei, h1⟩ := h1.int
  have hv : v = .int i := by
    obtain ⟨fr, y⟩ := y
    have ei : y = .dat (.int i) := ei
    subst ei
    cases fr with
    | true =>
      obtain ⟨a, _, _, q⟩ := r1
      exact q.elim
    | false =>
      have r1 : RD X.K g1.Z H1 v (.int i) := r1
      cases r1
      rfl
  have h1 : ∀ g H σ cls d, SI X.K g0 H0 zb Hb g H σ env st1 → ExcIs X.K X.mg g H x [(f, .int i)] cls d → W cls d σ H := h1
  refine ⟨i, g1, st1, hv, i1.ok, by rw [i1.s.t]; exact c.tl, fun g' H2 dx s2 o2 ed => ?_⟩
  exact h1 g' H2 σ _ _ (i1.step s2 o2) ⟨gC, dx, _, rfl, ed, rfl, .cons (.int i) .nil⟩
theorem sims_tryX {b : Sms} {x : Str} {i : Nat} {hx : Hx} (hb : SimSs b) : SimS (.tryX b x i hx) := by
  intro X W N sc lv g0 g H0 Hb H zb σ env st s D c si hm hr h
  cases s <;> try exact no_false hm
  rename_i body hs oe fb p
  rcases hs with _ | ⟨hd, tl2⟩
  · exact no_false hm
  rcases hd with ⟨ty, nm, suite, hp⟩
  rcases ty with _ | ty <;> try exact no_false hm
  cases ty <;> try exact no_false hm
  rename_i y py
  rcases nm with _ | n <;> try exact no_false hm
  rcases suite with _ | ⟨s1, tl⟩ <;> try exact no_false hm
  cases s1 <;> try exact no_false hm
  rename_i ro rp
  rcases ro with _ | e' <;> try exact no_false hm
  cases tl <;> try exact no_false hm
  cases tl2 <;> try exact no_false hm
  cases oe <;> cases fb <;> try exact no_false hm
  obtain ⟨hm, h8⟩ := cond_true hm
  obtain ⟨hm, h7⟩ := cond_true hm
  obtain ⟨hm, h6⟩ := cond_true hm
  obtain ⟨hm, h5⟩ := cond_true hm
  obtain ⟨hm, h4⟩ := cond_true hm
  obtain ⟨hm, h3⟩ := cond_true hm
  obtain ⟨h1, h2⟩ := cond_true hm
  have h2 : x = y := of_decide_eq_true h2
  subst h2
  have h5 : N[i]? = some n := of_decide_eq_true h5
  have h6 : sc.names.lookup n = some .local := of_decide_eq_true h6
  have ck : CatchOk X.K X.mg x hx := hr.head
  have rb : Rqs X lv (rqSs b) := hr.tail
  have hdn := okName_debug h4
  have hvis : isVis sc n = true := by unfold isVis; rw [h6]
  have hln : X.env.kindOf n = some .local := by
    show X.env.scope.names.lookup n = some .local
    rw [c.sce]
    exact h6
  obtain ⟨C, gC, ex⟩ : ∃ C : Addr, X.mg x = some (.ref C) ∧ PySem.W.exmOne X.K (.ref C) (.ref C) = some true := by
    cases hx with
    | cst l => exact ck
    | lst f' b => obtain ⟨C, h1, h2, _⟩ := ck; exact ⟨C, h1, h2⟩
    | tup s' f' b => obtain ⟨C, h1, h2, _⟩ := ck; exact ⟨C, h1, h2⟩
  refine WS.of (ps_try_as (i := i) c.stk c.frm (by rw [c.c.eN]; exact c.c.nd) (by rw [c.c.eN]; exact h5) hln ⟨c.c.gl h3, hdn.1, .inl gC⟩ c.c.takes (ts := tsH X.K X.mg x hx i)
    (tb := fun W' D' σ' H' => ∀ pn xe, Takes (X.tr pn xe) W' → PassesOwn (model X.prog X.w) X.A X.env xe → WSs (X.tr pn xe) body D' σ' H')
    (fun W' pn xe tk ps => ⟨fun pins s σ H D I q => q pn xe tk ps pins s I⟩)
    (fun a oe cls d pn hz hf => hx_pss (sc := sc) (by rw [c.c.eN]; exact h5) (c.c.vis hvis) h7 (fun y hy => c.c.gl hy) ck hz hf h8)) ?_
  intro pn xe tk ps
  have c' : SCtx (X.tr pn xe) (wAs X.K (.ref C) i (tsH X.K X.mg x hx i) W D) N sc lv g0.T := ⟨⟨c.c.eN, c.c.nd, c.c.kind, c.c.calm, c.c.guards, c.c.room, tk, ps, c.c.look, c.c.fn, c.c.sm⟩, c.sce, c.stk, c.frm, c.tl⟩
  refine hb (X := X.tr pn xe) body D c' si h1 rb ?_
  have h : PostS X.K X.mg W g0 H0 zb Hb (match evSs b env st with
    | .ex c' ds env' st' => bif decide (c' = x) then (match env'[i]?, hxR hx ds with
      | some _, some (fr, d) => .rt ⟨fr, .dat d⟩ st'
      | _, _ => .no) else .no
    | r => r) D := h
  cases hv : evSs b env st with
  | nx env' st' =>
    rw [hv] at h
    exact h
  | rt y st' =>
    rw [hv] at h
    exact h
  | br env' st' =>
    rw [hv] at h
    exact h
  | ct env' st' =>
    rw [hv] at h
    exact h
  | no =>
    rw [hv] at h
    exact h.elim
  | ex cn ds env' st' =>
    rw [hv] at h
    obtain ⟨hc, hq⟩ := h.cond
    have hc : cn = x := of_decide_eq_true hc
    clear h
    subst hc
    intro g1 H1 σ1 cls d i1 ei
    have gC' : (X.tr pn xe).mg cn = some cls := ei.1
    have ec : cls = .ref C := by
      rw [show (X.tr pn xe).mg cn = X.mg cn from rfl, gC] at gC'
      exact (Option.some.inj gC').symm
    subst ec
    refine ⟨true, ex, fun _ a na => ?_, fun z => by cases z⟩
    cases hsl : env'[i]? with
    | none => rw [hsl] at hq; exact hq.elim
    | some sl =>
    rw [hsl] at hq
    cases hh : hxR hx ds with
    | none => rw [hh] at hq; exact hq.elim
    | some pr =>
    obtain ⟨b0, d0⟩ := pr
    rw [hh] at hq
    have ei : ExcIs X.K X.mg g1 H1 cn ds (.ref C) d := ei
    obtain ⟨j, dj, out⟩ := catch_ok (H0 := H0) hh ei i1.ok i1.s.gone
    refine ⟨fun hl => List.getElem?_set_self (by simpa using hl), gC, j, dj, fun v H2 q => ?_⟩
    obtain ⟨s2, o2, r2⟩ := out v H2 q
    exact hq g1 H2 v (i1.s.trans s2) o2 r2
theorem sims_popt {j i : Nat} : SimS (.popt j i) := by
  intro X W N sc lv g0 g H0 Hb H zb σ env st s D c si hm hr h
  cases s <;> try exact no_false hm
  rename_i ts e' p
  rcases ts with _ | ⟨t, _ | ⟨_, _⟩⟩ <;> (try exact no_false hm) <;> cases t <;> (try exact no_false hm) <;> cases e' <;> try exact no_false hm
  rename_i y py f args kws cp
  cases f <;> try exact no_false hm
  rename_i o m ap
  cases o <;> try exact no_false hm
  rename_i x px
  cases args <;> cases kws <;> try exact no_false hm
  obtain ⟨hm, h7⟩ := cond_true hm
  obtain ⟨hm, h6⟩ := cond_true hm
  obtain ⟨hm, h5⟩ := cond_true hm
  obtain ⟨hm, h4⟩ := cond_true hm
  obtain ⟨hm, h3⟩ := cond_true hm
  obtain ⟨h1, h2⟩ := cond_true hm
  have h1 : N[j]? = some y := of_decide_eq_true h1
  have h3 : N[i]? = some x := of_decide_eq_true h3
  have h6 : m = "pop" := of_decide_eq_true h6
  subst h6
  have h7 : ap.endLine = cp.line := of_decide_eq_true h7
  have hd := okName_debug h5
  have hl := c.c.loc h2
  have hN : X.N.Nodup := by rw [c.c.eN]; exact c.c.nd
  cases hs : env[i]? with
  | none =>
    simp only [evS, hs] at h
    exact h.elim
  | some sl =>
    cases sl <;> (try (simp only [evS, hs] at h; exact h.elim))
    rename_i d
    cases d <;> (try (simp only [evS, hs] at h; exact h.elim))
    rename_i xs
    simp only [evS, hs] at h
    obtain ⟨a, vs, ex, ea, rd, nz, nr⟩ := own_slot si hs
    refine WS.of (ps_set hN (by rw [c.c.eN]; exact h1) hl.1 (pe_bm0 PySem.F.plainAttrs_list PySem.F.slot_list_pop PySem.F.type_list_pop mt_pop (pe_var (by rw [c.c.eN]; exact h3) (c.c.vis h4) hd.1 hd.2.1) rfl (by rw [h7]; exact beq_self_eq_true _)) rfl hl.2) ?_
    cases hl : xs.getLast? with
    | none =>
      rw [hl] at h
      exact h.elim
    | some d =>
      rw [hl] at h
      cases hji : j == i with
      | true =>
        rw [hji] at h
        exact h.elim
      | false =>
        rw [hji] at h
        obtain ⟨w, hw, rw1⟩ := rd.last hl
        have i2 := si.mut hs ex ea nz nr rd.dropLast
        exact ⟨_, ex, .inl ⟨rfl, vs, .inl (.inl ea)⟩, a, vs, w, rfl, rfl, ea, hw, h g _ _ (i2.setVal (x := .dat d) j (RD.holds (holds_own ea nz) rw1))⟩
end MP
/-! Statements: stores into lists and cells; all together. -/
namespace MP
open PySem PyProof.Rows L2 PySem.Spec
theorem plain_sub {env : PySem.Env} {o i : Expr} {pos : Pos} (h : plainIx i = true) : ∀ v, assign (.Subscript o i pos) env v = (do
      let a ← holding [v] (eval o env)
      let b ← holding [v, a] (eval i env)
      standAt pos
      holding [v, a, b] (setItem a b v)
      release [v, a, b] []) := by
  intro v
  cases i <;> first | rfl | exact no_false h
theorem plain_each {env : PySem.Env} {o i : Expr} {pos : Pos} : (assignEach [.Subscript o i pos] env).map (·.2) = [assign (.Subscript o i pos) env] := rfl
theorem sole_sub {env : PySem.Env} {e a b : Expr} {p : Pos} {l : Nat} : swapsWithSole [.Subscript a b p] e l env = pure false := sw_sub (env := env) (e := e) (a := a) (b := b) (p := p) (l := l)
theorem sims_setix {i : Nat} {k e : Ex} (hk : SimE k) (he : SimE e) : SimS (.setix i k e) := by
  intro X W N sc lv g0 g H0 Hb H zb σ env st s D c si hm hr h
  cases s <;> try exact no_false hm
  rename_i ts e' p
  rcases ts with _ | ⟨t, tr⟩
  · exact no_false hm
  cases t <;> try exact no_false hm
  rename_i o k' tp
  cases o <;> try exact no_false hm
  rename_i x px
  cases tr with
  | cons _ _ => exact no_false hm
  | nil =>
    obtain ⟨hm, h6⟩ := cond_true hm
    obtain ⟨hm, h5⟩ := cond_true hm
    obtain ⟨hm, h4⟩ := cond_true hm
    obtain ⟨hm, h3⟩ := cond_true hm
    obtain ⟨h1, h2⟩ := cond_true hm
    have h1 : N[i]? = some x := of_decide_eq_true h1
    have hd := okName_debug h3
    refine WS.of (ps_asg pe_we (pg_sub (pe_var (by rw [c.c.eN]; exact h1) (c.c.vis h2) hd.1 hd.2.1) pe_we set_list (plain_sub h4)) sole_sub rfl plain_each) ?_
    refine he e' false _ (si.at_ c) h6 hr.right (PostS.sr si h fun y st1 g1 v H1 i1 s1 r1 h1 => ?_)
    obtain ⟨d, ed, h1⟩ := h1.dat
    obtain ⟨g2, i2, r2⟩ := step_val si i1 s1 r1
    rw [ed] at r2
    cases hs : env[i]? with
    | none =>
      simp only [hs] at h1
      exact h1.elim
    | some sl =>
      cases sl <;> (try (simp only [hs] at h1; exact h1.elim))
      rename_i dd
      cases dd <;> (try (simp only [hs] at h1; exact h1.elim))
      rename_i xs
      simp only [hs] at h1
      obtain ⟨a, vs, ex, ea, _⟩ := own_slot i2 hs
      refine ⟨_, ex, ?_⟩
      refine hk k' true _ (i2.at_ c) h5 hr.left (PostS.sr i2 h1 fun z st3 g3 w H3 i3 s3 r3 h3 => ?_)
      obtain ⟨n, en, h3⟩ := h3.int
      have ew := (r3.rt en).int
      subst ew
      obtain ⟨a', vs', ex', ea', rd, nz, nr⟩ := own_slot i3 hs
      rw [ex] at ex'
      cases ex'
      cases hj : L2.ixN xs.length n with
      | none =>
        rw [hj] at h3
        exact h3.elim
      | some j =>
        rw [hj] at h3
        have r2' := RD.holds (s3.holds i2.ok) r2
        exact ⟨a, vs', n, j, rfl, rfl, ea', by rw [rd.length]; exact hj, h3 g3 _ σ (i3.mut hs ex ea' nz nr (rd.set r2' j))⟩
theorem sims_dput {i : Nat} {k e : Ex} (hk : SimE k) (he : SimE e) : SimS (.dput i k e) := by
  intro X W N sc lv g0 g H0 Hb H zb σ env st s D c si hm hr h
  cases s <;> try exact no_false hm
  rename_i ts e' p
  rcases ts with _ | ⟨t, tr⟩
  · exact no_false hm
  cases t <;> try exact no_false hm
  rename_i o k' tp
  cases o <;> try exact no_false hm
  rename_i x px
  cases tr with
  | cons _ _ => exact no_false hm
  | nil =>
    obtain ⟨hm, h6⟩ := cond_true hm
    obtain ⟨hm, h5⟩ := cond_true hm
    obtain ⟨hm, h4⟩ := cond_true hm
    obtain ⟨hm, h3⟩ := cond_true hm
    obtain ⟨h1, h2⟩ := cond_true hm
    have h1 : N[i]? = some x := of_decide_eq_true h1
    have hd := okName_debug h3
    refine WS.of (ps_dput (by have := room_u c.c.room; omega) (pe_var (by rw [c.c.eN]; exact h1) (c.c.vis h2) hd.1 hd.2.1) pe_we pe_we sw_sub) ?_
    refine he e' false _ (si.at_ c) h6 hr.right (PostS.sr si h fun y st1 g1 v H1 i1 s1 r1 h1 => ?_)
    obtain ⟨d, ed, h1⟩ := h1.dat
    obtain ⟨g2, i2, r2⟩ := step_val si i1 s1 r1
    rw [ed] at r2
    cases hs : env[i]? with
    | none =>
      simp only [hs] at h1
      exact h1.elim
    | some sl =>
      cases sl <;> (try (simp only [hs] at h1; exact h1.elim))
      rename_i dd
      cases dd <;> (try (simp only [hs] at h1; exact h1.elim))
      rename_i xs
      simp only [hs] at h1
      obtain ⟨a, vs, ex, ea, _⟩ := own_dict i2 hs
      refine ⟨_, ex, ?_⟩
      refine hk k' true _ (i2.at_ c) h5 hr.left (PostS.sr i2 h1 fun z st3 g3 w H3 i3 s3 r3 h3 => ?_)
      obtain ⟨n, en, h3⟩ := h3.int
      have ew := (r3.rt en).int
      subst ew
      obtain ⟨a', vs', ex', ea', rd, nz, nr⟩ := own_dict i3 hs
      rw [ex] at ex'
      cases ex'
      obtain ⟨hz, h3⟩ := h3.cond
      have r2' := RD.holds (s3.holds i2.ok) r2
      refine ⟨a, _, rfl, DPut.k (k := .inl n) ea' (by rw [rd.length]; exact of_decide_eq_true hz), h3 g3 _ σ (i3.mutD hs ex ea' nz nr (rd.put r2'))⟩
/-- a cell with a dict, at a key that it has -/
theorem rkv_put {K : PySem.W.Frag} {g : G} {H : Hp} {s : Str} {v : V} {x : Val} (r : RVal K g H v x) : ∀ {vs : List (Key × V)} {xs : List (Str × Val)}, RKV K g H vs xs →
    RKV K g H (vs.map fun kv => if kv.1 = .inr s then (kv.1, v) else kv) (xs.map fun p => bif p.1 == s then (p.1, x) else p)
  | _, _, .nil => .nil
  | _, _, .cons (k := k) q t => by
    by_cases e : k = s
    · subst e
      have e2 : (k == k) = true := beq_self_eq_true k
      simp only [List.map_cons, if_pos, e2, cond_true]
      exact .cons r (rkv_put r t)
    · have e2 : (k == s) = false := beq_eq_false_iff_ne.mpr e
      have e3 : ¬ (Sum.inr k : Key) = .inr s := fun h => e (Sum.inr.inj h)
      simp only [List.map_cons, if_neg e3, e2, cond_false]
      exact .cons q (rkv_put r t)
theorem rkv_has {K : PySem.W.Frag} {g : G} {H : Hp} {s : Str} : ∀ {vs : List (Key × V)} {xs : List (Str × Val)}, RKV K g H vs xs → (xs.lookup s).isSome = true → (vs.any fun kv => decide (kv.1 = .inr s)) = true
  | _, _, .nil, h => by cases h
  | _, _, .cons (k := k) (xs := xs) q t, h => by
    by_cases e : k = s
    · subst e
      simp
    · have ne : (s == k) = false := beq_eq_false_iff_ne.mpr (Ne.symm e)
      rw [List.lookup_cons, ne] at h
      rw [List.any_cons, rkv_has t h, Bool.or_true]
theorem RKV.length {K : PySem.W.Frag} {g : G} {H : Hp} : ∀ {vs : List (Key × V)} {xs : List (Str × Val)}, RKV K g H vs xs → vs.length = xs.length
  | _, _, .nil => rfl
  | _, _, .cons _ t => congrArg Nat.succ t.length
theorem SI.cell {K : PySem.W.Frag} {g0 g : G} {H0 Hb H : Hp} {zb : Addr → Prop} {st : Store} {σ : L2.St} {env : Env} {n : Nat} {a : Addr} {u : HO} {cl : Cell} (si : SI K g0 H0 zb Hb g H σ env st) (hn : g.rho[n]? = some a) (hc : CellIs K g (upd H a u) a cl) : SI K g0 H0 zb Hb g (upd H a u) σ env (st.set n cl) := by
  have hmem := List.mem_of_getElem? hn
  have hh := holds_cell (u := u) si.ok hmem
  refine ⟨si.s.cell hmem, si.ok.setCell hn hh hc, ⟨si.en.len, fun j s y e1 e2 => ?_, si.en.apart⟩, si.new, si.h.trans hh⟩
  have q := si.en.at_ j s y e1 e2
  cases s with
  | un => trivial
  | val v =>
    obtain ⟨w, ew, rw1⟩ := q
    exact ⟨w, ew, rw1.holds hh⟩
  | own d' =>
    obtain ⟨b, eb, ob⟩ := q
    refine ⟨b, eb, ?_⟩
    cases d' <;> try exact ob.elim
    · obtain ⟨ws, e3, r3, q3⟩ := ob
      have nb : b ≠ a := fun e => q3.2 (e ▸ hmem)
      exact ⟨ws, by rw [upd_ne nb]; exact e3, RDs.holds hh r3, q3⟩
    · obtain ⟨ws, e3, r3, q3⟩ := ob
      have nb : b ≠ a := fun e => q3.2 (e ▸ hmem)
      exact ⟨ws, by rw [upd_ne nb]; exact e3, RKs.holds hh r3, q3⟩
theorem sims_setloc {a k e : Ex} (ha : SimE a) (hk : SimE k) (he : SimE e) : SimS (.setloc a k e) := by
  intro X W N sc lv g0 g H0 Hb H zb σ env st s D c si hm hr h
  cases s <;> try exact no_false hm
  rename_i ts e' p
  rcases ts with _ | ⟨t, _ | ⟨_, _⟩⟩ <;> (try exact no_false hm) <;> cases t <;> (try exact no_false hm)
  rename_i a' k' tp
  obtain ⟨hm, h4⟩ := cond_true hm
  obtain ⟨hm, h3⟩ := cond_true hm
  obtain ⟨h1, h2⟩ := cond_true hm
  refine WS.of (ps_dput (by have := room_u c.c.room; omega) pe_we pe_we pe_we sw_sub) ?_
  refine he e' false _ (si.at_ c) h4 hr.right (PostS.sr si h fun y st1 g1 v H1 i1 s1 r1 h1 => ?_)
  obtain ⟨g2, i2, r2⟩ := step_val si i1 s1 r1
  refine ha a' false _ (i2.at_ c) h2 hr.left.left (PostS.sr i2 h1 fun z st3 g3 w H3 i3 s3 r3 h5 => ?_)
  refine hk k' true _ (i3.at_ c) h3 hr.left.right (PostS.sr i3 h5 fun z' st4 g4 w' H4 i4 s4 r4 h4 => ?_)
  obtain ⟨fr, z⟩ := z
  obtain ⟨fr', z'⟩ := z'
  cases z with
  | dat d => exact h4.elim
  | loc n =>
    cases z' with
    | loc n => exact h4.elim
    | dat d =>
      cases d <;> try exact h4.elim
      rename_i key
      have r3 : RVal X.K g3 H3 w (.loc n) := by cases fr <;> exact r3
      have r3 := r3.step s4 i3.ok
      obtain ⟨b, eb, rfl⟩ := r3
      have ew := (r4.rt (d := .str key) rfl).str
      subst ew
      cases hn : st4[n]? with
      | none =>
        simp only [hn] at h4
        exact h4.elim
      | some cl =>
        cases cl with
        | lst _ =>
          simp only [hn] at h4
          exact h4.elim
        | dic kvs =>
          simp only [hn] at h4
          obtain ⟨hz, h4⟩ := h4.cond
          obtain ⟨hz1, hz2⟩ := cond_true hz
          obtain ⟨kv, ekv, rkv⟩ := i4.ok.cell n b _ eb hn
          have r2' := (r2.step s3 i2.ok).step s4 i3.ok
          refine ⟨b, _, rfl, .inl ⟨kv, .inr key, ekv, rfl, by rw [rkv.length]; exact of_decide_eq_true hz2, rfl⟩, ?_⟩
          have hh := holds_cell (u := .dK (putK kv (.inr key) v)) i4.ok (List.mem_of_getElem? eb)
          have e : putK kv (.inr key) v = kv.map fun kv => if kv.1 = .inr key then (kv.1, v) else kv := by
            unfold putK
            rw [if_pos (rkv_has rkv hz1)]
          have q := rkv_put (s := key) (r2'.holds hh) (rkv.holds hh)
          rw [← e] at q
          exact h4 g4 _ σ (i4.cell eb ⟨_, upd_same, q⟩)
theorem sims_frz {i : Nat} : SimS (.frz i) := fun {X W N sc lv g0 g H0 Hb H zb σ env st} s D c si hm hr h => no_false hm
theorem simss_nil : SimSs .nil := by
  intro X W N sc lv g0 g H0 Hb H zb σ env st l D c si hm hr h
  cases l with
  | cons _ _ => exact no_false hm
  | nil =>
    have h : ∀ g H σ, SI X.K g0 H0 zb Hb g H σ env st → D.nx σ H := h
    exact WSs.of pss_nil (h g H σ si)
theorem simss_step {s : Sm} {ss : Sms} (h1 : SimS s) (h2 : SimSs ss) (hn : ∀ N sc l, mSs N (.cons s ss) sc l = match l with
    | s' :: l' => mS N s sc s' && mSs N ss sc l'
    | [] => false) : SimSs (.cons s ss) := by
  intro X W N sc lv g0 g H0 Hb H zb σ env st l D c si hm hr h
  rw [hn] at hm
  cases l with
  | nil => exact no_false hm
  | cons s' l' =>
    obtain ⟨m1, m2⟩ := cond_true hm
    refine WSs.of (pss_cons ps_ws pss_wss) ?_
    exact h1 s' _ c si m1 hr.left (PostS.seq h fun env st g H σ i q => h2 l' D c i m2 hr.right q)
theorem simss_frz {i : Nat} {ss : Sms} (h2 : SimSs ss) : SimSs (.cons (.frz i) ss) := by
  intro X W N sc lv g0 g H0 Hb H zb σ env st l D c si hm hr h
  have h : PostS X.K X.mg W g0 H0 zb Hb ((match env[i]? with
    | some (.own d) => .nx (List.set env i (.val (.dat d))) st
    | _ => .no : SR).seq (evSs ss)) D := by
    have e : evSs (.cons (.frz i) ss) env st = (match env[i]? with
      | some (.own d) => .nx (List.set env i (.val (.dat d))) st
      | _ => .no : SR).seq (evSs ss) := by
      rfl
    rw [← e]
    exact h
  cases hs : env[i]? with
  | none =>
    rw [hs] at h
    exact h.elim
  | some sl =>
    cases sl with
    | un =>
      rw [hs] at h
      exact h.elim
    | val v =>
      rw [hs] at h
      exact h.elim
    | own d =>
      rw [hs] at h
      obtain ⟨g', si'⟩ := si.frz hs
      exact h2 l D c si' hm hr h
theorem simss_never {ss : Sms} : SimSs (.cons .never ss) := fun {X W N sc lv g0 g H0 Hb H zb σ env st} s D c si hm hr h => h.elim
mutual
theorem simS : (m : Sm) → SimS m
  | .pass => sims_pass
  | .exp e => sims_exp (sim e).1
  | .ret e => sims_ret (sim e).1
  | .set i own e => sims_set (sim e).1 (fun elt ow tg it ifs _ => ⟨(sim elt).1, simXi it, (simXo ifs).2⟩) fun elt ow tg it ifs ow1 tg1 it1 ifs1 _ => ⟨(sim elt).1, simXi it, (simXo ifs).2, simXi it1, (simXo ifs1).2⟩
  | .setT ts e => sims_setT (sim e).1
  | .par ts es => sims_par (simXs es).2.1
  | .parO ts fs es => sims_parO
  | .aug i o e => sims_aug (sim e).1
  | .ite c a b => sims_ite (sim c).2 (simSs a) (simSs b)
  | .whil c b => sims_whil (sim c).2 (simSs b)
  | .forr tg it b => sims_for (simXi it) (simSs b)
  | .brk => sims_brk
  | .cnt => sims_cnt
  | .app i e => sims_app (sim e).1
  | .popd i => sims_popd
  | .popt j i => sims_popt
  | .setix i k e => sims_setix (sim k).1 (sim e).1
  | .dput i k e => sims_dput (sim k).1 (sim e).1
  | .setloc a k e => sims_setloc (sim a).1 (sim k).1 (sim e).1
  | .frz i => sims_frz
  | .never => sims_never
  | .clr i => sims_clr
  | .rais c => sims_rais
  | .tryR b c e => sims_tryR (simSs b)
  | .tryY b c i k => sims_tryY (simSs b)
  | .raisD c f e => sims_raisD (sim e).1
  | .tryX b c i h => sims_tryX (simSs b)
theorem simSs : (m : Sms) → SimSs m
  | .nil => simss_nil
  | .cons s ss => match s with
    | .frz i => simss_frz (simSs ss)
    | .never => simss_never
    | .pass => simss_step (simS .pass) (simSs ss) fun _ _ _ => rfl
    | .exp e => simss_step (simS (.exp e)) (simSs ss) fun _ _ _ => rfl
    | .ret e => simss_step (simS (.ret e)) (simSs ss) fun _ _ _ => rfl
    | .set i own e => simss_step (simS (.set i own e)) (simSs ss) fun _ _ _ => rfl
    | .setT ts e => simss_step (simS (.setT ts e)) (simSs ss) fun _ _ _ => rfl
    | .par ts es => simss_step (simS (.par ts es)) (simSs ss) fun _ _ _ => rfl
    | .parO ts fs es => simss_step (simS (.parO ts fs es)) (simSs ss) fun _ _ _ => rfl
    | .aug i o e => simss_step (simS (.aug i o e)) (simSs ss) fun _ _ _ => rfl
    | .ite c a b => simss_step (simS (.ite c a b)) (simSs ss) fun _ _ _ => rfl
    | .whil c b => simss_step (simS (.whil c b)) (simSs ss) fun _ _ _ => rfl
    | .forr tg it b => simss_step (simS (.forr tg it b)) (simSs ss) fun _ _ _ => rfl
    | .brk => simss_step (simS .brk) (simSs ss) fun _ _ _ => rfl
    | .cnt => simss_step (simS .cnt) (simSs ss) fun _ _ _ => rfl
    | .app i e => simss_step (simS (.app i e)) (simSs ss) fun _ _ _ => rfl
    | .popd i => simss_step (simS (.popd i)) (simSs ss) fun _ _ _ => rfl
    | .popt j i => simss_step (simS (.popt j i)) (simSs ss) fun _ _ _ => rfl
    | .setix i k e => simss_step (simS (.setix i k e)) (simSs ss) fun _ _ _ => rfl
    | .dput i k e => simss_step (simS (.dput i k e)) (simSs ss) fun _ _ _ => rfl
    | .setloc a k e => simss_step (simS (.setloc a k e)) (simSs ss) fun _ _ _ => rfl
    | .clr i => simss_step (simS (.clr i)) (simSs ss) fun _ _ _ => rfl
    | .rais c => simss_step (simS (.rais c)) (simSs ss) fun _ _ _ => rfl
    | .tryR b c e => simss_step (simS (.tryR b c e)) (simSs ss) fun _ _ _ => rfl
    | .tryY b c i k => simss_step (simS (.tryY b c i k)) (simSs ss) fun _ _ _ => rfl
    | .raisD c f e => simss_step (simS (.raisD c f e)) (simSs ss) fun _ _ _ => rfl
    | .tryX b c i h => simss_step (simS (.tryX b c i h)) (simSs ss) fun _ _ _ => rfl
end
end MP
/-! A def's promise from its text. -/
namespace MP
open PySem PyProof.Rows L2 PySem.Spec
theorem rvals_start {K : PySem.W.Frag} {g : G} {H : Hp} {vs : List V} {vals : List Val} {N : List Str} (r : RVals K g H vs vals) : EnvOk K g H (L2.start N vs) (vals.map Slot.val ++ List.replicate (N.length - vals.length) .un) := by
  have hl := r.length
  have low : ∀ (i : Nat), i < vals.length → (vals.map Slot.val ++ List.replicate (N.length - vals.length) .un)[i]? = vals[i]?.map Slot.val := fun i hi => by
    rw [List.getElem?_append_left (by rw [List.length_map]; exact hi), List.getElem?_map]
  have high : ∀ (i : Nat) (s : Slot), ¬ i < vals.length → (vals.map Slot.val ++ List.replicate (N.length - vals.length) .un)[i]? = some s → s = .un := fun i s hi e => by
    rw [List.getElem?_append_right (by rw [List.length_map]; omega), List.getElem?_replicate] at e
    split at e <;> cases e
    rfl
  have noown : ∀ (i : Nat) (d : MP.D), (vals.map Slot.val ++ List.replicate (N.length - vals.length) .un)[i]? ≠ some (.own d) := fun i d e => by
    by_cases hi : i < vals.length
    · rw [low i hi] at e
      cases q : vals[i]? with
      | none =>
        rw [q] at e
        cases e
      | some v =>
        rw [q] at e
        cases e
    · cases high i _ hi e
  refine ⟨?_, fun i s x e1 e2 => ?_, fun i j d d' a e1 => (noown i d e1).elim⟩
  · unfold L2.start
    rw [List.length_append, List.length_append, List.length_map, List.length_map, List.length_replicate, List.length_replicate, hl]
  · by_cases hi : i < vals.length
    · rw [low i hi] at e1
      cases q : vals[i]? with
      | none =>
        rw [q] at e1
        cases e1
      | some v =>
        rw [q] at e1
        cases e1
        obtain ⟨w, hw, rw1⟩ := r.get q
        unfold L2.start at e2
        rw [List.getElem?_append_left (by rw [List.length_map, hl]; exact hi), List.getElem?_map, hw] at e2
        cases e2
        exact ⟨w, rfl, rw1⟩
    · cases high i s hi e1
      trivial
def isLam : Req → Bool
  | .lam => true
  | _ => false
def noLam (l : List Req) : Bool := l.all fun r => !isLam r
theorem noLam_ok {l : List Req} (h : noLam l = true) (m : Req.lam ∈ l) : False := by
  have := List.all_eq_true.mp h _ m
  cases this
/-- THE RULE: a def of the text reckons what its small text reckons -/
theorem fnG_of {base : Heap} (sm : ∃ m, base.Ns sysModules m) {P : Program} {w : World} {K : PySem.W.Frag} {mg : Str → Option Value} {lv : Nat} {x qual : Str} {st : Stmt} {f : Addr} {fd : FuncData} {N ps : List Str} {m : Sms} (F : Fun K x qual st f fd) (S : FnScope N ps (defScope st))
    (hm : mSs N m (defScope st) (defBody st) = true) (hr : ∀ r ∈ rqSs m, ReqOk P w K mg base lv r) (hlam : Req.lam ∈ rqSs m → mg "law" = some (.ref f)) : FnG P w K mg base (lv + 1) f fd ps (spOf K mg base ps.length (fnOf ps.length N.length m)) := by
  obtain ⟨oc, od, kV, doc, pm, an, cdv, ct, slots, rfl, lk, hcd⟩ := F.ex
  refine ⟨fun vs H Q E h => ?_, fun A outer s H args us vs Q E hg hrm e0 hb r hsp => ?_⟩
  · obtain ⟨g, vals, st', rv, _, hl, _⟩ := h
    rw [rv.length, hl]
  · obtain ⟨g, vals, st', rv, ok, hl, tl, post⟩ := hsp
    have hl' : vs.length = ps.length := by rw [rv.length, hl]
    have KX : K.In s.heap := e0.mod.kin.keeps fun b o q => (e0.bs b o q).1
    have lim : s.heap.NoLimit := e0.mod.nolimit.keeps fun b o q => (e0.bs b o q).1
    have kinds : ∀ y ∈ ps.zip us, (defScope st).names.lookup y.1 = some .local ∨ ((defScope st).names.lookup y.1 = some .cell ∧ ((cellsFrom (s.heap.objs.size + 1) (defScope st).names []).lookup y.1).isSome = true) := by
      rintro ⟨n, v⟩ hy
      exact (S.par n (List.of_mem_zip hy).1).imp id fun q => ⟨q, PySem.W.cellsFrom_some _ _ _ (.inl q)⟩
    refine codeAny_call_function hrm.depth (KX _ _ lk) rfl S.co S.gen rfl (PySem.W.codeRec_of KX hcd) (hb _ _ _ _ ?_)
    refine wpAny_newFunctionEnv_cells S.kind kinds fun env he s1 ic => ?_
    subst he
    refine ⟨lim.keeps ic.toInCall.keep, codeAny_func ?_⟩
    have I : Inv (cxOf (L2.CX P w) P w K mg base N qual (defScope st) f cdv A outer s H E) [] (L2.start N vs) H s1 := inv_start S hrm.hd e0 hl' r ic
    have cx : CtxOk (cxOf (L2.CX P w) P w K mg base N qual (defScope st) f cdv A outer s H E) (fun cls d _ H' => E cls d H') N (defScope st) lv :=
      ⟨rfl, S.nd, S.kind, rfl, hg, hrm.deeper _, takes_of rfl rfl rfl rfl, passes_of rfl, fun x k h => .inl h, fun x h => rfl, sm⟩
    have here : ∀ r ∈ rqSs m, LamHere (cxOf (L2.CX P w) P w K mg base N qual (defScope st) f cdv A outer s H E) r := fun r hr' => by
      cases r <;> try trivial
      exact ⟨f, _, _, _, _, hlam hr', lk, rfl, rfl⟩
    have si : SI K g H g.Z H g H (L2.start N vs) (vals.map Slot.val ++ List.replicate (N.length - vals.length) .un) st' := by
      have en := rvals_start (N := N) rv
      refine ⟨.refl, ok, en, fun i d a e1 e2 => ?_, .refl⟩
      exfalso
      by_cases hi : i < vals.length
      · rw [List.getElem?_append_left (by rw [List.length_map]; exact hi), List.getElem?_map] at e1
        cases q : vals[i]? with
        | none =>
          rw [q] at e1
          cases e1
        | some v =>
          rw [q] at e1
          cases e1
      · rw [List.getElem?_append_right (by rw [List.length_map]; omega), List.getElem?_replicate] at e1
        split at e1 <;> cases e1
    have post : PostS K mg (fun cls d _ H' => E cls d H') g H g.Z H (evSs m (vals.map Slot.val ++ List.replicate (N.length - vals.length) .un) st') { nx := fun _ H' => Q .non H', rt := Q } := by
      have post : Post K mg E (relE K false) g H (bif decide (vals.length = ps.length) then
        (match evSs m (vals.map Slot.val ++ List.replicate (N.length - ps.length) .un) st' with
          | .nx _ st => .ok (plain .none) st
          | .rt x st => .ok x st
          | .ex c ds _ st => .exc c ds st
          | _ => .no) else .no) Q := post
      obtain ⟨_, post⟩ := post.cond
      rw [← hl] at post
      cases q : evSs m (vals.map Slot.val ++ List.replicate (N.length - vals.length) .un) st' with
      | nx e s =>
        rw [q] at post
        exact fun g' H' σ' i => post g' .non H' i.s i.ok .none
      | rt y s =>
        rw [q] at post
        exact fun g' H' v i o ro => post g' v H' i o ro
      | ex c ds e s =>
        rw [q] at post
        exact fun g' H' σ' cls d i ei => post g' cls d H' i.s i.ok ei
      | br e s =>
        rw [q] at post
        exact post.elim
      | ct e s =>
        rw [q] at post
        exact post.elim
      | no =>
        rw [q] at post
        exact post.elim
    refine wpAny_mono (simSs m (defBody st) _ ⟨cx, rfl, rfl, rfl, tl⟩ si hm (fun r hr' => ⟨hr r hr', here r hr'⟩) post [] s1 I) (fun fl s' hs => ?_) fun e s' hs => hs
    have fin : ∀ {σ' : L2.St} {H' : Hp} {v : V} {u : Value}, Inv (cxOf (L2.CX P w) P w K mg base N qual (defScope st) f cdv A outer s H E) [] σ' H' s' → RelV v u → Q v H' → CE outer P w H s Q u s' :=
      fun {σ' H' v u} J r q => ⟨v, H', J.os, J.bare, J.base, J.hok, r, q⟩
    cases fl with
    | next =>
      obtain ⟨σ', H', J, q⟩ := hs
      exact fin (v := .non) (u := Value.none) J rfl q
    | ret u =>
      obtain ⟨v, σ', H', J, r, q⟩ := hs
      exact fin J r q
    | brk =>
      obtain ⟨_, _, _, q⟩ := hs
      exact False.elim q
    | cont =>
      obtain ⟨_, _, _, q⟩ := hs
      exact False.elim q
theorem fnOf_len {np ns : Nat} {m : Sms} {vals : List Val} {st : Store} (h : vals.length ≠ np) : fnOf np ns m vals st = .no := by
  show (bif decide (vals.length = np) then _ else R.no) = _
  rw [decide_eq_false h]
  rfl
/-- .. as the module's name has it -/
theorem globFn_of {base : Heap} (sm : ∃ m, base.Ns sysModules m) {P : Program} {w : World} {K : PySem.W.Frag} {mg : Str → Option Value} {lv lv' : Nat} {x q : Str} {st : Stmt} {f : Addr} {fd : FuncData} {N ps : List Str} {m : Sms} (F : Fun K x q st f fd) (S : FnScope N ps (defScope st)) (hb : Binds K fd ps []) (hg : mg x = some (.ref f))
    (hm : mSs N m (defScope st) (defBody st) = true) (hr : ∀ r ∈ rqSs m, ReqOk P w K mg base lv r) (hl : lv + 1 ≤ lv') (hno : noLam (rqSs m) = true) : GlobFn P w K mg base lv' x (fnOf ps.length N.length m) :=
  ⟨lv + 1, f, fd, ps, hl, hg, F.kp, hb, fnG_of sm F S hm hr (fun h => (noLam_ok hno h).elim), fun vals st h => fnOf_len h⟩
end MP
/-! The law's own call. -/
namespace MP
open PySem PyProof.Rows L2 PySem.Spec
def scriptD (ns : List Int) : MP.D := .list (ns.map PyData.int)
theorem rds_ints {K : PySem.W.Frag} {Z : Addr → Prop} {H : Hp} : ∀ ns : List Int, RDs K Z H (ns.map V.int) (ns.map PyData.int)
  | [] => .nil
  | n :: ns => .cons (.int n) (rds_ints ns)
/-- a def that reckons True of the script keeps its promise -/
theorem sp_law {K : PySem.W.Frag} {mg : Str → Option Value} {base : Heap} {sem : Fn} {H : Hp} {a : Addr} {ns : List Int} {T : List (Addr × Str)} (hT : LamX.Tabs T H) (tl : TLs K mg base T) (hS : SqL K H a (ns.map V.int)) (hs : ∃ fr st, sem [.dat (scriptD ns)] [] = .ok ⟨fr, .dat (.bool true)⟩ st) :
    spOf K mg base 1 sem [.ref a] H (fun v _ => v = .bl true) fun _ _ _ => False := by
  obtain ⟨fr, st, e⟩ := hs
  have zs : SqZ K (fun b => b = a ∧ H a ≠ none) H a (ns.map V.int) := by
    rcases hS with q | q
    · exact .inl ⟨⟨rfl, by rcases q with q | ⟨_, q⟩ <;> (rw [q]; exact fun z => by cases z)⟩, q⟩
    · exact .inr (.inr q)
  refine ⟨⟨fun b => b = a ∧ H a ≠ none, [], T⟩, [.dat (scriptD ns)], [], .cons (.list zs (rds_ints ns)) .nil, ⟨fun b _ => List.not_mem_nil, fun b z => z.1 ▸ z.2, rfl, List.nodup_nil, fun n a c h => (by cases h), hT⟩, rfl, tl, ?_⟩
  rw [e]
  intro g' v H' s o r
  cases fr with
  | false =>
    cases (show RD K g'.Z H' v (.bool true) from r)
    rfl
  | true =>
    obtain ⟨b, _, _, q⟩ := r
    exact q.elim
/-- the def law, its code object and its table -/
structure LawTab (K : PySem.W.Frag) (mg : Str → Option Value) (fa : Addr) (fd : FuncData) (c P : Addr) (h : Heap) : Prop where
  mgl : mg "law" = some (.ref fa)
  fn : ∃ oc od osl, K.lookup fa = some ⟨oc, od, .func fd, osl⟩
  code : fd.code = .ref c
  nP : K.lookup P = none
  tab : h.get? P = some { cls := .none, data := .fields #[] }
  hd : PySem.W.CodeHd h c P
  itb : isCodeTable h P
  bm : ∃ (bm : Addr) (ob : Obj), mg "__builtins__" = some (.ref bm) ∧ bm ≠ builtinsNs ∧ h.get? bm = some ob ∧ ob.cls = .type "module" ∧ ob.dict = some builtinsNs ∧ ob.data = .plain
/-- what may be tracked at the call: the script, and the table -/
structure Starts (K : PySem.W.Frag) (a P : Addr) (vs : List Value) (ns : List Int) (H : Hp) : Prop where
  only : ∀ b u, H b = some u → (b = a ∧ u = .frz { cls := .type "list", data := .seq vs.toArray } (.lst (ns.map V.int)) ∧ K.lookup a = none) ∨ (b = P ∧ u = .tbl #[])
  at_ : H P = some (.tbl #[])
/-- where nothing but that may be tracked, the call can be entered -/
theorem entered {P : Program} {w : World} {K : PySem.W.Frag} {mg mb : Str → Option Value} {s : Shared} {a fa c Pt : Addr} {fdl : FuncData} {vs : List Value} {ns : List Int} (KX : K.In s.heap) (hns : s.heap.Ns mainGlobals mg) (hb : s.heap.Ns builtinsNs mb) (hbb : ∀ x : Str, x ≠ "__name__" → mb x = bootBuiltins x)
    (hlim : s.heap.NoLimit) (hgen : s.gens = #[]) (ha : s.heap.get? a = some { cls := .type "list", data := .seq vs.toArray }) (LT : LawTab K mg fa fdl c Pt s.heap) (H : Hp) (hO : Starts K a Pt vs ns H) (hok : HOk P w H s.heap) (hsm : ∃ m, s.heap.Ns sysModules m) :
    Env0 P w K mg (hidT s.heap H) callerA [] s H ∧ K.In (hidT s.heap H) ∧ (hidT s.heap H).Ns mainGlobals mg ∧ (∃ m, (hidT s.heap H).Ns sysModules m) ∧ TLs K mg (hidT s.heap H) [(Pt, lamQ fdl)] := by
  have free : ∀ {b : Addr} {o : Obj}, s.heap.get? b = some o → (b = a → K.lookup a = none → False) → (b = Pt → False) → H b = none := fun {b o} e h h2 => by
    cases q : H b with
    | none => rfl
    | some u =>
      rcases hO.only b u q with ⟨h1, _, h3⟩ | ⟨h1, _⟩
      · exact (h h1 h3).elim
      · exact (h2 h1).elim
  have kin : K.In (hidT s.heap H) := fun b o e => hidT_get (KX b o e) (free (KX b o e) (fun h1 h3 => by
    subst h1
    rw [h3] at e
    cases e) fun h1 => by
    subst h1
    rw [LT.nP] at e
    cases e)
  have notSeq : ∀ {b : Addr} {o : Obj}, s.heap.get? b = some o → (∀ vs n, o.data ≠ .seq vs n) → o.data ≠ .fields #[] → H b = none := fun {b o} e h1 h2 => free e (fun z _ => by
    subst z
    rw [ha] at e
    cases e
    exact h1 _ _ rfl) fun z => by
    subst z
    rw [LT.tab] at e
    cases e
    exact h2 rfl
  have ns' : ∀ {b : Addr} {m : Str → Option Value}, s.heap.Ns b m → (hidT s.heap H).Ns b m := by
    rintro b m ⟨o, es, ep, e, d, r⟩
    exact ⟨o, es, ep, hidT_get e (notSeq e (fun vs n z => by rw [d] at z; cases z) fun z => by rw [d] at z; cases z), d, r⟩
  have hlim' : (hidT s.heap H).NoLimit := by
    obtain ⟨mc, h1, h2⟩ := hlim
    exact ⟨mc, ns' h1, h2⟩
  have TB : LamX.TabB (hidT s.heap H) mg c Pt := by
    refine ⟨?_, ?_, fun z => ?_⟩
    · obtain ⟨o, us, file, tf, flags, tg, inF, text, tt, e1, r1, r2, r3, r4, r5, r6, r7, r8, hne⟩ := LT.hd
      exact ⟨o, us, file, tf, flags, tg, inF, text, tt, hidT_get e1 (notSeq e1 (fun vs n z => by rw [r2] at z; cases z) fun z => by
        rw [r2] at z
        cases z
        simp at r3), r1, r2, r3, r4, r5, r6, r7, r8, hne⟩
    · obtain ⟨bm, ob, b1, b2, b3, b4, b5, b6⟩ := LT.bm
      have nG : bm ≠ mainGlobals := fun q => by
        obtain ⟨o, es, ep, e, hd, _⟩ := hns
        rw [q, e] at b3
        cases b3
        rw [hd] at b6
        cases b6
      have nP : bm ≠ Pt := fun q => by
        rw [q, LT.tab] at b3
        cases b3
        cases b6
      exact ⟨bm, ob, b1, b2, nG, nP, hidT_get b3 (notSeq b3 (fun vs n z => by rw [b6] at z; cases z) fun z => by rw [b6] at z; cases z), b4, b5, b6⟩
    · obtain ⟨o, es, ep, e, hd, _⟩ := hns
      rw [z, LT.tab] at e
      cases e
      cases hd
  have tl : TLs K mg (hidT s.heap H) [(Pt, lamQ fdl)] := fun f oc od fd osl m1 l1 => by
    obtain ⟨oc2, od2, osl2, l2⟩ := LT.fn
    rw [LT.mgl] at m1
    cases m1
    rw [l2] at l1
    cases l1
    refine ⟨c, Pt, LT.code, TB, List.mem_cons_self, fun p hp _ => ?_⟩
    rw [List.mem_singleton.mp hp]
  exact ⟨⟨rfl, ⟨kin, ns' hns, ⟨mb, ns' hb, hbb⟩, hlim'⟩, fun b o e => of_hidT e, Nat.le_of_eq (hidT_size _ _), trivial, fun b h => (by cases h), hok, .of_eq hgen⟩, kin, ns' hns, hsm.imp fun _ q => ns' q, tl⟩
theorem law_callG {P : Program} {w : World} {K : PySem.W.Frag} {mg mb : Str → Option Value} {k : Nat} {fa a c Pt : Addr} {fd fdl : FuncData} {x : Str} {sem : Fn} {s : Shared} {vs : List Value} {ns : List Int}
    (KX : K.In s.heap) (hns : s.heap.Ns mainGlobals mg) (hb : s.heap.Ns builtinsNs mb) (hbb : ∀ x : Str, x ≠ "__name__" → mb x = bootBuiltins x) (hlim : s.heap.NoLimit) (hgen : s.gens = #[])
    (ha : s.heap.get? a = some { cls := .type "list", data := .seq vs.toArray }) (LT : LawTab K mg fa fdl c Pt s.heap) (hi : IntsAre vs ns) (hl : ns.length ≤ sizeLine) (hr : Room k callerA)
    (hsm : ∃ m, s.heap.Ns sysModules m) (F : ∀ base : Heap, K.In base → base.Ns mainGlobals mg → (∃ m, base.Ns sysModules m) → FnG P w K mg base k fa fd [x] (spOf K mg base 1 sem)) (hbind : ∀ (s : Shared) (u : Value), BindsTo s fd ⟨[u], []⟩ [(x, u)])
    (hs : ∃ fr st, sem [.dat (scriptD ns)] [] = .ok ⟨fr, .dat (.bool true)⟩ st) :
    codeAny (model P w) callerA (.call (.ref fa) ⟨[.ref a], []⟩) (fun r s' => r = .ok (.ret (.bool true)) ∧ OldK s.heap s'.heap ∧ s'.os = s.os ∧ AllBare s'.gens) s := by
  have rv := vals_ints hi
  have lenV := hi.length
  have naP : Pt ≠ a := fun z => by
    have e := LT.tab
    rw [z, ha] at e
    cases e
  obtain ⟨H, hO, hS, hok⟩ : ∃ H : Hp, Starts K a Pt vs ns H ∧ SqL K H a (ns.map V.int) ∧ HOk P w H s.heap := by
    have tOk : ∀ H : Hp, ObjOk P w H s.heap Pt (.tbl #[]) := fun H => LT.tab
    cases hk : K.lookup a with
    | none =>
      refine ⟨fun b => if b = a then some (.frz { cls := .type "list", data := .seq vs.toArray } (.lst (ns.map V.int))) else if b = Pt then some (.tbl #[]) else none, ⟨fun b u q => ?_, (if_neg naP).trans (if_pos rfl)⟩, .inl (.inr ⟨_, if_pos rfl⟩), fun b u q => ?_⟩
      · by_cases h : b = a
        · subst h
          cases (if_pos rfl).symm.trans q
          exact .inl ⟨rfl, rfl, hk⟩
        · have q := (if_neg h).symm.trans q
          by_cases h2 : b = Pt
          · cases (if_pos h2).symm.trans q
            exact .inr ⟨h2, rfl⟩
          · cases (if_neg h2).symm.trans q
      · by_cases h : b = a
        · subst h
          cases (if_pos rfl).symm.trans q
          exact ⟨ha, by simpa using hl, vs, _, rv, ha⟩
        · have q := (if_neg h).symm.trans q
          by_cases h2 : b = Pt
          · cases (if_pos h2).symm.trans q
            rw [h2]
            exact tOk _
          · cases (if_neg h2).symm.trans q
    | some o =>
      have e := KX a o hk
      rw [ha] at e
      cases e
      refine ⟨fun b => if b = Pt then some (.tbl #[]) else none, ⟨fun b u q => ?_, if_pos rfl⟩, .inr ⟨_, vs.toArray, _, hk, rfl, rfl, rfl, by rw [List.size_toArray, lenV]; exact hl, by simpa using rv⟩, fun b u q => ?_⟩
      · by_cases h2 : b = Pt
        · cases (if_pos h2).symm.trans q
          exact .inr ⟨h2, rfl⟩
        · cases (if_neg h2).symm.trans q
      · by_cases h2 : b = Pt
        · cases (if_pos h2).symm.trans q
          rw [h2]
          exact tOk _
        · cases (if_neg h2).symm.trans q
  obtain ⟨e0, kin, nsb, smb, tl⟩ := entered KX hns hb hbb hlim hgen ha LT H hO hok hsm
  have hT : LamX.Tabs [(Pt, lamQ fdl)] H := fun p hp => by
    rw [List.mem_singleton.mp hp]
    exact .nil hO.at_
  refine codeAny_mono ((F _ kin nsb smb).run callerA [] s H ⟨[.ref a], []⟩ [.ref a] [.ref a] _ _ rfl hr e0 (hbind s (.ref a)) (.cons rfl .nil) (sp_law hT tl hS hs)) fun r s' h => ?_
  cases r with
  | error e =>
    obtain ⟨_, _, _, _, _, _, _, _, _, _, _, _, no⟩ := h
    exact no.elim
  | ok fl =>
    cases fl with
    | ret u =>
      obtain ⟨v, H', eo, eb, un, hok', r', q⟩ := h
      subst q
      have eu : u = Value.bool true := r'
      subst eu
      obtain ⟨more, zP⟩ := un.tbls Pt #[] hO.at_
      have grown : s'.heap.get? Pt = some { cls := .none, data := .fields more } := by
        have q := hok' Pt _ zP
        have q : s'.heap.get? Pt = some { cls := .none, data := .fields (#[] ++ more) } := q
        rw [Array.empty_append] at q
        exact q
      have key : ∀ b o, b ≠ Pt → s.heap.get? b = some o → s'.heap.get? b = some o := fun b o nb e => by
        cases q : H b with
        | none => exact un.keep b o e q (by simp [frs]) (by simp)
        | some u =>
          rcases hO.only b u q with ⟨h1, h2, _⟩ | ⟨h1, _⟩
          · subst h2
            obtain ⟨e1, _⟩ := hok b _ q
            obtain ⟨e2, _⟩ := hok' b _ (un.frzs b _ _ q)
            rw [e] at e1
            cases e1
            exact e2
          · exact (nb h1).elim
      refine ⟨rfl, ⟨fun b o e => ?_, fun b o e => ?_⟩, eo, eb⟩
      · by_cases hb2 : b = Pt
        · subst hb2
          rw [LT.tab] at e
          cases e
          exact .inr (.inl ⟨LT.itb, rfl, #[], more, rfl, by rw [Array.empty_append]; exact grown⟩)
        · exact .inl (key b o hb2 e)
      · by_cases hb2 : b = Pt
        · subst hb2
          exact ⟨_, grown⟩
        · exact ⟨o, key b o hb2 e⟩
    | next => exact h.elim
    | brk => exact h.elim
    | cont => exact h.elim
end MP
namespace MP
open PySem PyProof.Rows L2 PySem.Spec
theorem walk_ofG {l : PySem.W.OpenLaw} {n k : Nat} {q : Program} {loose : List Str} {XP : (Str → Option Value) → Heap → Prop} {YP : World → Heap → Prop} {d : DefRec} {K : Params → PySem.W.Frag} {x : Str} {sem : Fn}
    (hn : l.most = some n) (hz : n ≤ sizeLine) (hdf : d.params.defaults = []) (hr : Room k callerA) (hi : importsNone q = true) (hrec : ((recsOf q).any fun e => e.name == d.name) = true) (hname : d.name = "law") (hY : ∀ (w : World) (h : Heap), YP w h → (K w.params).In h)
    (F : ∀ (w : World) (mg : Str → Option Value) (fa : Addr) (h : Heap), (K w.params).In h → h.Ns mainGlobals mg → mg d.name = some (.ref fa) →
      (∃ (oc : Value) (od : Option Addr) (fd : FuncData) (osl : Array (Option Value)) (c Pt : Addr) (e : Value) (dd : Option Addr) (us : Array Value) (sl : Array (Option Value)), (K w.params).lookup fa = some ⟨oc, od, .func fd, osl⟩ ∧ fd.code = .ref c ∧ (K w.params).lookup c = some ⟨e, dd, .fields us, sl⟩ ∧ us[11]? = some (.ref Pt) ∧ (K w.params).lookup Pt = none) ∧
      ∃ fd : FuncData, (∀ (s : Shared) (u : Value), BindsTo s fd ⟨[u], []⟩ [(x, u)]) ∧
      ∀ base : Heap, (K w.params).In base → base.Ns mainGlobals mg → (∃ m, base.Ns sysModules m) → FnG l.prog w (K w.params) mg base k fa fd [x] (spOf (K w.params) mg base 1 sem))
    (hs : ∀ ns : List Int, ns.length ≤ n → ∃ fr st, sem [.dat (scriptD ns)] [] = .ok ⟨fr, .dat (.bool true)⟩ st) : PySem.W.WalkO q loose XP YP l.row.toRowW d [] (fun f vs => PySem.call f vs) := by
  refine Att.attach_call hn hdf fun w s0 s1 mg mb fa o pm cd doc a vs ns G Y ho hd hcd hmg hobj hints hlen hgen => ?_
  have KX := hY w _ Y
  obtain ⟨⟨oc, od, fdl, osl, c, Pt, e, dd, us, sl, k1, k2, k3, k4, k5⟩, fd, hb, hF⟩ := F w mg fa _ KX G.T.g hmg
  have LT : LawTab (K w.params) mg fa fdl c Pt s1.heap := by
    obtain ⟨dL, hm, hn1⟩ := List.any_eq_true.mp hrec
    have hn2 : dL.name = d.name := beq_iff_eq.mp hn1
    obtain ⟨a', o', fd', c', P', h1, h2, h3, h4, h5, h6⟩ := G.T.tab dL hm
    rw [hn2, hmg] at h1
    cases h1
    have g1 := KX _ _ k1
    rw [g1] at h2
    cases h2
    cases h3
    rw [k2] at h4
    cases h4
    have h6' := h6
    obtain ⟨⟨o2, v2, e1, e2, e3, e4⟩, hP⟩ := h6'
    have g2 := KX _ _ k3
    rw [g2] at e1
    cases e1
    cases e3
    rw [k4] at e4
    cases e4
    exact ⟨by rw [← hname]; exact hmg, ⟨_, _, _, k1⟩, k2, k5, hP, PySem.W.CodeHd.of h5 h6, h6.isCodeTable, G.T.bmain⟩
  exact law_callG KX G.T.g G.T.b G.T.builtins G.T.nolimit hgen hobj LT hints (Nat.le_trans hlen hz) hr ((G.T.seer hi).mods.imp fun _ q => q.1) hF hb (hs ns hlen)
end MP
/-! What a text's defs ask for, in short lists. -/
namespace MP
open PySem PyProof.Rows L2 PySem.Spec
def ReqsOk (P : Program) (w : World) (K : PySem.W.Frag) (mg : Str → Option Value) (base : Heap) (lv : Nat) : List Req → Prop
  | [] => True
  | r :: l => ReqOk P w K mg base lv r ∧ ReqsOk P w K mg base lv l
section
variable {P : Program} {w : World} {K : PySem.W.Frag} {mg : Str → Option Value} {base : Heap} {lv : Nat}
theorem ReqsOk.get : ∀ {l : List Req} {i : Nat}, ReqsOk P w K mg base lv l → i < l.length → ReqOk P w K mg base lv (l.getD i (.non ""))
  | [], _, _, h => by cases h
  | r :: l, 0, h, _ => h.1
  | r :: l, i + 1, h, q => by
    rw [List.getD_cons_succ]
    exact h.2.get (Nat.lt_of_succ_lt_succ q)
theorem reqs_of {l L : List Req} (ix : List Nat) (e : L = ix.map fun i => l.getD i (.non "")) (hb : (ix.all fun i => decide (i < l.length)) = true) (h : ReqsOk P w K mg base lv l) : ∀ r ∈ L, ReqOk P w K mg base lv r := by
  intro r hr
  rw [e] at hr
  obtain ⟨i, hi, rfl⟩ := List.mem_map.mp hr
  exact h.get (of_decide_eq_true (List.all_eq_true.mp hb i hi))
theorem GlobFn.up {x : Str} {sem : Fn} {lv' : Nat} (h : GlobFn P w K mg base lv x sem) (hl : lv ≤ lv') : GlobFn P w K mg base lv' x sem := by
  obtain ⟨k, f, fd, ps, hk, q⟩ := h.ex
  exact ⟨k, f, fd, ps, Nat.le_trans hk hl, q⟩
/-- a def of the text, its places in the heap known -/
theorem globFn_in {h : Heap} {lv : Nat} {x : Str} {st : Stmt} {f : Addr} {N ps : List Str} {m : Sms} {oc : Value} {od an : Option Addr} {osl : Array (Option Value)} {kV doc pm cdv ct : Value} (X : K.In h) (G : h.Ns mainGlobals mg) (sm : ∃ m, base.Ns sysModules m)
    (a : PySem.W.nsIn K mainGlobals x = some (some (.ref f))) (l : K.lookup f = some ⟨oc, od, .func (PySem.W.fnOf x x (defArgs st) (defBody st) (defScope st) .none kV doc pm an cdv ct), osl⟩)
    (c : PySem.W.codeIn K cdv x = true) (k : PySem.W.keepIn K (.ref f) = true) (S : FnScope N ps (defScope st))
    (hb : ∀ (kV doc pm : Value) (an : Option Addr) (cdv ct : Value) (us : List Value), us.length = ps.length → bindArgs (PySem.W.fnOf x x (defArgs st) (defBody st) (defScope st) .none kV doc pm an cdv ct) ⟨us, []⟩ = pure (ps.zip us))
    (hm : mSs N m (defScope st) (defBody st) = true) (hr : ∀ r ∈ rqSs m, ReqOk P w K mg base lv r) (hno : noLam (rqSs m) = true := by decide +kernel) : GlobFn P w K mg base (lv + 1) x (fnOf ps.length N.length m) :=
  globFn_of sm (fun_mk l c k) S ((fun_mk l c k).binds hb) (PySem.W.mg_of X G a) hm hr (Nat.le_refl _) hno
/-! a constant of the text, its places in the heap known -/
mutual
inductive CV (K : PySem.W.Frag) : Value → MP.D → Prop
  | none : CV K .none .none
  | bool (b : Bool) : CV K (.bool b) (.bool b)
  | int {i : Int} (t : Tok) : CV K (.int i t) (.int i)
  | str {x : Str} (t : Tok) : CV K (.str x t) (.str x)
  | k {p : Addr} {u : Option Addr} {vs : List Value} {n : Nat} {sl : Array (Option Value)} {ds : List MP.D} (h : K.lookup p = some ⟨.type "tuple", u, .seq vs.toArray n, sl⟩) (r : CVs K vs ds) (hz : decide (vs.length ≤ 1000) = true := by rfl) : CV K (.ref p) (.tuple ds)
inductive CVs (K : PySem.W.Frag) : List Value → List MP.D → Prop
  | nil : CVs K [] []
  | cons {v : Value} {vs : List Value} {d : MP.D} {ds : List MP.D} (h : CV K v d) (r : CVs K vs ds) : CVs K (v :: vs) (d :: ds)
end
mutual
theorem CV.rd {K : PySem.W.Frag} : ∀ {u : Value} {d : MP.D}, CV K u d → ∃ v, RelV v u ∧ ∀ Z H, RD K Z H v d
  | _, _, .none => ⟨.non, rfl, fun _ _ => .none⟩
  | _, _, .bool b => ⟨.bl b, rfl, fun _ _ => .bool b⟩
  | _, _, .int t => ⟨.int _, ⟨t, rfl⟩, fun _ _ => .int _⟩
  | _, _, .str t => ⟨.str _, ⟨t, rfl⟩, fun _ _ => .str _⟩
  | _, _, .k (p := p) (vs := us) h r hz => by
    obtain ⟨vs, r1, r2⟩ := CVs.rd r
    have z : us.toArray.size ≤ sizeLine := by
      rw [List.size_toArray]
      exact Nat.le_trans (of_decide_eq_true hz) (by decide)
    exact ⟨.ref p, rfl, fun Z H => .tuple (.inr ⟨_, us.toArray, _, h, rfl, rfl, z, r1⟩) (r2 Z H)⟩
theorem CVs.rd {K : PySem.W.Frag} : ∀ {u : List Value} {d : List MP.D}, CVs K u d → ∃ v, Vals v u ∧ ∀ Z H, RDs K Z H v d
  | _, _, .nil => ⟨[], .nil, fun _ _ => .nil⟩
  | _, _, .cons h r => by
    obtain ⟨v, a1, a2⟩ := CV.rd h
    obtain ⟨vs, b1, b2⟩ := CVs.rd r
    exact ⟨v :: vs, .cons a1 b1, fun Z H => .cons (a2 Z H) (b2 Z H)⟩
end
theorem cst_of {h : Heap} {x : Str} {u : Value} {d : MP.D} (X : K.In h) (G : h.Ns mainGlobals mg) (a : PySem.W.nsIn K mainGlobals x = some (some u)) (c : CV K u d) : GlobCst K mg x d := by
  obtain ⟨v, r, q⟩ := c.rd
  exact ⟨u, v, PySem.W.mg_of X G a, r, q⟩
end
end MP
/-! What the written part must say of an error class that bears something, and of a def that calls what it got. -/
namespace MP
open PySem PySem.W PySem.Calls PyProof.Rows
open PySem PyProof.Rows L2 PySem.Spec
section
variable {K : PySem.W.Frag} {mg : Str → Option Value}
/-- a def that calls what it got, its places in the heap known -/
theorem hfn_in {h : Heap} {x a : Str} {st : Stmt} {f : Addr} {N : List Str} {k : HK} {oc : Value} {od an : Option Addr} {osl : Array (Option Value)} {kV doc pm cdv ct : Value} (X : K.In h) (G : h.Ns mainGlobals mg)
    (e : PySem.W.nsIn K mainGlobals x = some (some (.ref f))) (l : K.lookup f = some ⟨oc, od, .func (PySem.W.fnOf x x (defArgs st) (defBody st) (defScope st) .none kV doc pm an cdv ct), osl⟩)
    (c : PySem.W.codeIn K cdv x = true) (kp : PySem.W.keepIn K (.ref f) = true) (S : FnScope N [a] (defScope st))
    (hb : ∀ (kV doc pm : Value) (an : Option Addr) (cdv ct : Value) (us : List Value), us.length = 1 → bindArgs (PySem.W.fnOf x x (defArgs st) (defBody st) (defScope st) .none kV doc pm an cdv ct) ⟨us, []⟩ = pure ([a].zip us))
    (t : (decide (N[0]? = some a) && isVis (defScope st) a && okName a && hkS k a N (defScope st) (defBody st)) = true) (cat : CatchOk K mg k.c k.h) :
    ∃ g pg bg sg dV kV doc pm cdv ct oc an od osl Ng a, HFn K mg x k g pg bg sg dV kV doc pm cdv ct oc an od osl Ng a := by
  simp only [Bool.and_eq_true, decide_eq_true_eq] at t
  exact ⟨f, _, _, _, _, _, _, _, _, _, _, _, _, _, N, a, ⟨PySem.W.mg_of X G e, kp, l, c, (fun_mk l c kp).binds hb, S, t.1.1.1, t.1.1.2, t.1.2, t.2, cat⟩⟩
end
end MP
/-! Reckoning with the small language. -/
namespace MP
open PySem PyProof.Rows L2 PySem.Spec
section
variable {α β : Type} {st st1 : Store} {env : Env} {pk : Bool}
@[simp] theorem bind_ok {a : α} {f : α → Store → R β} : (R.ok a st).bind f = f a st := rfl
@[simp] theorem bind_exc {c : Str} {ds : List (Str × MP.D)} {f : α → Store → R β} : (R.exc c ds st : R α).bind f = .exc c ds st := rfl
@[simp] theorem bind_no {f : α → Store → R β} : (R.no : R α).bind f = .no := rfl
@[simp] theorem sr_ok {a : α} {f : α → Store → SR} : (R.ok a st).sr env f = f a st := rfl
@[simp] theorem sr_no {f : α → Store → SR} : (R.no : R α).sr env f = .no := rfl
@[simp] theorem sr_exc {c : Str} {ds : List (Str × MP.D)} {f : α → Store → SR} : (R.exc c ds st : R α).sr env f = .ex c ds env st := rfl
@[simp] theorem seq_nx {f : Env → Store → SR} : (SR.nx env st).seq f = f env st := rfl
@[simp] theorem seq_rt {f : Env → Store → SR} {x : RV} : (SR.rt x st).seq f = .rt x st := rfl
@[simp] theorem seq_br {f : Env → Store → SR} : (SR.br env st).seq f = .br env st := rfl
@[simp] theorem seq_ct {f : Env → Store → SR} : (SR.ct env st).seq f = .ct env st := rfl
@[simp] theorem turn_nx {f : Env → Store → SR} : turn (SR.nx env st) f = f env st := Eq.trans rfl rfl
@[simp] theorem turn_ct {f : Env → Store → SR} : turn (SR.ct env st) f = f env st := Eq.trans rfl rfl
@[simp] theorem turn_br {f : Env → Store → SR} : turn (SR.br env st) f = .nx env st := Eq.trans rfl rfl
@[simp] theorem turn_rt {f : Env → Store → SR} {x : RV} : turn (SR.rt x st) f = .rt x st := Eq.trans rfl rfl
@[simp] theorem datOf_dat {b : Bool} {d : MP.D} : datOf ⟨b, .dat d⟩ st = .ok d st := Eq.trans rfl rfl
@[simp] theorem intOf_int {b : Bool} {d : Int} : intOf ⟨b, .dat (.int d)⟩ st = .ok d st := Eq.trans rfl rfl
@[simp] theorem boolOf_bool {b : Bool} {d : Bool} : boolOf ⟨b, .dat (.bool d)⟩ st = .ok d st := Eq.trans rfl rfl
@[simp] theorem plain_eq {d : MP.D} : plain d = ⟨false, .dat d⟩ := Eq.trans rfl rfl
@[simp] theorem fresh_eq {d : MP.D} : fresh d = ⟨true, .dat d⟩ := Eq.trans rfl rfl
@[simp] theorem ofBD_some {b : Bool} {d : MP.D} : ofBD (some (b, d)) st = .ok ⟨b, .dat d⟩ st := Eq.trans rfl rfl
@[simp] theorem ofB_some {b : Bool} : ofB (some b) st = .ok (plain (.bool b)) st := Eq.trans rfl rfl
@[simp] theorem rOpt_some {a : α} : rOpt (some a) st = .ok a st := Eq.trans rfl rfl
@[simp] theorem seqOf_l {xs : List MP.D} : seqOf (.list xs) = some xs := Eq.trans rfl rfl
@[simp] theorem seqOf_t {xs : List MP.D} : seqOf (.tuple xs) = some xs := Eq.trans rfl rfl
@[simp] theorem lit_int {i : Int} : (Lit.int i).d = .int i := Eq.trans rfl rfl
@[simp] theorem lit_str {i : Str} : (Lit.str i).d = .str i := Eq.trans rfl rfl
@[simp] theorem lit_bool {i : Bool} : (Lit.bool i).d = .bool i := Eq.trans rfl rfl
@[simp] theorem lit_none : Lit.none.d = .none := Eq.trans rfl rfl
end
theorem seq_of {s : Sm} {ss : Sms} {env env' : Env} {st st' : Store} {r : SR} (h : evS s env st = .nx env' st') (q : evSs ss env' st' = r) : evSs (.cons s ss) env st = r := by
  show (evS s env st).seq (evSs ss) = r
  rw [h]
  exact q
theorem seq_end {s : Sm} {ss : Sms} {env : Env} {st st' : Store} {x : RV} (h : evS s env st = .rt x st') : evSs (.cons s ss) env st = .rt x st' := by
  show (evS s env st).seq (evSs ss) = _
  rw [h]
  rfl
theorem ite_of {c : Ex} {a b : Sms} {env : Env} {st st1 : Store} {fr k : Bool} {r : SR} (h : evE c true env st = .ok ⟨fr, .dat (.bool k)⟩ st1) (q : (bif k then evSs a env st1 else evSs b env st1) = r) : evS (.ite c a b) env st = r := by
  show ((evE c true env st).sr env fun x st => (boolOf x st).sr env fun k st => bif k then evSs a env st else evSs b env st) = r
  rw [h]
  exact q
theorem fn_ret {np ns : Nat} {m : Sms} {vs : List Val} {st st' : Store} {x : RV} (hl : vs.length = np) (h : evSs m (vs.map Slot.val ++ List.replicate (ns - np) .un) st = .rt x st') : fnOf np ns m vs st = .ok x st' := by
  show (bif decide (vs.length = np) then (match evSs m (vs.map Slot.val ++ List.replicate (ns - np) .un) st with
    | .nx _ st => R.ok (plain .none) st
    | .rt x st => R.ok x st
    | .ex c ds _ st => R.exc c ds st
    | _ => R.no) else R.no) = _
  rw [decide_eq_true hl, h]
  rfl
/-! ### loops -/
def TurnsTo (x : SR) (env : Env) (st : Store) : Prop := x = .nx env st ∨ x = .ct env st
theorem forL_nx {tg : Tg} {body : Env → Store → SR} (P : List MP.D → Env → Store → Prop)
    (h : ∀ d r env st, P (d :: r) env st → ∃ env1 env2 st2, bindTg tg d env = some env1 ∧ TurnsTo (body env1 st) env2 st2 ∧ P r env2 st2) : ∀ items env st, P items env st → ∃ env' st', forL tg body items env st = .nx env' st' ∧ P [] env' st'
  | [], env, st, p => ⟨env, st, rfl, p⟩
  | d :: r, env, st, p => by
    obtain ⟨env1, env2, st2, hb, ht, q⟩ := h d r env st p
    obtain ⟨env', st', e, w⟩ := forL_nx P h r env2 st2 q
    refine ⟨env', st', ?_, w⟩
    show (match bindTg tg d env with
      | none => SR.no
      | some env' => turn (body env' st) (forL tg body r)) = _
    rw [hb]
    rcases ht with ht | ht <;> (show turn (body env1 st) (forL tg body r) = _; rw [ht]; exact e)
theorem compL_map {f : MP.D → Store → R (Option MP.D)} {st : Store} (g : MP.D → MP.D) : ∀ {items acc : List MP.D}, (∀ d ∈ items, f d st = .ok (some (g d)) st) → acc.length + items.length ≤ sizeLine → compL f items acc st = .ok (acc ++ items.map g) st
  | [], acc, _, _ => by
    rw [List.map_nil, List.append_nil]
    rfl
  | d :: r, acc, h, hl => by
    have hl' : acc.length + (r.length + 1) ≤ sizeLine := hl
    have e : compL f (d :: r) acc st = compL f r (acc ++ [g d]) st := by
      show (match f d st with
        | .ok (some y) st1 => bif fitsS acc.length then compL f r (acc ++ [y]) st1 else R.no
        | .ok none st1 => compL f r acc st1
        | _ => R.no) = _
      rw [h d List.mem_cons_self]
      have q : fitsS acc.length = true := decide_eq_true (by omega)
      rw [q]
      rfl
    rw [e, compL_map g (fun d hd => h d (List.mem_cons_of_mem _ hd)) (by rw [List.length_append, List.length_singleton]; omega)]
    rw [List.append_assoc]
    rfl
theorem fitsS_of {n : Nat} (h : n < 2 ^ 24) : fitsS n = true := decide_eq_true h
end MP
/-! What all laws have: the source of draws. -/
namespace MK
open PySem MP
def b__law_open_cells : Sms := (.cons (.set 1 false (.cst (.int 11))) (.cons (.forr (.nm 2) (.seq (.var 0)) (.cons (.set 1 false (.bin .mod (.blt .int (.cons (.bin .add (.bin .add (.bin .mul (.var 1) (.cst (.int 69069))) (.bin .mul (.var 2) (.cst (.int 31)))) (.cst (.int 5))) .nil)) (.cst (.int 2147483629)))) .nil)) (.cons (.set 3 false (.comp (.blt .abs (.cons (.var 2) .nil)) [("_law_cell", 2)] (.nm 2) (.seq (.var 0)) .non)) (.cons (.ret (.dicl ["cells", "left", "mixed", "turn"] (.cons (.toloc (.rev (.var 3))) (.cons (.cst (.int 1)) (.cons (.var 1) (.cons (.cst (.int 0)) .nil)))))) .nil))))
def f__law_open_cells : Fn := fnOf 1 4 b__law_open_cells
def r__law_open_cells : List Req := [.non "int", .non "abs"]
theorem q__law_open_cells : rqSs b__law_open_cells = [0, 1].map fun i => r__law_open_cells.getD i (.non "") := rfl
def b__law_pick : Sms := (.cons (.ite (.cmp .lt (.var 1) (.cst (.int 2))) (.cons (.ret (.cst (.int 0))) .nil) .nil) (.cons (.set 2 false (.ix (.var 0) (.cst (.str "cells")))) (.cons (.whil (.and (.cmp .lt (.ix (.var 0) (.cst (.str "left"))) (.cst (.int 2))) (.cmp .gt (.lenl (.var 2)) (.cst (.int 0)))) (.cons (.setloc (.var 0) (.cst (.str "left")) (.popl (.var 2))) .nil)) (.cons (.set 3 false (.ix (.var 0) (.cst (.str "left")))) (.cons (.ite (.cmp .gt (.var 3) (.cst (.int 1))) (.cons (.setloc (.var 0) (.cst (.str "left")) (.bin .fdiv (.var 3) (.var 1))) (.cons (.ret (.bin .mod (.blt .int (.cons (.var 3) .nil)) (.var 1))) .nil)) .nil) (.cons (.setloc (.var 0) (.cst (.str "turn")) (.bin .add (.ix (.var 0) (.cst (.str "turn"))) (.cst (.int 1)))) (.cons (.set 4 false (.ix (.var 0) (.cst (.str "turn")))) (.cons (.set 5 false (.bin .mod (.blt .int (.cons (.bin .add (.ix (.var 0) (.cst (.str "mixed"))) (.bin .mul (.var 4) (.cst (.int 104729)))) .nil)) (.cst (.int 998244353)))) (.cons (.set 5 false (.bin .mod (.blt .int (.cons (.bin .add (.bin .mul (.var 5) (.var 5)) (.bin .mul (.var 4) (.cst (.int 17)))) .nil)) (.cst (.int 2147483647)))) (.cons (.ret (.bin .mod (.blt .int (.cons (.bin .fdiv (.var 5) (.cst (.int 16))) .nil)) (.var 1))) .nil))))))))))
def f__law_pick : Fn := fnOf 2 6 b__law_pick
def r__law_pick : List Req := [.non "len", .non "int"]
theorem q__law_pick : rqSs b__law_pick = [0, 1, 1, 1, 1].map fun i => r__law_pick.getD i (.non "") := rfl
def Src (r : Store) (cs : List Int) (l m t : Int) : Store := .lst (cs.map PyData.int) :: .dic [("cells", .loc 0), ("left", .dat (.int l)), ("mixed", .dat (.int m)), ("turn", .dat (.int t))] :: r
def IsSrcR (r : Store) (st : Store) : Prop := ∃ cs l m t, st = Src r cs l m t ∧ cs.length ≤ 63
def IsSrc (st : Store) : Prop := ∃ r cs l m t, st = Src r cs l m t ∧ cs.length ≤ 63
theorem IsSrcR.src {r st : Store} (h : IsSrcR r st) : IsSrc st := by
  obtain ⟨cs, l, m, t, e, q⟩ := h
  exact ⟨r, cs, l, m, t, e, q⟩
theorem IsSrc.r {st : Store} (h : IsSrc st) : ∃ r, IsSrcR r st := by
  obtain ⟨r, cs, l, m, t, e, q⟩ := h
  exact ⟨r, cs, l, m, t, e, q⟩
theorem IsSrc.app {st x : Store} (h : IsSrc st) : IsSrc (st ++ x) := by
  obtain ⟨r, cs, l, m, t, rfl, hl⟩ := h
  exact ⟨r ++ x, cs, l, m, t, rfl, hl⟩
theorem pick_lt (n : Int) (h : n < 2) (st : Store) : f__law_pick [.loc 1, .dat (.int n)] st = .ok (plain (.int 0)) st := by
  simp [f__law_pick, fnOf, b__law_pick, evSs, evS, evE, cmpD, h]
def pickT : Ex := (.and (.cmp .lt (.ix (.var 0) (.cst (.str "left"))) (.cst (.int 2))) (.cmp .gt (.lenl (.var 2)) (.cst (.int 0))))
def pickB : Sms := (.cons (.setloc (.var 0) (.cst (.str "left")) (.popl (.var 2))) .nil)
theorem pickT_eq {r : Store} {s1 s3 s4 s5 : Slot} {cs : List Int} {l m t : Int} : ((evE pickT true [.val (.loc 1), s1, .val (.loc 0), s3, s4, s5] (Src r cs l m t)).bind fun x st => boolOf x st) = .ok (decide (l < 2) && decide ((0 : Int) < (cs.map PyData.int).length)) (Src r cs l m t) := by
  have e : evE pickT true [.val (.loc 1), s1, .val (.loc 0), s3, s4, s5] (Src r cs l m t) = (bif decide (l < 2) then (R.ok (plain (.bool (decide ((0 : Int) < (cs.map PyData.int).length)))) (Src r cs l m t)) else .ok (plain (.bool false)) (Src r cs l m t)) := rfl
  rw [e]
  cases decide (l < 2) <;> rfl
theorem pickB_eq {r : Store} {s1 s3 s4 s5 : Slot} {cs : List Int} {c l m t : Int} : evSs pickB [.val (.loc 1), s1, .val (.loc 0), s3, s4, s5] (Src r (cs ++ [c]) l m t) = .nx [.val (.loc 1), s1, .val (.loc 0), s3, s4, s5] (Src r cs c m t) := by
  have e : evE (.popl (.var 2)) false [.val (.loc 1), s1, .val (.loc 0), s3, s4, s5] (Src r (cs ++ [c]) l m t) = .ok (plain (.int c)) (Src r cs l m t) := by
    show (match ((cs ++ [c]).map PyData.int).getLast? with
        | some d => R.ok (plain d) ((Src r (cs ++ [c]) l m t).set 0 (.lst ((cs ++ [c]).map PyData.int).dropLast))
        | none => .no) = _
    simp [Src]
  refine seq_of ?_ rfl
  show ((evE (.popl (.var 2)) false [.val (.loc 1), s1, .val (.loc 0), s3, s4, s5] (Src r (cs ++ [c]) l m t)).sr _ _) = _
  rw [e]
  rfl
theorem pick_while {r : Store} {s1 s3 s4 s5 : Slot} {m t : Int} : ∀ (n : Nat) (cs : List Int) (l : Int), cs.length < n → ∃ cs' l', whileL (fun env st => (evE pickT true env st).bind fun x st => boolOf x st) (evSs pickB) n [.val (.loc 1), s1, .val (.loc 0), s3, s4, s5] (Src r cs l m t) =
    .nx [.val (.loc 1), s1, .val (.loc 0), s3, s4, s5] (Src r cs' l' m t) ∧ cs'.length ≤ cs.length
  | 0, cs, l, h => by omega
  | n + 1, cs, l, h => by
    have go : ∀ q, (bif (decide (l < 2) && decide ((0 : Int) < (cs.map PyData.int).length)) then turn (evSs pickB [.val (.loc 1), s1, .val (.loc 0), s3, s4, s5] (Src r cs l m t)) (whileL (fun env st => (evE pickT true env st).bind fun x st => boolOf x st) (evSs pickB) n) else .nx [.val (.loc 1), s1, .val (.loc 0), s3, s4, s5] (Src r cs l m t)) = q →
        whileL (fun env st => (evE pickT true env st).bind fun x st => boolOf x st) (evSs pickB) (n + 1) [.val (.loc 1), s1, .val (.loc 0), s3, s4, s5] (Src r cs l m t) = q := by
      intro q hr
      show (((evE pickT true [.val (.loc 1), s1, .val (.loc 0), s3, s4, s5] (Src r cs l m t)).bind fun x st => boolOf x st).sr _ _) = q
      rw [pickT_eq]
      exact hr
    by_cases h1 : l < 2
    · rcases List.eq_nil_or_concat cs with rfl | ⟨cs0, c, rfl⟩
      · exact ⟨[], l, go _ (by rw [decide_eq_true h1]; rfl), Nat.le_refl _⟩
      · rw [List.concat_eq_append] at *
        obtain ⟨cs', l', e, hl⟩ := pick_while (s1 := s1) (s3 := s3) (s4 := s4) (s5 := s5) (m := m) (t := t) n cs0 c (by rw [List.length_append] at h; simp at h; omega)
        refine ⟨cs', l', go _ ?_, by rw [List.length_append]; omega⟩
        rw [decide_eq_true h1, decide_eq_true (show (0 : Int) < ((cs0 ++ [c]).map PyData.int).length by simp), pickB_eq]
        exact e
    · exact ⟨cs, l, go _ (by rw [decide_eq_false h1]; rfl), Nat.le_refl _⟩
theorem pick_okR {r : Store} (n : Int) (hn : n.natAbs.log2 < 9000) (st : Store) (h : IsSrcR r st) : ∃ k st', f__law_pick [.loc 1, .dat (.int n)] st = .ok (plain (.int k)) st' ∧ IsSrcR r st' ∧ 0 ≤ k ∧ (2 ≤ n → k < n) ∧ (n < 2 → k = 0) := by
  by_cases h2 : n < 2
  · exact ⟨0, st, pick_lt n h2 st, h, by omega, by omega, fun _ => rfl⟩
  obtain ⟨cs, l, m, t, rfl, hl⟩ := h
  obtain ⟨cs', l', ew, hl'⟩ := pick_while (s1 := .val (.dat (.int n))) (s3 := .un) (s4 := .un) (s5 := .un) (m := m) (t := t) WF cs l (Nat.lt_of_le_of_lt hl (by decide))
  have hd : divOk n = true := by simp [divOk]; omega
  have hm : decide (n ≠ 0) = true := decide_eq_true (by omega)
  have fm : ∀ a : Int, 0 ≤ a.fmod n ∧ a.fmod n < n := fun a => by rw [Int.fmod_eq_emod_of_nonneg _ (by omega)]; exact ⟨Int.emod_nonneg _ (by omega), Int.emod_lt_of_pos _ (by omega)⟩
  by_cases h3 : 1 < l'
  · refine ⟨l'.fmod n, Src r cs' (l'.fdiv n) m t, fn_ret rfl ?_, ⟨cs', _, _, _, rfl, by omega⟩, (fm _).1, fun _ => (fm _).2, fun q => (h2 q).elim⟩
    refine seq_of (ite_of (k := false) (by show R.ok (plain (.bool (decide (n < 2)))) _ = _; rw [decide_eq_false h2]; rfl) rfl) ?_
    refine seq_of rfl (seq_of ew (seq_of rfl (seq_end (ite_of (k := true) (by show R.ok (plain (.bool (decide (1 < l')))) _ = _; rw [decide_eq_true h3]; rfl) ?_))))
    refine seq_of (env' := [.val (.loc 1), .val (.dat (.int n)), .val (.loc 0), .val (.dat (.int l')), .un, .un]) (st' := Src r cs' (l'.fdiv n) m t) ?_ (seq_end ?_)
    · show ((ofBD (bif divOk n then some (false, .int (l'.fdiv n)) else none) (Src r cs' l' m t)).sr _ _) = _
      rw [hd]
      rfl
    · show ((ofBD (bif decide (n ≠ 0) then some (false, .int (l'.fmod n)) else none) (Src r cs' (l'.fdiv n) m t)).sr _ _) = _
      rw [hm]
      rfl
  · have hb : ∀ x : Int, (x.fmod 998244353).natAbs < 2 ^ 64 := fun x => by
      have e : x.fmod 998244353 = x % 998244353 := Int.fmod_eq_emod_of_nonneg _ (by decide)
      have h1 := Int.emod_nonneg x (show (998244353 : Int) ≠ 0 by decide)
      have h2 := Int.emod_lt_of_pos x (show (0 : Int) < 998244353 by decide)
      omega
    have hq : ∀ x : Int, mulOk (x.fmod 998244353) (x.fmod 998244353) = true := fun x => by
      unfold mulOk
      rw [decide_eq_true (hb x)]
      rfl
    have hc : ∀ (x k : Int), k.natAbs < 2 ^ 64 → mulOk x k = true := fun x k hk => by
      unfold mulOk
      rw [decide_eq_true hk, Bool.or_true]
      rfl
    have hs0 : ∀ (x k : Int), k.natAbs < 2 ^ 64 → ofBD (bin .mul (.int x) (.int k)) (Src r cs' l' m (t + 1)) = .ok ⟨false, .dat (.int (x * k))⟩ (Src r cs' l' m (t + 1)) := fun x k hk => by
      show ofBD (bif mulOk x k then some (false, .int (x * k)) else none) _ = _
      rw [hc x k hk]
      rfl
    refine ⟨_, Src r cs' l' m (t + 1), fn_ret (x := plain (.int (((((m + (t + 1) * 104729).fmod 998244353 * (m + (t + 1) * 104729).fmod 998244353 + (t + 1) * 17).fmod 2147483647).fdiv 16).fmod n))) rfl ?_, ⟨cs', _, _, _, rfl, by omega⟩, (fm _).1, fun _ => (fm _).2, fun q => (h2 q).elim⟩
    refine seq_of (ite_of (k := false) (by show R.ok (plain (.bool (decide (n < 2)))) _ = _; rw [decide_eq_false h2]; rfl) rfl) ?_
    refine seq_of rfl (seq_of ew (seq_of rfl (seq_of (ite_of (k := false) (by show R.ok (plain (.bool (decide (1 < l')))) _ = _; rw [decide_eq_false h3]; rfl) rfl) ?_)))
    refine seq_of (env' := [.val (.loc 1), .val (.dat (.int n)), .val (.loc 0), .val (.dat (.int l')), .un, .un]) (st' := Src r cs' l' m (t + 1)) rfl (seq_of rfl ?_)
    have e1 : ∀ {b : Bool}, ixV ⟨b, .loc 1⟩ ⟨false, .dat (.str "mixed")⟩ (Src r cs' l' m (t + 1)) = .ok ⟨false, .dat (.int m)⟩ (Src r cs' l' m (t + 1)) := rfl
    have e2 : divOk 16 = true := by decide
    have hd0 : ¬ n = 0 := by omega
    simp [evSs, evS, evE, evP, bltF, blt1, bAbs, bInt, bLst, bLen, bin, e1, e2, hc, hq, hd0]
theorem pick_ok (n : Int) (hn : n.natAbs.log2 < 9000) (st : Store) (h : IsSrc st) : ∃ k st', f__law_pick [.loc 1, .dat (.int n)] st = .ok (plain (.int k)) st' ∧ IsSrc st' ∧ 0 ≤ k ∧ (2 ≤ n → k < n) ∧ (n < 2 → k = 0) := by
  obtain ⟨r, h⟩ := h.r
  obtain ⟨k, st', e, a, b⟩ := pick_okR n hn st h
  exact ⟨k, st', e, a.src, b⟩
theorem cells_ok (ns : List Int) (hl : ns.length ≤ 63) : ∃ st', f__law_open_cells [.dat (scriptD ns)] [] = .ok ⟨false, .loc 1⟩ st' ∧ IsSrc st' := by
  have hm : ∀ (x k : Int), k.natAbs < 2 ^ 64 → mulOk x k = true := fun x k hk => by
    unfold mulOk
    rw [decide_eq_true hk, Bool.or_true]
    rfl
  obtain ⟨env', st', e, hp⟩ := forL_nx (tg := .nm 2) (body := evSs (.cons (.set 1 false (.bin .mod (.blt .int (.cons (.bin .add (.bin .add (.bin .mul (.var 1) (.cst (.int 69069))) (.bin .mul (.var 2) (.cst (.int 31)))) (.cst (.int 5))) .nil)) (.cst (.int 2147483629)))) .nil))
    (fun r env st => st = [] ∧ (∃ ms, r = ms.map PyData.int) ∧ ∃ (m : Int) (s : Slot), env = [.val (.dat (scriptD ns)), .val (.dat (.int m)), s, .un]) (fun d r env st hp => by
      obtain ⟨rfl, ⟨ms, em⟩, m, s, rfl⟩ := hp
      cases ms with
      | nil => cases em
      | cons c ms =>
        cases em
        refine ⟨_, _, _, rfl, .inl ?_, rfl, ⟨ms, rfl⟩, (m * 69069 + c * 31 + 5).fmod 2147483629, .val (.dat (.int c)), rfl⟩
        simp [evSs, evS, evE, evP, bltF, blt1, bAbs, bInt, bLst, bLen, bin, hm]) (ns.map PyData.int) [.val (.dat (scriptD ns)), .val (.dat (.int 11)), .un, .un] [] ⟨rfl, ⟨ns, rfl⟩, 11, .un, rfl⟩
  obtain ⟨rfl, _, m, s, rfl⟩ := hp
  refine ⟨Src [] (ns.map fun n => ((n.natAbs : Nat) : Int)).reverse 1 m 0, fn_ret rfl ?_, _, _, _, _, _, rfl, by simpa using hl⟩
  refine seq_of rfl (seq_of e ?_)
  have ec : evE (.comp (.blt .abs (.cons (.var 2) .nil)) [("_law_cell", 2)] (.nm 2) (.seq (.var 0)) .non) false [.val (.dat (scriptD ns)), .val (.dat (.int m)), s, .un] [] = .ok (fresh (.list ((ns.map fun n => ((n.natAbs : Nat) : Int)).map PyData.int))) [] := by
    show ((compL _ (ns.map PyData.int) [] []).bind fun ys st => R.ok (fresh (.list ys)) st) = _
    rw [compL_map (fun d => match d with | .int n => .int n.natAbs | d => d) (fun d hd => ?_) (by simp [sizeLine]; omega)]
    · simp [List.map_map, Function.comp_def]
    · obtain ⟨n, _, rfl⟩ := List.mem_map.mp hd
      rfl
  refine seq_of (env' := [.val (.dat (scriptD ns)), .val (.dat (.int m)), s, .val (.dat (.list ((ns.map fun n => ((n.natAbs : Nat) : Int)).map PyData.int)))]) (st' := []) ?_ (seq_end ?_)
  · show ((evE (.comp (.blt .abs (.cons (.var 2) .nil)) [("_law_cell", 2)] (.nm 2) (.seq (.var 0)) .non) false [.val (.dat (scriptD ns)), .val (.dat (.int m)), s, .un] []).sr _ _) = _
    rw [ec]
    rfl
  · unfold Src
    rw [List.map_reverse]
    rfl
end MK
/-! Data: equality, depth, the length of what repr tells. -/
namespace MP
open PySem
mutual
/-- ints of bounded size, bools, None, tuples and lists of such -/
def okD : MP.D → Bool
  | .none => true
  | .bool _ => true
  | .int i => decide (i.natAbs.log2 < 1900)
  | .str x => (PyData.str x).showable && (PyData.str x).canLay0 && decide ((PyData.str x).shown.length ≤ 20)
  | .list xs => okDs xs
  | .tuple xs => okDs xs
  | .dict _ => false
def okDs : List MP.D → Bool
  | [] => true
  | x :: xs => okD x && okDs xs
end
mutual
def wtD : MP.D → Nat
  | .none => 4
  | .bool _ => 5
  | .int i => i.natAbs.log2 + 2
  | .str _ => 20
  | .list xs => wtDs xs + 3
  | .tuple xs => wtDs xs + 3
  | .dict _ => 0
def wtDs : List MP.D → Nat
  | [] => 0
  | x :: xs => wtD x + 2 + wtDs xs
end
mutual
theorem ok_showable : ∀ d : MP.D, okD d = true → d.showable = true
  | .none, _ => rfl
  | .bool _, _ => rfl
  | .int i, h => by
    simp only [okD, decide_eq_true_eq] at h
    rw [PyData.showable, decide_eq_true_eq]
    omega
  | .list xs, h => by
    simp only [PyData.showable]
    exact oks_showable xs h
  | .tuple xs, h => by
    simp only [PyData.showable]
    exact oks_showable xs h
  | .str x, h => by
    simp only [okD, Bool.and_eq_true] at h
    exact h.1.1
  | .dict _, h => by cases h
theorem oks_showable : ∀ d : List MP.D, okDs d = true → PyData.showableAll d = true
  | [], _ => rfl
  | x :: xs, h => by
    obtain ⟨h1, h2⟩ := Bool.and_eq_true_iff.mp (show (okD x && okDs xs) = true from h)
    simp only [PyData.showableAll, ok_showable x h1, oks_showable xs h2, Bool.and_self]
end
mutual
theorem ok_nodict : ∀ d : MP.D, okD d = true → d.hasDict = false
  | .none, _ => rfl
  | .bool _, _ => rfl
  | .int i, h => rfl
  | .list xs, h => by
    simp only [PyData.hasDict]
    exact oks_nodict xs h
  | .tuple xs, h => by
    simp only [PyData.hasDict]
    exact oks_nodict xs h
  | .str _, h => by simp only [PyData.hasDict]
  | .dict _, h => by cases h
theorem oks_nodict : ∀ d : List MP.D, okDs d = true → PyData.hasDictAll d = false
  | [], _ => rfl
  | x :: xs, h => by
    obtain ⟨h1, h2⟩ := Bool.and_eq_true_iff.mp (show (okD x && okDs xs) = true from h)
    simp only [PyData.hasDictAll, ok_nodict x h1, oks_nodict xs h2, Bool.or_self]
end
mutual
theorem ok_lay : ∀ d : MP.D, okD d = true → d.canLay0 = true
  | .none, _ => rfl
  | .bool _, _ => rfl
  | .int i, h => rfl
  | .list xs, h => by
    simp only [PyData.canLay0]
    exact oks_lay xs h
  | .tuple xs, h => by
    simp only [PyData.canLay0]
    exact oks_lay xs h
  | .str x, h => by
    simp only [okD, Bool.and_eq_true] at h
    exact h.1.2
  | .dict _, h => by cases h
theorem oks_lay : ∀ d : List MP.D, okDs d = true → PyData.canLayAll0 d = true
  | [], _ => rfl
  | x :: xs, h => by
    obtain ⟨h1, h2⟩ := Bool.and_eq_true_iff.mp (show (okD x && okDs xs) = true from h)
    simp only [PyData.canLayAll0, ok_lay x h1, oks_lay xs h2, Bool.and_self]
end
theorem int_len (i : Int) : (Str.ofString (toString i)).length ≤ i.natAbs.log2 + 2 := by
  have h := int_text_length_le (a := i) (k := i.natAbs.log2 + 1) (by omega) (by omega)
  rw [ofString_length]
  omega
mutual
theorem shown_wt : ∀ d : MP.D, okD d = true → d.shown.length ≤ wtD d
  | .none, _ => by
    exact Nat.le_of_eq (show (PyData.shown .none).length = 4 from rfl)
  | .bool b, _ => by cases b <;> decide
  | .int i, h => by
    simp only [PyData.shown, wtD]
    exact int_len i
  | .list xs, h => by
    have q := listText_len_le (PyData.shownAll xs)
    have r := showns_wt xs h
    simp only [PyData.shown, wtD]
    omega
  | .tuple xs, h => by
    have q := tupleText_len_le (PyData.shownAll xs)
    have r := showns_wt xs h
    simp only [PyData.shown, wtD]
    omega
  | .str x, h => by
    simp only [okD, Bool.and_eq_true, decide_eq_true_eq] at h
    exact h.2
  | .dict _, h => by cases h
theorem showns_wt : ∀ d : List MP.D, okDs d = true → ((PyData.shownAll d).map (·.length)).sum + 2 * (PyData.shownAll d).length ≤ wtDs d
  | [], _ => Nat.le_refl _
  | x :: xs, h => by
    obtain ⟨h1, h2⟩ := Bool.and_eq_true_iff.mp (show (okD x && okDs xs) = true from h)
    have q := shown_wt x h1
    have r := showns_wt xs h2
    simp only [PyData.shownAll, wtDs, List.map_cons, List.sum_cons, List.length_cons]
    omega
end
theorem showOk_of {d : MP.D} (h : okD d = true) (hd : d.depth ≤ 100) (hw : wtD d ≤ 2 ^ 24) : showOk d = true := by
  unfold showOk
  rw [decide_eq_true hd, ok_showable d h, ok_nodict d h, show fits d.shown.length = true from decide_eq_true (Nat.le_trans (shown_wt d h) hw)]
  rfl
theorem shp_of {d : MP.D} (h : okD d = true) (hd : d.depth ≤ 64) : shp d = true := by
  show (d.canLay0 && decide (d.depth ≤ 64)) = true
  rw [ok_lay d h, decide_eq_true hd]
  rfl
mutual
/-- without bools, equal is the same -/
def noB : MP.D → Bool
  | .none => true
  | .bool _ => false
  | .int _ => true
  | .str _ => true
  | .list xs => noBs xs
  | .tuple xs => noBs xs
  | .dict _ => false
def noBs : List MP.D → Bool
  | [] => true
  | x :: xs => noB x && noBs xs
end
mutual
theorem eqv_same : ∀ (d e : MP.D), noB d = true → noB e = true → (PyData.eqv d e = true ↔ d = e)
  | .none, e, _, h => by cases e <;> simp_all [PyData.eqv, noB]
  | .int i, e, _, h => by cases e <;> simp_all [PyData.eqv, noB]
  | .str i, e, _, h => by cases e <;> simp_all [PyData.eqv, noB]
  | .list xs, e, h1, h2 => by
    cases e with
    | list ys => simpa [PyData.eqv] using eqvs_same xs ys h1 h2
    | _ => simp [PyData.eqv]
  | .tuple xs, e, h1, h2 => by
    cases e with
    | tuple ys => simpa [PyData.eqv] using eqvs_same xs ys h1 h2
    | _ => simp [PyData.eqv]
  | .bool _, _, h, _ => by cases h
  | .dict _, _, h, _ => by cases h
theorem eqvs_same : ∀ (d e : List MP.D), noBs d = true → noBs e = true → (PyData.eqvAll d e = true ↔ d = e)
  | [], [], _, _ => by simp [PyData.eqvAll]
  | [], _ :: _, _, _ => by simp [PyData.eqvAll]
  | _ :: _, [], _, _ => by simp [PyData.eqvAll]
  | x :: xs, y :: ys, h1, h2 => by
    obtain ⟨a1, a2⟩ := Bool.and_eq_true_iff.mp (show (noB x && noBs xs) = true from h1)
    obtain ⟨b1, b2⟩ := Bool.and_eq_true_iff.mp (show (noB y && noBs ys) = true from h2)
    simp [PyData.eqvAll, eqv_same x y a1 b1, eqvs_same xs ys a2 b2]
end
theorem okDs_map {α : Type} {f : α → MP.D} : ∀ {l : List α}, (∀ a ∈ l, okD (f a) = true) → okDs (l.map f) = true
  | [], _ => rfl
  | a :: l, h => by
    show (okD (f a) && okDs (l.map f)) = true
    rw [h a List.mem_cons_self, okDs_map fun b hb => h b (List.mem_cons_of_mem _ hb)]
    rfl
theorem depths_map {α : Type} {f : α → MP.D} {n : Nat} : ∀ {l : List α}, (∀ a ∈ l, (f a).depth ≤ n) → PyData.depthAll (l.map f) ≤ n
  | [], _ => Nat.zero_le _
  | a :: l, h => by
    have q := depths_map fun b hb => h b (List.mem_cons_of_mem (a := b) a hb)
    have r := h a List.mem_cons_self
    rw [List.map_cons, PyData.depthAll]
    omega
theorem wts_map {α : Type} {f : α → MP.D} {n : Nat} : ∀ {l : List α}, (∀ a ∈ l, wtD (f a) ≤ n) → wtDs (l.map f) ≤ (n + 2) * l.length
  | [], _ => Nat.zero_le _
  | a :: l, h => by
    have q := wts_map fun b hb => h b (List.mem_cons_of_mem (a := b) a hb)
    have r := h a List.mem_cons_self
    show wtD (f a) + 2 + wtDs (l.map f) ≤ (n + 2) * (l.length + 1)
    rw [Nat.mul_succ]
    omega
theorem eqvs_len : ∀ {xs ys : List MP.D}, xs.length ≠ ys.length → PyData.eqvAll xs ys = false
  | [], [], h => (h rfl).elim
  | [], _ :: _, _ => by simp [PyData.eqvAll]
  | _ :: _, [], _ => by simp [PyData.eqvAll]
  | x :: xs, y :: ys, h => by simp [PyData.eqvAll, eqvs_len (xs := xs) (ys := ys) (by simpa using h)]
theorem eqD_of {x y : MP.D} (hx : shp x = true) (hy : shp y = true) : eqD x y = some (PyData.eqv x y) := by
  have go : (bif shp x && shp y then some (PyData.eqv x y) else none) = some (PyData.eqv x y) := by
    rw [hx, hy]
    rfl
  cases x <;> cases y <;> first
    | exact go
    | rfl
    | (rename_i xs ys
       show (bif decide (xs.length = ys.length) then (bif shp (.list xs) && shp (.list ys) then some (PyData.eqv (.list xs) (.list ys)) else none) else some false) = _
       by_cases h : xs.length = ys.length
       · rw [decide_eq_true h]
         exact go
       · rw [decide_eq_false h]
         show some false = some (PyData.eqvAll xs ys)
         rw [eqvs_len h])
    | (rename_i xs ys
       cases xs <;> cases ys <;> first
         | exact go
         | (show some false = some (PyData.eqvAll _ _)
            rw [eqvs_len (by simp)]))
    | (rename_i xs y
       cases xs <;> exact go)
    | (rename_i xs
       cases xs <;> exact go)
theorem cmp_eq {x y : MP.D} (hx : shp x = true) (hy : shp y = true) : cmpD .eq x y = some (PyData.eqv x y) := eqD_of hx hy
theorem cmp_ne {x y : MP.D} (hx : shp x = true) (hy : shp y = true) : cmpD .ne x y = some (!PyData.eqv x y) := by
  show (eqD x y).map not = _
  rw [eqD_of hx hy]
  rfl
theorem eqv_dec {x y : MP.D} {p : Prop} [Decidable p] (hx : noB x = true) (hy : noB y = true) (h : x = y ↔ p) : PyData.eqv x y = decide p := by
  have q := eqv_same x y hx hy
  by_cases hp : p
  · rw [decide_eq_true hp, q.mpr (h.mpr hp)]
  · rw [decide_eq_false hp]
    cases e : PyData.eqv x y with
    | false => rfl
    | true => exact (hp (h.mp (q.mp e))).elim
theorem blt_repr {d : MP.D} (h : showOk d = true) : bltF .repr [d] = some (false, PyData.str d.shown) := by
  show (bif showOk d then some (false, PyData.str d.shown) else none) = _
  rw [h]
  rfl
theorem shp_int (i : Int) : shp (.int i) = true := by
  show (PyData.canLay0 (.int i) && decide (PyData.depth (.int i) ≤ 64)) = true
  simp [PyData.canLay0, PyData.depth]
theorem eqv_int (a b : Int) : PyData.eqv (.int a) (.int b) = decide (a = b) := by
  simp only [PyData.eqv]
  rfl
@[simp] theorem cmp_int_eq (a b : Int) : cmpD .eq (.int a) (.int b) = some (decide (a = b)) := by rw [cmp_eq (shp_int a) (shp_int b), eqv_int]
@[simp] theorem cmp_int_ne (a b : Int) : cmpD .ne (.int a) (.int b) = some (!decide (a = b)) := by rw [cmp_ne (shp_int a) (shp_int b), eqv_int]
@[simp] theorem cmp_int_lt (a b : Int) : cmpD .lt (.int a) (.int b) = some (decide (a < b)) := Eq.trans rfl rfl
@[simp] theorem cmp_int_le (a b : Int) : cmpD .le (.int a) (.int b) = some (decide (a ≤ b)) := Eq.trans rfl rfl
@[simp] theorem cmp_int_gt (a b : Int) : cmpD .gt (.int a) (.int b) = some (decide (b < a)) := Eq.trans rfl rfl
@[simp] theorem cmp_int_ge (a b : Int) : cmpD .ge (.int a) (.int b) = some (decide (b ≤ a)) := Eq.trans rfl rfl
@[simp] theorem bin_int_add (a b : Int) : bin .add (.int a) (.int b) = some (false, .int (a + b)) := Eq.trans rfl rfl
@[simp] theorem bin_int_sub (a b : Int) : bin .sub (.int a) (.int b) = some (false, .int (a - b)) := Eq.trans rfl rfl
@[simp] theorem fits_0 : fits 0 = true := by decide
@[simp] theorem fits_1 : fits 1 = true := by decide
@[simp] theorem fits_2 : fits 2 = true := by decide
@[simp] theorem fits_3 : fits 3 = true := by decide
@[simp] theorem fits_4 : fits 4 = true := by decide
@[simp] theorem fits_5 : fits 5 = true := by decide
@[simp] theorem fits_6 : fits 6 = true := by decide
@[simp] theorem fits_7 : fits 7 = true := by decide
@[simp] theorem fits_8 : fits 8 = true := by decide
@[simp] theorem fits_9 : fits 9 = true := by decide
@[simp] theorem fits_10 : fits 10 = true := by decide
@[simp] theorem fits_11 : fits 11 = true := by decide
@[simp] theorem fits_12 : fits 12 = true := by decide
@[simp] theorem fits_13 : fits 13 = true := by decide
@[simp] theorem fits_14 : fits 14 = true := by decide
@[simp] theorem fits_15 : fits 15 = true := by decide
@[simp] theorem fits_16 : fits 16 = true := by decide
@[simp] theorem fitsS_0 : fitsS 0 = true := by decide
@[simp] theorem fitsS_1 : fitsS 1 = true := by decide
@[simp] theorem fitsS_2 : fitsS 2 = true := by decide
@[simp] theorem fitsS_3 : fitsS 3 = true := by decide
@[simp] theorem fitsS_4 : fitsS 4 = true := by decide
end MP
/-! What must hold ahead of a text of the small language, for something to hold behind it. -/
namespace MP
open PySem PyProof.Rows L2 PySem.Spec
section
variable {α β : Type} {st st1 : Store} {env : Env} {pk : Bool}
inductive Tag {α : Sort u} (a : α) : Type
  | mk
def bT (x : R α) (f : α → Store → R β) (_ : Tag f := .mk) : R β := x.bind f
def sT (x : R α) (env : Env) (f : α → Store → SR) (_ : Tag f := .mk) : SR := x.sr env f
def qT (x : SR) (f : Env → Store → SR) (_ : Tag f := .mk) : SR := x.seq f
def Cb {γ : Type} (c : Bool) (x y : γ) (_ : Tag x := .mk) (_ : Tag y := .mk) : γ := bif c then x else y
def oT {γ : Type} (o : Option Env) (no : γ) (f : Env → γ) (_ : Tag f := .mk) : γ := match o with
  | none => no
  | some e => f e
theorem bT_ok {a : α} {f : α → Store → R β} {t : Tag f} : bT (R.ok a st) f t = f a st := Eq.trans rfl rfl
theorem sT_ok {a : α} {f : α → Store → SR} {t : Tag f} : sT (R.ok a st) env f t = f a st := Eq.trans rfl rfl
theorem qT_nx {f : Env → Store → SR} {t : Tag f} : qT (.nx env st) f t = f env st := Eq.trans rfl rfl
theorem qT_rt {x : RV} {f : Env → Store → SR} {t : Tag f} : qT (.rt x st) f t = .rt x st := Eq.trans rfl rfl
theorem qT_br {f : Env → Store → SR} {t : Tag f} : qT (.br env st) f t = .br env st := Eq.trans rfl rfl
theorem qT_ct {f : Env → Store → SR} {t : Tag f} : qT (.ct env st) f t = .ct env st := Eq.trans rfl rfl
theorem bT_exc {c : Str} {ds : List (Str × MP.D)} {f : α → Store → R β} {t : Tag f} : bT (R.exc c ds st) f t = .exc c ds st := Eq.trans rfl rfl
theorem sT_exc {c : Str} {ds : List (Str × MP.D)} {f : α → Store → SR} {t : Tag f} : sT (R.exc c ds st) env f t = .ex c ds env st := Eq.trans rfl rfl
theorem qT_ex {c : Str} {ds : List (Str × MP.D)} {f : Env → Store → SR} {t : Tag f} : qT (.ex c ds env st) f t = .ex c ds env st := Eq.trans rfl rfl
/-- a try: what its clause does -/
def yT (x : SR) (c : Str) (f : Env → Store → SR) (_ : Tag f := .mk) : SR := match x with
  | .ex c' _ env' st' => bif decide (c' = c) then f env' st' else .no
  | r => r
theorem yT_nx {c : Str} {f : Env → Store → SR} {t : Tag f} : yT (.nx env st) c f t = .nx env st := Eq.trans rfl rfl
theorem yT_rt {c : Str} {x : RV} {f : Env → Store → SR} {t : Tag f} : yT (.rt x st) c f t = .rt x st := Eq.trans rfl rfl
theorem yT_br {c : Str} {f : Env → Store → SR} {t : Tag f} : yT (.br env st) c f t = .br env st := Eq.trans rfl rfl
theorem yT_ct {c : Str} {f : Env → Store → SR} {t : Tag f} : yT (.ct env st) c f t = .ct env st := Eq.trans rfl rfl
theorem yT_ex {c : Str} {ds : List (Str × MP.D)} {f : Env → Store → SR} {t : Tag f} : yT (.ex c ds env st) c f t = f env st := by
  show (bif decide (c = c) then f env st else .no) = _
  rw [decide_eq_true rfl]
  rfl
theorem Cb_t {γ : Type} {x y : γ} {t : Tag x} {u : Tag y} : Cb true x y t u = x := Eq.trans rfl rfl
theorem Cb_f {γ : Type} {x y : γ} {t : Tag x} {u : Tag y} : Cb false x y t u = y := Eq.trans rfl rfl
theorem oT_s {γ : Type} {e : Env} {no : γ} {f : Env → γ} {t : Tag f} : oT (some e) no f t = f e := Eq.trans rfl rfl
structure Wp (x : R α) (Q : α → Store → Prop) (t : Tag Q := .mk) : Prop where
  h : match x with
    | .ok a st => Q a st
    | _ => False
structure Outs where
  nx : Env → Store → Prop
  rt : RV → Store → Prop
  br : Env → Store → Prop
  ct : Env → Store → Prop
structure WpS (x : SR) (O : Outs) (t : Tag O := .mk) : Prop where
  h : match x with
    | .nx e st => O.nx e st
    | .rt x st => O.rt x st
    | .br e st => O.br e st
    | .ct e st => O.ct e st
    | _ => False
theorem wp_ok {a : α} {Q : α → Store → Prop} {t : Tag Q} : Wp (.ok a st) Q t = Q a st := propext ⟨fun h => h.h, fun h => ⟨h⟩⟩
theorem wp_no {Q : α → Store → Prop} {t : Tag Q} : Wp .no Q t = False := propext ⟨fun h => h.h, fun h => h.elim⟩
theorem wp_exc {c : Str} {ds : List (Str × MP.D)} {Q : α → Store → Prop} {t : Tag Q} : Wp (.exc c ds st) Q t = False := propext ⟨fun h => h.h, fun h => h.elim⟩
theorem wps_nx {O : Outs} {t : Tag O} : WpS (.nx env st) O t = O.nx env st := propext ⟨fun h => h.h, fun h => ⟨h⟩⟩
theorem wps_rt {x : RV} {O : Outs} {t : Tag O} : WpS (.rt x st) O t = O.rt x st := propext ⟨fun h => h.h, fun h => ⟨h⟩⟩
theorem wps_br {O : Outs} {t : Tag O} : WpS (.br env st) O t = O.br env st := propext ⟨fun h => h.h, fun h => ⟨h⟩⟩
theorem wps_ct {O : Outs} {t : Tag O} : WpS (.ct env st) O t = O.ct env st := propext ⟨fun h => h.h, fun h => ⟨h⟩⟩
theorem wps_no {O : Outs} {t : Tag O} : WpS .no O t = False := propext ⟨fun h => h.h, fun h => h.elim⟩
theorem wps_ex {c : Str} {ds : List (Str × MP.D)} {O : Outs} {t : Tag O} : WpS (.ex c ds env st) O t = False := propext ⟨fun h => h.h, fun h => h.elim⟩
theorem wp_bind {x : R α} {f : α → Store → R β} {Q : β → Store → Prop} {t : Tag f} {u : Tag Q} : Wp (bT x f t) Q u = Wp x fun a st => Wp (f a st) Q u := by
  cases x with
  | ok a st => rw [wp_ok]; rfl
  | exc c ds st => rw [wp_exc]; exact wp_exc
  | no => rw [wp_no]; exact wp_no
theorem wps_sr {x : R α} {f : α → Store → SR} {O : Outs} {t : Tag f} {u : Tag O} : WpS (sT x env f t) O u = Wp x fun a st => WpS (f a st) O u := by
  cases x with
  | ok a st => rw [wp_ok]; rfl
  | exc c ds st => rw [wp_exc]; exact wps_ex
  | no => rw [wp_no]; exact wps_no
theorem wps_seq {x : SR} {f : Env → Store → SR} {O : Outs} {t : Tag f} {u : Tag O} : WpS (qT x f t) O u = WpS x ⟨fun e st => WpS (f e st) O u, O.rt, O.br, O.ct⟩ := by
  cases x with
  | nx e st => rw [wps_nx]; rfl
  | rt e st => rw [wps_rt]; exact wps_rt
  | br e st => rw [wps_br]; exact wps_br
  | ct e st => rw [wps_ct]; exact wps_ct
  | ex _ _ _ _ => rw [wps_ex]; exact wps_ex
  | no => rw [wps_no]; exact wps_no
theorem wps_turn {x : SR} {f : Env → Store → SR} {O : Outs} : WpS (turn x f) O = WpS x ⟨fun e st => WpS (f e st) O, O.rt, O.nx, fun e st => WpS (f e st) O⟩ := by
  cases x with
  | nx e st => rw [wps_nx]; rfl
  | rt e st => rw [wps_rt]; exact wps_rt
  | br e st => rw [wps_br]; exact wps_nx
  | ct e st => rw [wps_ct]; rfl
  | ex _ _ _ _ => rw [wps_ex]; exact wps_ex
  | no => rw [wps_no]; exact wps_no
theorem Wp.ex {x : R α} {Q : α → Store → Prop} (h : Wp x Q) : ∃ a st, x = .ok a st ∧ Q a st := by
  cases x with
  | ok a st => exact ⟨a, st, rfl, h.h⟩
  | exc _ _ _ => exact h.h.elim
  | no => exact h.h.elim
theorem Wp.of {x : R α} {Q : α → Store → Prop} (h : ∃ a st, x = .ok a st ∧ Q a st) : Wp x Q := by
  obtain ⟨a, st, e, q⟩ := h
  rw [e]
  exact ⟨q⟩
theorem Wp.mono {x : R α} {Q Q' : α → Store → Prop} (h : Wp x Q) (k : ∀ a st, Q a st → Q' a st) : Wp x Q' := by
  obtain ⟨a, st, e, q⟩ := h.ex
  exact .of ⟨a, st, e, k a st q⟩
theorem Wp.eq {x : R α} {a : α} {Q : α → Store → Prop} (e : x = .ok a st) (q : Q a st) : Wp x Q := .of ⟨a, st, e, q⟩
theorem WpS.mono {x : SR} {O O' : Outs} (h : WpS x O) (n : ∀ e st, O.nx e st → O'.nx e st) (r : ∀ x st, O.rt x st → O'.rt x st) (b : ∀ e st, O.br e st → O'.br e st) (c : ∀ e st, O.ct e st → O'.ct e st) : WpS x O' := by
  cases x with
  | nx e st => exact ⟨n e st h.h⟩
  | rt e st => exact ⟨r e st h.h⟩
  | br e st => exact ⟨b e st h.h⟩
  | ct e st => exact ⟨c e st h.h⟩
  | ex _ _ _ _ => exact h.h.elim
  | no => exact h.h.elim
theorem WpS.eq {x : SR} {e : Env} {O : Outs} (h : x = .nx e st) (q : O.nx e st) : WpS x O := by
  rw [h]
  exact ⟨q⟩
def tT (x : SR) (f : Env → Store → SR) (_ : Tag f := .mk) : SR := turn x f
theorem for_n {tg : Tg} {body : Env → Store → SR} : forL tg body [] env st = .nx env st := Eq.trans rfl rfl
theorem for_c {tg : Tg} {body : Env → Store → SR} {d : MP.D} {r : List MP.D} : forL tg body (d :: r) env st = oT (bindTg tg d env) .no fun env' => tT (body env' st) (forL tg body r) := by
  show (match bindTg tg d env with
    | none => SR.no
    | some env' => turn (body env' st) (forL tg body r)) = _
  cases bindTg tg d env <;> rfl
theorem wps_tT {x : SR} {f : Env → Store → SR} {O : Outs} {t : Tag f} {u : Tag O} : WpS (tT x f t) O u = WpS x ⟨fun e st => WpS (f e st) O, O.rt, O.nx, fun e st => WpS (f e st) O⟩ := wps_turn
theorem tT_nx {f : Env → Store → SR} {t : Tag f} : tT (.nx env st) f t = f env st := Eq.trans rfl rfl
theorem tT_ct {f : Env → Store → SR} {t : Tag f} : tT (.ct env st) f t = f env st := Eq.trans rfl rfl
theorem tT_br {f : Env → Store → SR} {t : Tag f} : tT (.br env st) f t = .nx env st := Eq.trans rfl rfl
theorem tT_rt {x : RV} {f : Env → Store → SR} {t : Tag f} : tT (.rt x st) f t = .rt x st := Eq.trans rfl rfl
theorem tT_ex {c : Str} {ds : List (Str × MP.D)} {f : Env → Store → SR} {t : Tag f} : tT (.ex c ds env st) f t = .ex c ds env st := Eq.trans rfl rfl
theorem bt_nm {i : Nat} {d : MP.D} : bindTg (.nm i) d env = some (List.set env i (.val (.dat d))) := Eq.trans rfl rfl
theorem bt_t {ts : Tgs} {ds : List MP.D} : bindTg (.tup ts) (.tuple ds) env = bindTgs ts ds env := Eq.trans rfl rfl
theorem bt_l {ts : Tgs} {ds : List MP.D} : bindTg (.tup ts) (.list ds) env = bindTgs ts ds env := Eq.trans rfl rfl
def btT (o : Option Env) (ts : Tgs) (r : List MP.D) : Option Env := match o with
  | some env' => bindTgs ts r env'
  | none => none
theorem btT_s {ts : Tgs} {r : List MP.D} : btT (some env) ts r = bindTgs ts r env := Eq.trans rfl rfl
theorem bts_n : bindTgs .nil [] env = some env := Eq.trans rfl rfl
theorem bts_c {t : Tg} {ts : Tgs} {d : MP.D} {r : List MP.D} : bindTgs (.cons t ts) (d :: r) env = btT (bindTg t d env) ts r := by
  show (match bindTg t d env with
    | some env' => bindTgs ts r env'
    | none => none) = _
  cases bindTg t d env <;> rfl
def noO : Env → Store → Prop := fun _ _ => False
theorem wp_fn {np ns : Nat} {m : Sms} {vs : List Val} {Q : RV → Store → Prop} (hl : vs.length = np) (h : WpS (evSs m (vs.map Slot.val ++ List.replicate (ns - np) .un) st) ⟨fun _ st => Q ⟨false, .dat .none⟩ st, Q, noO, noO⟩) : Wp (fnOf np ns m vs st) Q := by
  show Wp (bif decide (vs.length = np) then (match evSs m (vs.map Slot.val ++ List.replicate (ns - np) .un) st with
    | .nx _ st => R.ok (plain .none) st
    | .rt x st => R.ok x st
    | .ex c ds _ st => R.exc c ds st
    | _ => R.no) else R.no) Q
  rw [decide_eq_true hl]
  generalize evSs m (vs.map Slot.val ++ List.replicate (ns - np) .un) st = y at h
  cases y with
  | nx e st => exact ⟨h.h⟩
  | rt e st => exact ⟨h.h⟩
  | br e st => exact h.h.elim
  | ct e st => exact h.h.elim
  | ex _ _ _ _ => exact h.h.elim
  | no => exact h.h.elim
theorem fn_eq {np ns : Nat} {m : Sms} {vs : List Val} {r : R RV} (hl : vs.length = np) (h : (match evSs m (vs.map Slot.val ++ List.replicate (ns - np) .un) st with
    | .nx _ st => R.ok (plain .none) st
    | .rt x st => R.ok x st
    | .ex c ds _ st => R.exc c ds st
    | _ => R.no) = r) : fnOf np ns m vs st = r := by
  rw [← h]
  show (bif decide (vs.length = np) then _ else R.no) = _
  rw [decide_eq_true hl]
  rfl
/-- a value that is told alone -/
def Is (x : RV) (st : Store) : RV → Store → Prop := fun y st' => y = x ∧ st' = st
theorem Wp.is {x : RV} {r : R RV} (h : Wp r (Is x st)) : r = .ok x st := by
  obtain ⟨a, st', e, rfl, rfl⟩ := h.ex
  exact e
/-! ### loops -/
variable {tg : Tg} {body : Env → Store → SR} {O : Outs}
theorem wps_forT {α : Type} (f : α → MP.D) (P : List α → Env → Store → Prop) (step : ∀ a r env st, P (a :: r) env st → ∃ env1, bindTg tg (f a) env = some env1 ∧ WpS (body env1 st) ⟨P r, O.rt, O.nx, P r⟩)
    (fin : ∀ env st, P [] env st → O.nx env st) : ∀ (items : List α) env st, P items env st → WpS (forL tg body (items.map f) env st) O
  | [], env, st, h => ⟨fin env st h⟩
  | d :: r, env, st, h => by
    obtain ⟨env1, hb, hw⟩ := step d r env st h
    show WpS (match bindTg tg (f d) env with
      | none => SR.no
      | some env' => turn (body env' st) (forL tg body (r.map f))) O
    rw [hb]
    show WpS (turn (body env1 st) (forL tg body (r.map f))) O
    rw [wps_turn]
    exact hw.mono (fun e st q => wps_forT f P step fin r e st q) (fun _ _ q => q) (fun _ _ q => q) fun e st q => wps_forT f P step fin r e st q
theorem rangeUp_cons {i j : Int} (h : i < j) : rangeUp i j = .int i :: rangeUp (i + 1) j := by
  unfold rangeUp
  obtain ⟨n, hn⟩ : ∃ n : Nat, (j - i).toNat = n + 1 := ⟨(j - i).toNat - 1, by omega⟩
  have hm : (j - (i + 1)).toNat = n := by omega
  rw [hn, hm, List.range_succ_eq_map, List.map_cons, List.map_map]
  congr 1
  · simp
  · refine List.map_congr_left fun k _ => ?_
    show PyData.int (i + ((k + 1 : Nat) : Int)) = PyData.int (i + 1 + (k : Int))
    congr 1
    omega
theorem rangeUp_nil {i j : Int} (h : j ≤ i) : rangeUp i j = [] := by
  unfold rangeUp
  have hm : (j - i).toNat = 0 := by omega
  rw [hm]
  rfl
theorem wps_forR (P : Int → Env → Store → Prop) {j : Int} (step : ∀ k env st, k < j → P k env st → ∃ env1, bindTg tg (.int k) env = some env1 ∧ WpS (body env1 st) ⟨P (k + 1), O.rt, O.nx, P (k + 1)⟩)
    (fin : ∀ k env st, j ≤ k → P k env st → O.nx env st) : ∀ (n : Nat) (i : Int) env st, (j - i).toNat = n → P i env st → WpS (forL tg body (rangeUp i j) env st) O
  | 0, i, env, st, hn, h => by
    rw [rangeUp_nil (by omega)]
    exact ⟨fin i env st (by omega) h⟩
  | n + 1, i, env, st, hn, h => by
    have hi : i < j := by omega
    rw [rangeUp_cons hi]
    obtain ⟨env1, hb, hw⟩ := step i env st hi h
    show WpS (match bindTg tg (.int i) env with
      | none => SR.no
      | some env' => turn (body env' st) (forL tg body (rangeUp (i + 1) j))) O
    rw [hb]
    show WpS (turn (body env1 st) (forL tg body (rangeUp (i + 1) j))) O
    rw [wps_turn]
    exact hw.mono (fun e st q => wps_forR P step fin n (i + 1) e st (by omega) q) (fun _ _ q => q) (fun _ _ q => q) fun e st q => wps_forR P step fin n (i + 1) e st (by omega) q
/-! ### comprehensions -/
theorem wp_compM {α : Type} {f : MP.D → Store → R (Option MP.D)} {Q : List MP.D → Store → Prop} (e g : α → MP.D) {xs : List α} (h : ∀ a ∈ xs, Wp (f (e a) st) fun y st' => y = some (g a) ∧ st' = st) (hl : xs.length ≤ 2 ^ 24) (hq : Q (xs.map g) st) : Wp (compL f (xs.map e) [] st) Q := by
  have go : ∀ (xs : List α) (acc : List MP.D), (∀ a ∈ xs, Wp (f (e a) st) fun y st' => y = some (g a) ∧ st' = st) → acc.length + xs.length ≤ 2 ^ 24 → compL f (xs.map e) acc st = .ok (acc ++ xs.map g) st := by
    intro xs
    induction xs with
    | nil =>
      intro acc _ _
      show R.ok acc st = _
      rw [List.map_nil, List.append_nil]
    | cons a r ih =>
      intro acc h hl
      obtain ⟨_, _, e1, rfl, rfl⟩ := (h a List.mem_cons_self).ex
      show (match f (e a) _ with
        | .ok (some y) st1 => bif fitsS acc.length then compL f (r.map e) (acc ++ [y]) st1 else R.no
        | .ok none st1 => compL f (r.map e) acc st1
        | _ => R.no) = _
      rw [e1]
      have q : fitsS acc.length = true := fitsS_of (by simp at hl; omega)
      show (bif fitsS acc.length then _ else _) = _
      rw [q]
      show compL f (r.map e) (acc ++ [g a]) _ = _
      rw [ih _ (fun b hb => h b (List.mem_cons_of_mem _ hb)) (by simp at hl ⊢; omega), List.append_assoc]
      rfl
  rw [go xs [] h (by simpa using hl)]
  exact ⟨hq⟩
/-- a comprehension of two clauses: for each outer item some are told -/
theorem wp_comp2 {α : Type} {f : MP.D → List MP.D → Store → R (List MP.D)} {Q : List MP.D → Store → Prop} (e : α → MP.D) (g : α → List MP.D) {xs : List α} (N : Nat) (h : ∀ a ∈ xs, ∀ acc : List MP.D, acc.length ≤ N → Wp (f (e a) acc st) fun y st' => y = acc ++ g a ∧ st' = st)
    (hl : (xs.flatMap g).length ≤ N) (hq : Q (xs.flatMap g) st) : Wp (compL2 f (xs.map e) [] st) Q := by
  have go : ∀ (xs : List α) (acc : List MP.D), (∀ a ∈ xs, ∀ acc : List MP.D, acc.length ≤ N → Wp (f (e a) acc st) fun y st' => y = acc ++ g a ∧ st' = st) → acc.length + (xs.flatMap g).length ≤ N → compL2 f (xs.map e) acc st = .ok (acc ++ xs.flatMap g) st := by
    intro xs
    induction xs with
    | nil =>
      intro acc _ _
      show R.ok acc st = _
      rw [List.flatMap_nil, List.append_nil]
    | cons a r ih =>
      intro acc h hl
      rw [List.flatMap_cons, List.length_append] at hl
      obtain ⟨_, _, e1, rfl, rfl⟩ := (h a List.mem_cons_self acc (by omega)).ex
      show (match f (e a) acc _ with
        | .ok acc' st1 => compL2 f (r.map e) acc' st1
        | _ => R.no) = _
      rw [e1]
      show compL2 f (r.map e) (acc ++ g a) _ = _
      rw [ih _ (fun b hb => h b (List.mem_cons_of_mem _ hb)) (by rw [List.length_append]; omega), List.append_assoc, List.flatMap_cons]
  rw [go xs [] h (by simpa using hl)]
  exact ⟨hq⟩
/-! ### the evaluator, step by step -/
def varR (s : Option Slot) (pk : Bool) (st : Store) : R RV := match s with
  | some (.val v) => .ok ⟨false, v⟩ st
  | some (.own d) => bif pk then .ok (plain d) st else .no
  | _ => .no
def retR (s : Option Slot) (env : Env) (st : Store) : SR := match s with
  | some (.own d) => .rt ⟨true, .dat d⟩ st
  | s => (varR s false st).sr env fun x st => .rt x st
def ixR (o : Option MP.D) (st : Store) : R RV := match o with
  | some d => .ok ⟨false, .dat d⟩ st
  | none => .no
def optS {γ : Type} (o : Option γ) (f : γ → SR) (_ : Tag f := .mk) : SR := match o with
  | some a => f a
  | none => .no
theorem optS_s {γ : Type} {a : γ} {f : γ → SR} {t : Tag f} : optS (some a) f t = f a := Eq.trans rfl rfl
theorem varR_v {v : Val} : varR (some (.val v)) pk st = .ok ⟨false, v⟩ st := Eq.trans rfl rfl
theorem varR_o {d : MP.D} : varR (some (.own d)) true st = .ok ⟨false, .dat d⟩ st := Eq.trans rfl rfl
theorem retR_o {d : MP.D} : retR (some (.own d)) env st = .rt ⟨true, .dat d⟩ st := Eq.trans rfl rfl
theorem retR_v {v : Val} : retR (some (.val v)) env st = .rt ⟨false, v⟩ st := Eq.trans rfl rfl
theorem ixR_s {d : MP.D} : ixR (some d) st = .ok ⟨false, .dat d⟩ st := Eq.trans rfl rfl
theorem ix_l {f1 f2 : Bool} {xs : List MP.D} {k : Int} : ixV ⟨f1, .dat (.list xs)⟩ ⟨f2, .dat (.int k)⟩ st = ixR (ixD xs k) st := Eq.trans rfl rfl
theorem ix_t {f1 f2 : Bool} {xs : List MP.D} {k : Int} : ixV ⟨f1, .dat (.tuple xs)⟩ ⟨f2, .dat (.int k)⟩ st = ixR (ixD xs k) st := Eq.trans rfl rfl
section
variable {i : Nat} {a b c e k : Ex} {es : Exs} {o : Op2} {q q1 q2 : Cp} {x : Str} {d : MP.D} {lo hi m : Opt} {f : Fn} {g : Blt} {ts : List String} {it : It} {elt : Ex} {own : List (Str × Nat)} {tg tg1 : Tg} {s : Sm} {ss sa sb : Sms} {is : List Nat} {us : Tgs} {w : Bool}
theorem ev_var : evE (.var i) pk env st = varR env[i]? pk st := Eq.trans rfl rfl
theorem ev_cst {c : Lit} : evE (.cst c) pk env st = .ok ⟨false, .dat c.d⟩ st := Eq.trans rfl rfl
theorem ev_glob : evE (.glob x d) pk env st = .ok ⟨false, .dat d⟩ st := Eq.trans rfl rfl
theorem ev_neg : evE (.neg a) pk env st = bT (evE a true env st) fun x st => bT (intOf x st) fun i st => .ok ⟨false, .dat (.int (-i))⟩ st := Eq.trans rfl rfl
theorem ev_not : evE (.not a) pk env st = bT (evE a true env st) fun x st => bT (boolOf x st) fun b st => .ok ⟨false, .dat (.bool (!b))⟩ st := Eq.trans rfl rfl
theorem ev_bin : evE (.bin o a b) pk env st = bT (evE a true env st) fun x st => bT (datOf x st) fun x st => bT (evE b true env st) fun y st => bT (datOf y st) fun y st => ofBD (bin o x y) st := Eq.trans rfl rfl
theorem ev_cmp : evE (.cmp q a b) pk env st = bT (evE a true env st) fun x st => bT (datOf x st) fun x st => bT (evE b true env st) fun y st => bT (datOf y st) fun y st => ofB (cmpD q x y) st := Eq.trans rfl rfl
theorem ev_chain : evE (.chain q1 q2 a b c) pk env st = bT (evE a true env st) fun x st => bT (datOf x st) fun x st => bT (evE b true env st) fun y st => bT (datOf y st) fun y st =>
    bT (rOpt (cmpD q1 x y) st) fun k st => Cb k (bT (evE c true env st) fun z st => bT (datOf z st) fun z st => ofB (cmpD q2 y z) st) (.ok ⟨false, .dat (.bool false)⟩ st) := Eq.trans rfl rfl
theorem ev_and : evE (.and a b) pk env st = bT (evE a true env st) fun x st => bT (boolOf x st) fun k st => Cb k (bT (evE b true env st) fun y st => bT (boolOf y st) fun k st => .ok ⟨false, .dat (.bool k)⟩ st) (.ok ⟨false, .dat (.bool false)⟩ st) := Eq.trans rfl rfl
theorem ev_or : evE (.or a b) pk env st = bT (evE a true env st) fun x st => bT (boolOf x st) fun k st => Cb k (.ok ⟨false, .dat (.bool true)⟩ st) (bT (evE b true env st) fun y st => bT (boolOf y st) fun k st => .ok ⟨false, .dat (.bool k)⟩ st) := Eq.trans rfl rfl
theorem ev_ite : evE (.ite c a b) pk env st = bT (evE c true env st) fun x st => bT (boolOf x st) fun k st => Cb k (evE a pk env st) (evE b pk env st) := Eq.trans rfl rfl
theorem ev_tup : evE (.tup es) pk env st = bT (evA es env st) fun ds st => Cb (fits ds.length) (.ok ⟨false, .dat (.tuple ds)⟩ st) .no := Eq.trans rfl rfl
theorem ev_lst : evE (.lst es) pk env st = bT (evA es env st) fun ds st => Cb (fits ds.length) (.ok ⟨true, .dat (.list ds)⟩ st) .no := Eq.trans rfl rfl
theorem ev_ix : evE (.ix a b) pk env st = bT (evE a true env st) fun x st => bT (evE b true env st) fun y st => ixV x y st := Eq.trans rfl rfl
theorem ev_slice : evE (.slice a lo hi) pk env st = bT (evE a true env st) fun x st => bT (datOf x st) fun x st => bT (evO lo env st) fun l st => bT (evO hi env st) fun h st => ofBD (sliceD x l h) st := Eq.trans rfl rfl
theorem ev_rev : evE (.rev a) pk env st = bT (evE a true env st) fun x st => bT (datOf x st) fun x st => ofBD (revD x) st := Eq.trans rfl rfl
theorem ev_call : evE (.call x f es) pk env st = bT (evV es env st) fun vs st => f vs st := Eq.trans rfl rfl
theorem ev_blt : evE (.blt g es) pk env st = bT (evP es env st) fun ds st => ofBD (bltF g ds) st := Eq.trans rfl rfl
theorem ev_isi : evE (.isi a ts) pk env st = bT (evE a true env st) fun x st => bT (datOf x st) fun x st => .ok ⟨false, .dat (.bool (ts.any (isA x)))⟩ st := Eq.trans rfl rfl
theorem ev_comp : evE (.comp elt own tg it m) pk env st = bT (evI it env st) fun items st => bT (compL (compF elt own tg m env) items [] st) fun ys st => .ok ⟨true, .dat (.list ys)⟩ st := Eq.trans rfl rfl
theorem ev_compF {d : MP.D} : compF elt own tg m env d st = oT (bindTg tg d (wipeE env (own.map (·.2)))) .no fun env' => bT (evC m env' st) fun k st => Cb k (bT (evE elt false env' st) fun y st => bT (datOf y st) fun y st => .ok (some y) st) (.ok none st) := by
  unfold compF oT
  cases bindTg tg d (wipeE env (own.map (·.2))) <;> rfl
theorem ev_comp2 {own1 : List (Str × Nat)} {tg1 : Tg} {it1 : MP.It} {m1 : Opt} : evE (.comp2 elt own tg it m own1 tg1 it1 m1) pk env st = bT (evI it env st) fun items st => bT (compL2 (comp2F elt own tg m own1 tg1 it1 m1 env) items [] st) fun ys st => .ok ⟨true, .dat (.list ys)⟩ st := Eq.trans rfl rfl
theorem ev_comp2F {own1 : List (Str × Nat)} {tg1 : Tg} {it1 : MP.It} {m1 : Opt} {d : MP.D} {acc : List MP.D} : comp2F elt own tg m own1 tg1 it1 m1 env d acc st = oT (bindTg tg d (wipeE env (own.map (·.2)))) .no fun env1 => bT (evC m env1 st) fun k st => Cb k (bT (evI it1 env1 st) fun items1 st => compL (compF elt own1 tg1 m1 env1) items1 acc st) (.ok acc st) := by
  unfold comp2F oT
  cases bindTg tg d (wipeE env (own.map (·.2))) <;> rfl
theorem evA_n : evA .nil env st = .ok [] st := Eq.trans rfl rfl
theorem evA_c : evA (.cons e es) env st = bT (evE e false env st) fun x st => bT (datOf x st) fun d st => bT (evA es env st) fun ds st => .ok (d :: ds) st := Eq.trans rfl rfl
theorem evA_s : evA (.star e es) env st = bT (evE e true env st) fun x st => bT (datOf x st) fun d st => bT (rOpt (seqOf d) st) fun xs st => bT (evA es env st) fun ds st => .ok (xs ++ ds) st := Eq.trans rfl rfl
theorem evV_n : evV .nil env st = .ok [] st := Eq.trans rfl rfl
theorem evV_c : evV (.cons e es) env st = bT (evE e false env st) fun x st => bT (evV es env st) fun ds st => .ok (x.v :: ds) st := Eq.trans rfl rfl
theorem evP_n : evP .nil env st = .ok [] st := Eq.trans rfl rfl
theorem evP_c : evP (.cons e es) env st = bT (evE e true env st) fun x st => bT (datOf x st) fun d st => bT (evP es env st) fun ds st => .ok (d :: ds) st := Eq.trans rfl rfl
theorem evO_n : evO .non env st = .ok none st := Eq.trans rfl rfl
theorem evO_s : evO (.som e) env st = bT (evE e true env st) fun x st => bT (intOf x st) fun i st => .ok (some i) st := Eq.trans rfl rfl
theorem evC_n : evC .non env st = .ok true st := Eq.trans rfl rfl
theorem evC_s : evC (.som e) env st = bT (evE e true env st) fun x st => boolOf x st := Eq.trans rfl rfl
theorem evI_s : evI (.seq e) env st = bT (evE e false env st) fun x st => bT (datOf x st) fun d st => rOpt (seqOf d) st := Eq.trans rfl rfl
theorem evI_1 : evI (.rng1 a) env st = bT (evE a true env st) fun x st => bT (intOf x st) fun i st => Cb (rngOk i) (.ok (rangeUp 0 i) st) .no := Eq.trans rfl rfl
theorem evI_2 : evI (.rng2 a b) env st = bT (evE a true env st) fun x st => bT (intOf x st) fun i st => bT (evE b true env st) fun x st => bT (intOf x st) fun j st => Cb (rngOk i && rngOk j) (.ok (rangeUp i j) st) .no := Eq.trans rfl rfl
theorem evI_3 : evI (.rng3 a b c) env st = bT (evE a true env st) fun x st => bT (intOf x st) fun i st => bT (evE b true env st) fun x st => bT (intOf x st) fun j st => bT (evE c true env st) fun x st => bT (intOf x st) fun k st => Cb (rngOk i && rngOk j && decide (k = -1)) (.ok (rangeDn i j) st) .no := Eq.trans rfl rfl
theorem evI_e : evI (.enum e) env st = bT (evE e false env st) fun x st => bT (datOf x st) fun d st => bT (rOpt (seqOf d) st) fun xs st => .ok (enumL 0 xs) st := Eq.trans rfl rfl
theorem evI_z : evI (.zip a b) env st = bT (evE a false env st) fun x st => bT (datOf x st) fun d st => bT (evE b false env st) fun x st => bT (datOf x st) fun e st => rOpt (zipD d e) st := Eq.trans rfl rfl
theorem listOf_l {xs : List MP.D} : listOf (.list xs) = some xs := Eq.trans rfl rfl
theorem zipD_l {xs ys : List MP.D} : zipD (.list xs) (.list ys) = some (zipL xs ys) := Eq.trans rfl rfl
theorem zipD_t {xs ys : List MP.D} : zipD (.tuple xs) (.tuple ys) = some (zipL xs ys) := Eq.trans rfl rfl
theorem es_pass : evS .pass env st = .nx env st := Eq.trans rfl rfl
theorem es_exp : evS (.exp e) env st = sT (evE e true env st) env fun _ st => .nx env st := Eq.trans rfl rfl
theorem es_set : evS (.set i false e) env st = sT (evE e false env st) env fun x st => .nx (List.set env i (.val x.v)) st := Eq.trans rfl rfl
theorem es_setO : evS (.set i true e) env st = sT (evE e false env st) env fun x st => match x with
    | ⟨true, .dat d⟩ => .nx (List.set env i (.own d)) st
    | _ => .no := Eq.trans rfl rfl
theorem es_setT : evS (.setT us e) env st = sT (evE e false env st) env fun x st => sT (datOf x st) env fun d st => oT (bindTg (.tup us) d env) .no fun env' => .nx env' st := by
  show ((evE e false env st).sr env fun x st => (datOf x st).sr env fun d st => match bindTg (.tup us) d env with
    | some env' => .nx env' st
    | none => .no) = ((evE e false env st).sr env fun x st => (datOf x st).sr env fun d st => match bindTg (.tup us) d env with
    | none => .no
    | some env' => .nx env' st)
  congr 1
  funext x st
  congr 1
  funext d st
  cases bindTg (.tup us) d env <;> rfl
theorem es_par : evS (.par is es) env st = sT (evA es env st) env fun ds st => oT (putVals is ds env) .no fun env' => .nx env' st := by
  show ((evA es env st).sr env fun ds st => match putVals is ds env with
    | some env' => .nx env' st
    | none => .no) = ((evA es env st).sr env fun ds st => match putVals is ds env with
    | none => .no
    | some env' => .nx env' st)
  congr 1
  funext ds st
  cases putVals is ds env <;> rfl
def ownOf (x : RV) (st : Store) : R MP.D := match x with
  | ⟨true, .dat d⟩ => .ok d st
  | _ => .no
theorem ownOf_t {d : MP.D} : ownOf ⟨true, .dat d⟩ st = .ok d st := Eq.trans rfl rfl
theorem evR_n : evR [] .nil env st = .ok [] st := Eq.trans rfl rfl
theorem evR_f {fs : List Bool} : evR (false :: fs) (.cons e es) env st = bT (evE e false env st) fun x st => bT (datOf x st) fun d st => bT (evR fs es env st) fun ss st => .ok (.val (.dat d) :: ss) st := Eq.trans rfl rfl
theorem evR_t {fs : List Bool} : evR (true :: fs) (.cons e es) env st = bT (evE e false env st) fun x st => bT (ownOf x st) fun d st => bT (evR fs es env st) fun ss st => .ok (.own d :: ss) st := by
  show ((evE e false env st).bind fun x st => match x with
      | ⟨true, .dat d⟩ => (evR fs es env st).bind fun ss st => R.ok (.own d :: ss) st
      | _ => .no) = (evE e false env st).bind _
  congr 1
  funext x st
  obtain ⟨fr, y⟩ := x
  cases fr <;> cases y <;> rfl
theorem pS_n : putSlots [] [] env = some env := Eq.trans rfl rfl
theorem pS_c {s : Slot} {sl : List Slot} : putSlots (i :: is) (s :: sl) env = putSlots is sl (List.set env i s) := Eq.trans rfl rfl
theorem es_parO {fs : List Bool} : evS (.parO is fs es) env st = sT (evR fs es env st) env fun ss st => oT (putSlots is ss env) .no fun env' => .nx env' st := by
  show ((evR fs es env st).sr env fun ds st => match putSlots is ds env with
    | some env' => .nx env' st
    | none => .no) = ((evR fs es env st).sr env fun ds st => match putSlots is ds env with
    | none => .no
    | some env' => .nx env' st)
  congr 1
  funext ds st
  cases putSlots is ds env <;> rfl
theorem es_ite : evS (.ite c sa sb) env st = sT (evE c true env st) env fun x st => sT (boolOf x st) env fun k st => Cb k (evSs sa env st) (evSs sb env st) := Eq.trans rfl rfl
theorem es_whil : evS (.whil c sb) env st = whileL (fun env st => bT (evE c true env st) fun x st => boolOf x st) (evSs sb) WF env st := Eq.trans rfl rfl
theorem es_for : evS (.forr tg it sb) env st = sT (evI it env st) env fun items st => forL tg (evSs sb) items env st := Eq.trans rfl rfl
theorem es_brk : evS .brk env st = .br env st := Eq.trans rfl rfl
theorem es_cnt : evS .cnt env st = .ct env st := Eq.trans rfl rfl
def appR (s : Option Slot) (i : Nat) (env : Env) (d : MP.D) (st : Store) : SR := match s with
  | some (.own (.list xs)) => Cb (fitsS xs.length) (.nx (List.set env i (.own (.list (xs ++ [d])))) st) .no
  | _ => .no
theorem appR_o {xs : List MP.D} : appR (some (.own (.list xs))) i env d st = Cb (fitsS xs.length) (.nx (List.set env i (.own (.list (xs ++ [d])))) st) .no := Eq.trans rfl rfl
theorem es_app (h : ∃ xs, env[i]? = some (.own (.list xs))) : evS (.app i e) env st = sT (evE e false env st) env fun x st => sT (datOf x st) env fun d st => appR env[i]? i env d st := by
  obtain ⟨xs, h⟩ := h
  show (match env[i]? with
    | some (.own (.list xs)) => (evE e false env st).sr env fun x st => (datOf x st).sr env fun d st => bif fitsS xs.length then .nx (List.set env i (.own (.list (xs ++ [d])))) st else .no
    | _ => .no) = _
  rw [h]
  rfl
def augR (s : Option Slot) (o : Op2) (i : Nat) (env : Env) (b : Int) (st : Store) : SR := match s with
  | some (.val (.dat (.int a))) => (match augI o a b with
    | some k => .nx (List.set env i (.val (.dat (.int k)))) st
    | none => .no)
  | _ => .no
theorem augR_a {n m : Int} : augR (some (.val (.dat (.int n)))) .add i env m st = .nx (List.set env i (.val (.dat (.int (n + m))))) st := Eq.trans rfl rfl
theorem augR_s {n m : Int} : augR (some (.val (.dat (.int n)))) .sub i env m st = .nx (List.set env i (.val (.dat (.int (n - m))))) st := Eq.trans rfl rfl
/-! dicts of ours, by whole numbers -/
def dgT (s : Option Slot) (f : List (MP.D × MP.D) → R RV) (_ : Tag f := .mk) : R RV := match s with
  | some (.own (.dict kvs)) => f kvs
  | _ => .no
theorem dgT_o {kvs : List (MP.D × MP.D)} {f : List (MP.D × MP.D) → R RV} {t : Tag f} : dgT (some (.own (.dict kvs))) f t = f kvs := Eq.trans rfl rfl
def dpT (s : Option Slot) (f : List (MP.D × MP.D) → SR) (_ : Tag f := .mk) : SR := match s with
  | some (.own (.dict kvs)) => f kvs
  | _ => .no
theorem dpT_o {kvs : List (MP.D × MP.D)} {f : List (MP.D × MP.D) → SR} {t : Tag f} : dpT (some (.own (.dict kvs))) f t = f kvs := Eq.trans rfl rfl
def dgR (o : Option MP.D) (st : Store) : R RV := match o with
  | some d => .ok ⟨false, .dat d⟩ st
  | none => .no
theorem dgR_s {d : MP.D} : dgR (some d) st = .ok ⟨false, .dat d⟩ st := Eq.trans rfl rfl
def dxR (o : Option Int) (st : Store) : R RV := match o with
  | some d => .ok ⟨false, .dat (.int d)⟩ st
  | none => .no
theorem dxR_s {d : Int} : dxR (some d) st = .ok ⟨false, .dat (.int d)⟩ st := Eq.trans rfl rfl
def dsR (o : Option (List Int)) (st : Store) : R RV := match o with
  | some ks => bif decide (ks.length < 64) then .ok ⟨true, .dat (.list ((ks.mergeSort fun a b => decide (a ≤ b)).map PyData.int))⟩ st else .no
  | none => .no
theorem ev_dicn : evE .dicn pk env st = .ok ⟨true, .dat (.dict [])⟩ st := Eq.trans rfl rfl
theorem ev_dhasT {k : Ex} : evE (.dhas true k i) pk env st = bT (evE k true env st) fun z st => bT (intOf z st) fun n st => dgT env[i]? fun kvs => .ok ⟨false, .dat (.bool (!(dGetI kvs n).isSome))⟩ st := Eq.trans rfl rfl
theorem ev_dhasF {k : Ex} : evE (.dhas false k i) pk env st = bT (evE k true env st) fun z st => bT (intOf z st) fun n st => dgT env[i]? fun kvs => .ok ⟨false, .dat (.bool ((dGetI kvs n).isSome))⟩ st := Eq.trans rfl rfl
theorem ev_dget {k : Ex} : evE (.dget i k) pk env st = dgT env[i]? fun kvs => bT (evE k true env st) fun z st => bT (intOf z st) fun n st => dgR (dGetI kvs n) st := Eq.trans rfl rfl
theorem ev_dsort : evE (.dsort i) pk env st = dgT env[i]? fun kvs => dsR (dKeysI kvs) st := Eq.trans rfl rfl
theorem ev_dixl {k : Ex} {kvs : List (Int × Int)} : evE (.dixl kvs k) pk env st = bT (evE k true env st) fun z st => bT (intOf z st) fun n st => dxR (kvs.lookup n) st := Eq.trans rfl rfl
theorem ev_lrng1 : evE (.lrng1 a) pk env st = bT (evE a true env st) fun x st => bT (intOf x st) fun i st => Cb (rgB 0 i) (.ok ⟨true, .dat (.list (rangeUp 0 i))⟩ st) .no := Eq.trans rfl rfl
theorem ev_lrng2 : evE (.lrng2 a b) pk env st = bT (evE a true env st) fun x st => bT (intOf x st) fun i st => bT (evE b true env st) fun y st => bT (intOf y st) fun j st => Cb (rgB i j) (.ok ⟨true, .dat (.list (rangeUp i j))⟩ st) .no := Eq.trans rfl rfl
theorem blt_intB {b : Bool} : bltF .int [.bool b] = some (false, .int (if b then 1 else 0)) := Eq.trans rfl rfl
theorem ev_cntL {k : Ex} : evE (.cntL a k) pk env st = bT (evE a true env st) fun x st => bT (datOf x st) fun d st => bT (rOpt (listOf d) st) fun xs st => bT (evE k true env st) fun y st => bT (intOf y st) fun i st => ofBD ((intsOf xs).map fun is => (false, .int (is.count i : Nat))) st := Eq.trans rfl rfl
theorem ev_revc : evE (.revc a) pk env st = bT (evE a true env st) fun x st => bT (datOf x st) fun x st => ofBD (revcD x) st := Eq.trans rfl rfl
theorem es_dput {k e : Ex} : evS (.dput i k e) env st = sT (evE e false env st) env fun x st => sT (datOf x st) env fun d st => dpT env[i]? fun kvs => sT (evE k true env st) env fun y st => sT (intOf y st) env fun n st => Cb (fitsS kvs.length) (.nx (List.set env i (.own (.dict (dPutI kvs n d)))) st) .no := Eq.trans rfl rfl
theorem er_dhas {neg : Bool} {k : Ex} : evS (.ret (.dhas neg k i)) env st = sT (evE (.dhas neg k i) false env st) env fun x st => .rt x st := Eq.trans rfl rfl
theorem er_dget {k : Ex} : evS (.ret (.dget i k)) env st = sT (evE (.dget i k) false env st) env fun x st => .rt x st := Eq.trans rfl rfl
theorem er_dsort : evS (.ret (.dsort i)) env st = sT (evE (.dsort i) false env st) env fun x st => .rt x st := Eq.trans rfl rfl
theorem er_dixl {k : Ex} {kvs : List (Int × Int)} : evS (.ret (.dixl kvs k)) env st = sT (evE (.dixl kvs k) false env st) env fun x st => .rt x st := Eq.trans rfl rfl
def frzR (s : Option Slot) (i : Nat) (env : Env) (st : Store) : SR := match s with
  | some (.own d) => .nx (List.set env i (.val (.dat d))) st
  | _ => .no
theorem frzR_o {d : MP.D} : frzR (some (.own d)) i env st = .nx (List.set env i (.val (.dat d))) st := Eq.trans rfl rfl
def clrR (s : Option Slot) (i : Nat) (env : Env) (st : Store) : SR := match s with
  | some (.own (.list _)) => .nx (List.set env i (.own (.list []))) st
  | _ => .no
theorem clrR_o {xs : List MP.D} : clrR (some (.own (.list xs))) i env st = .nx (List.set env i (.own (.list []))) st := Eq.trans rfl rfl
theorem es_clr : evS (.clr i) env st = clrR env[i]? i env st := Eq.trans rfl rfl
theorem es_rais {c : Str} : evS (.rais c) env st = .ex c [] env st := Eq.trans rfl rfl
/-- a try with a name: what its clause does -/
def zT (x : SR) (c : Str) (i : Nat) : SR := match x with
  | .ex c' ds env' st' => bif decide (c' = c) && ds.isEmpty then (match env'[i]? with
      | some _ => .rt ⟨false, .dat (.bool true)⟩ st'
      | none => .no) else .no
  | r => r
theorem zT_nx {c : Str} : zT (.nx env st) c i = .nx env st := Eq.trans rfl rfl
theorem zT_rt {c : Str} {x : RV} : zT (.rt x st) c i = .rt x st := Eq.trans rfl rfl
theorem zT_ex {c : Str} : zT (.ex c [] env st) c i = optS env[i]? fun _ => .rt ⟨false, .dat (.bool true)⟩ st := by
  show (bif decide (c = c) && true then (match env[i]? with
      | some _ => SR.rt ⟨false, .dat (.bool true)⟩ st
      | none => .no) else SR.no) = _
  rw [decide_eq_true rfl]
  cases env[i]? <;> rfl
theorem es_tryY {b : Sms} {c kk : Str} : evS (.tryY b c i kk) env st = zT (evSs b env st) c i := Eq.trans rfl rfl
theorem es_try {b : Sms} {c : Str} {e : Ex} : evS (.tryR b c e) env st = yT (evSs b env st) c fun env st => sT (evE e false env st) env fun x st => .rt x st := Eq.trans rfl rfl
theorem er_lamc {k : HK} : evS (.ret (.lamc x k a)) env st = sT (evE (.lamc x k a) false env st) env fun x st => .rt x st := Eq.trans rfl rfl
theorem ev_lamc {k : HK} : evE (.lamc x k a) pk env st = lamR k (evE a false env st) := Eq.trans rfl rfl
theorem lamR_T {c : Str} {h : Hx} {f : Af} {x : RV} : lamR ⟨true, c, h, f⟩ (.ok x st) = .ok x st := Eq.trans rfl rfl
theorem lamR_L {c : Str} {h : Hx} {l : Lit} {x : RV} : lamR ⟨false, c, h, .lit l⟩ (.ok x st) = .ok ⟨false, .dat l.d⟩ st := Eq.trans rfl rfl
theorem lamR_N {c : Str} {h : Hx} {x : RV} : lamR ⟨false, c, h, .nil⟩ (.ok x st) = .ok ⟨true, .dat (.list [])⟩ st := Eq.trans rfl rfl
theorem lamR_xC {c : Str} {b : Bool} {f : Af} {l : Lit} {ds : List (Str × MP.D)} : lamR ⟨b, c, .cst l, f⟩ (.exc c ds st) = .ok ⟨false, .dat l.d⟩ st := by
  show (bif decide (c = c) then R.ok _ st else .no) = _
  rw [decide_eq_true rfl]
  rfl
theorem lamR_xL {c f : Str} {b : Bool} {o : Option Str} {a : Af} {j : Int} : lamR ⟨b, c, .lst f o, a⟩ (.exc c [(f, .int j)] st) = .ok ⟨true, .dat (.list [.int j])⟩ st := by
  show (bif decide (c = c) then (match (bif decide (f = f) then some (true, PyData.list [.int j]) else none) with | some (b, d) => R.ok (RV.mk b (.dat d)) st | none => .no) else .no) = _
  rw [decide_eq_true rfl, decide_eq_true rfl]
  rfl
theorem lamR_xT {c f s : Str} {b : Bool} {o : Option (Str × Str)} {a : Af} {j : Int} : lamR ⟨b, c, .tup s f o, a⟩ (.exc c [(f, .int j)] st) = .ok ⟨false, .dat (.tuple [.str s, .int j])⟩ st := by
  show (bif decide (c = c) then (match (bif decide (f = f) then some (false, PyData.tuple [.str s, .int j]) else none) with | some (b, d) => R.ok (RV.mk b (.dat d)) st | none => .no) else .no) = _
  rw [decide_eq_true rfl, decide_eq_true rfl]
  rfl
theorem es_raisD {c f : Str} {e : Ex} : evS (.raisD c f e) env st = sT (evE e false env st) env fun x st => sT (intOf x st) env fun i st => .ex c [(f, .int i)] env st := Eq.trans rfl rfl
/-- a try whose clause tells what the error bears -/
def xT (x : SR) (c : Str) (i : Nat) (h : Hx) : SR := match x with
  | .ex c' ds env' st' => bif decide (c' = c) then (match env'[i]?, hxR h ds with
      | some _, some (fr, d) => .rt ⟨fr, .dat d⟩ st'
      | _, _ => .no) else .no
  | r => r
theorem xT_nx {c : Str} {h : Hx} : xT (.nx env st) c i h = .nx env st := Eq.trans rfl rfl
theorem xT_rt {c : Str} {h : Hx} {x : RV} : xT (.rt x st) c i h = .rt x st := Eq.trans rfl rfl
theorem xT_exL {c f : Str} {o : Option Str} {j : Int} : xT (.ex c [(f, .int j)] env st) c i (.lst f o) = optS env[i]? fun _ => .rt ⟨true, .dat (.list [.int j])⟩ st := by
  show (bif decide (c = c) then (match env[i]?, (bif decide (f = f) then some (true, PyData.list [.int j]) else none) with
      | some _, some (fr, d) => SR.rt ⟨fr, .dat d⟩ st
      | _, _ => .no) else .no) = _
  rw [decide_eq_true rfl, decide_eq_true rfl]
  cases env[i]? <;> rfl
theorem xT_exT {c f s : Str} {o : Option (Str × Str)} {j : Int} : xT (.ex c [(f, .int j)] env st) c i (.tup s f o) = optS env[i]? fun _ => .rt ⟨false, .dat (.tuple [.str s, .int j])⟩ st := by
  show (bif decide (c = c) then (match env[i]?, (bif decide (f = f) then some (false, PyData.tuple [.str s, .int j]) else none) with
      | some _, some (fr, d) => SR.rt ⟨fr, .dat d⟩ st
      | _, _ => .no) else .no) = _
  rw [decide_eq_true rfl, decide_eq_true rfl]
  cases env[i]? <;> rfl
theorem es_tryX {b : Sms} {c : Str} {h : Hx} : evS (.tryX b c i h) env st = xT (evSs b env st) c i h := Eq.trans rfl rfl
theorem es_frz : evS (.frz i) env st = frzR env[i]? i env st := Eq.trans rfl rfl
theorem ess_n : evSs .nil env st = .nx env st := Eq.trans rfl rfl
theorem ess_c : evSs (.cons s ss) env st = qT (evS s env st) (evSs ss) := Eq.trans rfl rfl
theorem er_var : evS (.ret (.var i)) env st = retR env[i]? env st := by
  show (match env[i]? with
      | some (.own d) => SR.rt (fresh d) st
      | _ => (evE (.var i) false env st).sr env fun x st => SR.rt x st) = _
  have e : evE (.var i) false env st = varR env[i]? false st := Eq.trans rfl rfl
  rw [e]
  generalize env[i]? = s
  rcases s with _ | (_ | _ | _) <;> rfl
theorem er_cst {c : Lit} : evS (.ret (.cst c)) env st = .rt ⟨false, .dat c.d⟩ st := Eq.trans rfl rfl
theorem er_glob : evS (.ret (.glob x d)) env st = .rt ⟨false, .dat d⟩ st := Eq.trans rfl rfl
theorem er_neg : evS (.ret (.neg a)) env st = sT (evE (.neg a) false env st) env fun x st => .rt x st := Eq.trans rfl rfl
theorem er_not : evS (.ret (.not a)) env st = sT (evE (.not a) false env st) env fun x st => .rt x st := Eq.trans rfl rfl
theorem er_bin : evS (.ret (.bin o a b)) env st = sT (evE (.bin o a b) false env st) env fun x st => .rt x st := Eq.trans rfl rfl
theorem er_cmp : evS (.ret (.cmp q a b)) env st = sT (evE (.cmp q a b) false env st) env fun x st => .rt x st := Eq.trans rfl rfl
theorem er_chain : evS (.ret (.chain q1 q2 a b c)) env st = sT (evE (.chain q1 q2 a b c) false env st) env fun x st => .rt x st := Eq.trans rfl rfl
theorem er_and : evS (.ret (.and a b)) env st = sT (evE (.and a b) false env st) env fun x st => .rt x st := Eq.trans rfl rfl
theorem er_or : evS (.ret (.or a b)) env st = sT (evE (.or a b) false env st) env fun x st => .rt x st := Eq.trans rfl rfl
theorem er_ite : evS (.ret (.ite c a b)) env st = sT (evE (.ite c a b) false env st) env fun x st => .rt x st := Eq.trans rfl rfl
theorem er_tup : evS (.ret (.tup es)) env st = sT (evE (.tup es) false env st) env fun x st => .rt x st := Eq.trans rfl rfl
theorem er_lst : evS (.ret (.lst es)) env st = sT (evE (.lst es) false env st) env fun x st => .rt x st := Eq.trans rfl rfl
theorem er_ix : evS (.ret (.ix a b)) env st = sT (evE (.ix a b) false env st) env fun x st => .rt x st := Eq.trans rfl rfl
theorem er_slice : evS (.ret (.slice a lo hi)) env st = sT (evE (.slice a lo hi) false env st) env fun x st => .rt x st := Eq.trans rfl rfl
theorem er_rev : evS (.ret (.rev a)) env st = sT (evE (.rev a) false env st) env fun x st => .rt x st := Eq.trans rfl rfl
theorem er_call : evS (.ret (.call x f es)) env st = sT (evE (.call x f es) false env st) env fun x st => .rt x st := Eq.trans rfl rfl
theorem er_blt : evS (.ret (.blt g es)) env st = sT (evE (.blt g es) false env st) env fun x st => .rt x st := Eq.trans rfl rfl
theorem er_isi : evS (.ret (.isi a ts)) env st = sT (evE (.isi a ts) false env st) env fun x st => .rt x st := Eq.trans rfl rfl
theorem er_comp : evS (.ret (.comp elt own tg it m)) env st = sT (evE (.comp elt own tg it m) false env st) env fun x st => .rt x st := Eq.trans rfl rfl
end
theorem ix_nat {l : List MP.D} {n : Nat} {d : MP.D} (h : l[n]? = some d) : ixD l n = some d := by
  have hn : n < l.length := (List.getElem?_eq_some_iff.mp h).1
  have e : L2.ixN l.length (n : Int) = some n := by
    unfold L2.ixN
    rw [if_pos (by omega), if_pos (by omega)]
    simp
  unfold ixD L2.atI
  rw [e]
  exact h
@[simp] theorem ix_0 {a : MP.D} {l : List MP.D} : ixD (a :: l) 0 = some a := ix_nat (n := 0) rfl
@[simp] theorem ix_1 {a b : MP.D} {l : List MP.D} : ixD (a :: b :: l) 1 = some b := ix_nat (n := 1) rfl
@[simp] theorem ix_2 {a b c : MP.D} {l : List MP.D} : ixD (a :: b :: c :: l) 2 = some c := ix_nat (n := 2) rfl
@[simp] theorem ix_3 {a b c d : MP.D} {l : List MP.D} : ixD (a :: b :: c :: d :: l) 3 = some d := ix_nat (n := 3) rfl
@[simp] theorem ix_4 {a b c d e : MP.D} {l : List MP.D} : ixD (a :: b :: c :: d :: e :: l) 4 = some e := ix_nat (n := 4) rfl
@[simp] theorem ix_5 {a b c d e f : MP.D} {l : List MP.D} : ixD (a :: b :: c :: d :: e :: f :: l) 5 = some f := ix_nat (n := 5) rfl
@[simp] theorem ix_6 {a b c d e f g : MP.D} {l : List MP.D} : ixD (a :: b :: c :: d :: e :: f :: g :: l) 6 = some g := ix_nat (n := 6) rfl
@[simp] theorem ix_7 {a b c d e f g h : MP.D} {l : List MP.D} : ixD (a :: b :: c :: d :: e :: f :: g :: h :: l) 7 = some h := ix_nat (n := 7) rfl
@[simp] theorem ix_m1 {a : MP.D} {l : List MP.D} : ixD (l ++ [a]) (-1) = some a := L2.atI_last _ _
@[simp] theorem blt_absI {i : Int} : bltF .abs [.int i] = some (false, .int i.natAbs) := Eq.trans rfl rfl
@[simp] theorem blt_intI {i : Int} : bltF .int [.int i] = some (false, .int i) := Eq.trans rfl rfl
@[simp] theorem blt_tupL {i : List MP.D} : bltF .tuple [.list i] = some (false, .tuple i) := Eq.trans rfl rfl
@[simp] theorem blt_tupT {i : List MP.D} : bltF .tuple [.tuple i] = some (false, .tuple i) := Eq.trans rfl rfl
@[simp] theorem blt_lstL {i : List MP.D} : bltF .list [.list i] = some (true, .list i) := Eq.trans rfl rfl
@[simp] theorem blt_lstT {i : List MP.D} : bltF .list [.tuple i] = some (true, .list i) := Eq.trans rfl rfl
@[simp] theorem blt_lenL {i : List MP.D} : bltF .len [.list i] = some (false, .int i.length) := Eq.trans rfl rfl
@[simp] theorem blt_lenT {i : List MP.D} : bltF .len [.tuple i] = some (false, .int i.length) := Eq.trans rfl rfl
theorem blt_lenLm {α : Type} {f : α → MP.D} {i : List α} : bltF .len [.list (i.map f)] = some (false, .int i.length) := by rw [blt_lenL, List.length_map]
theorem blt_lenTm {α : Type} {f : α → MP.D} {i : List α} : bltF .len [.tuple (i.map f)] = some (false, .int i.length) := by rw [blt_lenT, List.length_map]
theorem blt_min2 {i j : Int} : bltF .min [.int i, .int j] = some (false, .int (min i j)) := by
  show some (false, PyData.int (if j < i then j else i)) = _
  rw [show (if j < i then j else i) = min i j by omega]
theorem blt_max2 {i j : Int} : bltF .max [.int i, .int j] = some (false, .int (max i j)) := by
  show some (false, PyData.int (if i < j then j else i)) = _
  rw [show (if i < j then j else i) = max i j by omega]
theorem blt_min3 {i j k : Int} : bltF .min [.int i, .int j, .int k] = some (false, .int (min (min i j) k)) := by
  show some (false, PyData.int (if k < (if j < i then j else i) then k else (if j < i then j else i))) = _
  rw [show (if j < i then j else i) = min i j by omega, show (if k < min i j then k else min i j) = min (min i j) k by omega]
theorem blt_max3 {i j k : Int} : bltF .max [.int i, .int j, .int k] = some (false, .int (max (max i j) k)) := by
  show some (false, PyData.int (if (if i < j then j else i) < k then k else (if i < j then j else i))) = _
  rw [show (if i < j then j else i) = max i j by omega, show (if max i j < k then k else max i j) = max (max i j) k by omega]
theorem isi_n {t : String} : [t].any (isA .none) = false := Eq.trans rfl rfl
theorem isi_b {t : String} {b : Bool} : [t].any (isA (.bool b)) = (t == "bool" || t == "int") := by simp [isA]
theorem isi_i {t : String} {b : Int} : [t].any (isA (.int b)) = (t == "int") := by simp [isA]
theorem isi_s {t : String} {b : Str} : [t].any (isA (.str b)) = (t == "str") := by simp [isA]
theorem isi_l {t : String} {b : List MP.D} : [t].any (isA (.list b)) = (t == "list") := by simp [isA]
theorem isi_t {t : String} {b : List MP.D} : [t].any (isA (.tuple b)) = (t == "tuple") := by simp [isA]
end
end MP
namespace MK
open PySem MP
theorem wp_pick {n : Int} {st : Store} {Q : RV → Store → Prop} (h : IsSrc st) (h2 : 2 ≤ n) (hn : n < 2 ^ 64) (k : ∀ k st', IsSrc st' → 0 ≤ k → k < n → Q ⟨false, .dat (.int k)⟩ st') : Wp (f__law_pick [.loc 1, .dat (.int n)] st) Q := by
  have hl : n.natAbs.log2 < 9000 := by
    have : n.natAbs.log2 < 64 := (Nat.log2_lt (by omega)).mpr (by omega)
    omega
  obtain ⟨x, st', e, h1, h3, h4, _⟩ := pick_ok n hl st h
  rw [e]
  exact ⟨k x st' h1 h3 (h4 h2)⟩
theorem wp_cells {ns : List Int} {Q : RV → Store → Prop} (hn : ns.length ≤ 63) (k : ∀ st', IsSrc st' → Q ⟨false, .loc 1⟩ st') : Wp (f__law_open_cells [.dat (scriptD ns)] []) Q := by
  obtain ⟨st', e, h⟩ := cells_ok ns hn
  rw [e]
  exact ⟨k st' h⟩
theorem c2 {x : Int} (h0 : 0 ≤ x) (h1 : x < 2) : x = 0 ∨ x = 1 := by omega
theorem c3 {x : Int} (h0 : 0 ≤ x) (h1 : x < 3) : x = 0 ∨ x = 1 ∨ x = 2 := by omega
theorem c4 {x : Int} (h0 : 0 ≤ x) (h1 : x < 4) : x = 0 ∨ x = 1 ∨ x = 2 ∨ x = 3 := by omega
theorem c5 {x : Int} (h0 : 0 ≤ x) (h1 : x < 5) : x = 0 ∨ x = 1 ∨ x = 2 ∨ x = 3 ∨ x = 4 := by omega
theorem c9 {x : Int} (h0 : 0 ≤ x) (h1 : x < 9) : x = 0 ∨ x = 1 ∨ x = 2 ∨ x = 3 ∨ x = 4 ∨ x = 5 ∨ x = 6 ∨ x = 7 ∨ x = 8 := by omega
/-! ### flat data: no bools, no dicts -/
structure Fl (k : Nat) (d : MP.D) : Prop where
  n : noB d = true
  c : d.canLay0 = true
  d : d.depth ≤ k
structure Fls (k : Nat) (d : List MP.D) : Prop where
  n : noBs d = true
  c : PyData.canLayAll0 d = true
  d : PyData.depthAll d ≤ k
theorem Fl.int (i : Int) : Fl 0 (.int i) := ⟨rfl, rfl, by simp [PyData.depth]⟩
theorem Fl.none : Fl 0 .none := ⟨rfl, rfl, by simp [PyData.depth]⟩
theorem Fl.up {k l : Nat} {d : MP.D} (h : Fl k d) (hl : k ≤ l) : Fl l d := ⟨h.n, h.c, Nat.le_trans h.d hl⟩
theorem Fls.nil {k : Nat} : Fls k [] := ⟨rfl, rfl, by simp [PyData.depthAll]⟩
theorem Fls.cons {k : Nat} {d : MP.D} {ds : List MP.D} (h : Fl k d) (q : Fls k ds) : Fls k (d :: ds) := ⟨by simp [noBs, h.n, q.n], by simp [PyData.canLayAll0, h.c, q.c], by
  have := h.d
  have := q.d
  simp only [PyData.depthAll]
  omega⟩
theorem Fls.map {α : Type} {k : Nat} {f : α → MP.D} : ∀ {l : List α}, (∀ a ∈ l, Fl k (f a)) → Fls k (l.map f)
  | [], _ => .nil
  | a :: l, h => .cons (h a List.mem_cons_self) (Fls.map fun b hb => h b (List.mem_cons_of_mem _ hb))
theorem Fls.app {k : Nat} : ∀ {l m : List MP.D}, Fls k l → Fls k m → Fls k (l ++ m)
  | [], _, _, q => q
  | a :: l, m, h, q => by
    have h1 := h.n
    have h2 := h.c
    have h3 := h.d
    simp only [noBs, Bool.and_eq_true] at h1
    simp only [PyData.canLayAll0, Bool.and_eq_true] at h2
    simp only [PyData.depthAll] at h3
    exact .cons ⟨h1.1, h2.1, by omega⟩ (Fls.app ⟨h1.2, h2.2, by omega⟩ q)
theorem Fl.tup {k : Nat} {ds : List MP.D} (h : Fls k ds) : Fl (k + 1) (.tuple ds) := ⟨h.n, h.c, by
  have := h.d
  simp only [PyData.depth]
  omega⟩
theorem Fl.lst {k : Nat} {ds : List MP.D} (h : Fls k ds) : Fl (k + 1) (.list ds) := ⟨h.n, h.c, by
  have := h.d
  simp only [PyData.depth]
  omega⟩
theorem Fl.shp {k : Nat} {d : MP.D} (h : Fl k d) (hk : k ≤ 64) : shp d = true := by
  show (d.canLay0 && decide (d.depth ≤ 64)) = true
  rw [h.c, decide_eq_true (Nat.le_trans h.d hk)]
  rfl
theorem Fl.eq {k l : Nat} {x y : MP.D} {p : Prop} [Decidable p] (hx : Fl k x) (hy : Fl l y) (hk : k ≤ 64) (hl : l ≤ 64) (h : x = y ↔ p) : cmpD .eq x y = some (decide p) := by
  rw [cmp_eq (hx.shp hk) (hy.shp hl), eqv_dec hx.n hy.n h]
theorem Fl.ne {k l : Nat} {x y : MP.D} {p : Prop} [Decidable p] (hx : Fl k x) (hy : Fl l y) (hk : k ≤ 64) (hl : l ≤ 64) (h : x = y ↔ p) : cmpD .ne x y = some (!decide p) := by
  rw [cmp_ne (hx.shp hk) (hy.shp hl), eqv_dec hx.n hy.n h]
mutual
theorem eqv_refl : ∀ d : MP.D, d.canLay0 = true → PyData.eqv d d = true
  | .none, _ => by simp [PyData.eqv]
  | .bool _, _ => by simp [PyData.eqv]
  | .int _, _ => by simp [PyData.eqv]
  | .str _, _ => by simp [PyData.eqv]
  | .list xs, h => by
    simp only [PyData.canLay0] at h
    simpa [PyData.eqv] using eqvs_refl xs h
  | .tuple xs, h => by
    simp only [PyData.canLay0] at h
    simpa [PyData.eqv] using eqvs_refl xs h
  | .dict _, h => by simp [PyData.canLay0] at h
theorem eqvs_refl : ∀ d : List MP.D, PyData.canLayAll0 d = true → PyData.eqvAll d d = true
  | [], _ => by simp [PyData.eqvAll]
  | x :: xs, h => by
    simp only [PyData.canLayAll0, Bool.and_eq_true] at h
    simp [PyData.eqvAll, eqv_refl x h.1, eqvs_refl xs h.2]
end
theorem eq_self {x : MP.D} (h : shp x = true) : cmpD .eq x x = some true := by
  have c : x.canLay0 = true := (Bool.and_eq_true_iff.mp (show (x.canLay0 && decide (x.depth ≤ 64)) = true from h)).1
  rw [cmp_eq h h, eqv_refl x c]
theorem ne_self {x : MP.D} (h : shp x = true) : cmpD .ne x x = some false := by
  have c : x.canLay0 = true := (Bool.and_eq_true_iff.mp (show (x.canLay0 && decide (x.depth ≤ 64)) = true from h)).1
  rw [cmp_ne h h, eqv_refl x c]
  rfl
theorem law_of_wp {f : Fn} {vs : List Val} {st : Store} (h : Wp (f vs st) fun x _ => x.v = .dat (.bool true)) : ∃ fr st', f vs st = .ok ⟨fr, .dat (.bool true)⟩ st' := by
  obtain ⟨⟨fr, v⟩, st', e, q⟩ := h.ex
  have q : v = .dat (.bool true) := q
  subst q
  exact ⟨fr, st', e⟩
end MK
namespace MK
open PySem MP
section
/-! Whole numbers of a law: sizes, powers, the greatest common divisor, fractions. -/
/-! ### sizes -/
def Bd (k : Nat) (i : Int) : Prop := i.natAbs < 2 ^ k
theorem Bd.up {k l : Nat} {i : Int} (h : Bd k i) (hl : k ≤ l) : Bd l i := Nat.lt_of_lt_of_le h (Nat.pow_le_pow_right (by decide) hl)
theorem Bd.neg {k : Nat} {i : Int} (h : Bd k i) : Bd k (-i) := by
  unfold Bd
  rw [Int.natAbs_neg]
  exact h
theorem Bd.mul {k l : Nat} {i j : Int} (hi : Bd k i) (hj : Bd l j) : Bd (k + l) (i * j) := by
  unfold Bd at *
  rw [Int.natAbs_mul, Nat.pow_add]
  exact Nat.mul_lt_mul'' hi hj
theorem Bd.add {k l : Nat} {i j : Int} (hi : Bd k i) (hj : Bd l j) : Bd (max k l + 1) (i + j) := by
  have h1 : i.natAbs < 2 ^ max k l := hi.up (Nat.le_max_left _ _)
  have h2 : j.natAbs < 2 ^ max k l := hj.up (Nat.le_max_right _ _)
  unfold Bd
  rw [Nat.pow_succ]
  omega
theorem Bd.log {k : Nat} {i : Int} (h : Bd k i) (hk : 0 < k) : i.natAbs.log2 < k := by
  by_cases h0 : i.natAbs = 0
  · rw [h0]
    exact hk
  · exact (Nat.log2_lt h0).mpr h
/-! ### the greatest common divisor -/
/-! ### powers -/
theorem Bd.pow {k : Nat} {p : Int} (h : Bd k p) : ∀ n : Nat, Bd (k * n + 1) (p ^ n)
  | 0 => by
    unfold Bd
    simp
  | n + 1 => by
    have q := (Bd.pow h n).mul h
    rw [Int.pow_succ]
    exact q.up (by rw [Nat.mul_succ]; omega)
/-! ### fractions -/
def sgn1 (d : Int) : Int := if 0 < d then 1 else -1
def frac (n d : Int) : Int × Int := (n.fdiv ((Int.gcd n d : Nat) * sgn1 d), d.fdiv ((Int.gcd n d : Nat) * sgn1 d))
def eP (q : Int × Int) : MP.D := .tuple [.int q.1, .int q.2]
theorem sgn1_cases (d : Int) : sgn1 d = 1 ∨ sgn1 d = -1 := by
  unfold sgn1
  split
  · exact .inl rfl
  · exact .inr rfl
theorem gcd_pos {n d : Int} (hd : d ≠ 0) : 0 < Int.gcd n d := Int.gcd_pos_of_ne_zero_right n hd
theorem frac_mul {n d : Int} (hd : d ≠ 0) : (Int.gcd n d : Int) * sgn1 d * (frac n d).1 = n ∧ (Int.gcd n d : Int) * sgn1 d * (frac n d).2 = d := by
  have hg := gcd_pos (n := n) hd
  have h0 : (Int.gcd n d : Int) * sgn1 d ≠ 0 := by
    rcases sgn1_cases d with e | e <;> rw [e] <;> omega
  have hn : (Int.gcd n d : Int) * sgn1 d ∣ n := by
    rcases sgn1_cases d with e | e <;> rw [e]
    · rw [Int.mul_one]
      exact Int.gcd_dvd_left ..
    · rw [Int.mul_neg, Int.mul_one, Int.neg_dvd]
      exact Int.gcd_dvd_left ..
  have hd' : (Int.gcd n d : Int) * sgn1 d ∣ d := by
    rcases sgn1_cases d with e | e <;> rw [e]
    · rw [Int.mul_one]
      exact Int.gcd_dvd_right ..
    · rw [Int.mul_neg, Int.mul_one, Int.neg_dvd]
      exact Int.gcd_dvd_right ..
  unfold frac
  refine ⟨?_, ?_⟩
  · obtain ⟨x, hx⟩ := hn
    have e : n.fdiv ((Int.gcd n d : Int) * sgn1 d) = x := by
      conv => lhs; arg 1; rw [hx]
      exact Int.mul_fdiv_cancel_left _ h0
    show (Int.gcd n d : Int) * sgn1 d * n.fdiv ((Int.gcd n d : Int) * sgn1 d) = n
    rw [e]
    exact hx.symm
  · obtain ⟨x, hx⟩ := hd'
    have e : d.fdiv ((Int.gcd n d : Int) * sgn1 d) = x := by
      conv => lhs; arg 1; rw [hx]
      exact Int.mul_fdiv_cancel_left _ h0
    show (Int.gcd n d : Int) * sgn1 d * d.fdiv ((Int.gcd n d : Int) * sgn1 d) = d
    rw [e]
    exact hx.symm
def NF (q : Int × Int) : Prop := 0 < q.2 ∧ Int.gcd q.1 q.2 = 1
theorem pos_of_mul {a b : Int} (ha : 0 < a) (h : 0 < a * b) : 0 < b := by
  rcases Int.lt_trichotomy b 0 with q | q | q
  · have := Int.mul_neg_of_pos_of_neg ha q
    omega
  · subst q
    simp at h
  · exact q
theorem frac_nf {n d : Int} (hd : d ≠ 0) : NF (frac n d) := by
  obtain ⟨h1, h2⟩ := frac_mul (n := n) hd
  have hg := gcd_pos (n := n) hd
  obtain ⟨x, hx⟩ : ∃ x, (frac n d).1 = x := ⟨_, rfl⟩
  obtain ⟨y, hy⟩ : ∃ y, (frac n d).2 = y := ⟨_, rfl⟩
  rw [hx] at h1
  rw [hy] at h2
  have key : Int.gcd x y = 1 := by
    have e : Int.gcd n d = Int.gcd n d * Int.gcd x y := by
      have : Int.gcd ((Int.gcd n d : Int) * sgn1 d * x) ((Int.gcd n d : Int) * sgn1 d * y) = ((Int.gcd n d : Int) * sgn1 d).natAbs * Int.gcd x y := Int.gcd_mul_left ..
      rw [h1, h2] at this
      have e2 : ((Int.gcd n d : Int) * sgn1 d).natAbs = Int.gcd n d := by
        rcases sgn1_cases d with e | e <;> rw [e] <;> simp
      rw [e2] at this
      exact this
    have : Int.gcd n d * Int.gcd x y = Int.gcd n d * 1 := by omega
    exact Nat.eq_of_mul_eq_mul_left hg this
  refine ⟨?_, by rw [hx, hy]; exact key⟩
  rw [hy]
  by_cases hp : 0 < d
  · have e : sgn1 d = 1 := if_pos hp
    rw [e, Int.mul_one] at h2
    exact pos_of_mul (a := (Int.gcd n d : Int)) (by omega) (by omega)
  · have e : sgn1 d = -1 := if_neg hp
    rw [e, Int.mul_neg, Int.mul_one, Int.neg_mul] at h2
    exact pos_of_mul (a := (Int.gcd n d : Int)) (by omega) (by omega)
theorem frac_cross {n d : Int} (hd : d ≠ 0) : (frac n d).1 * d = n * (frac n d).2 := by
  obtain ⟨h1, h2⟩ := frac_mul (n := n) hd
  conv => lhs; arg 2; rw [← h2]
  conv => rhs; arg 1; rw [← h1]
  rw [Int.mul_comm (frac n d).1, Int.mul_assoc, Int.mul_assoc, Int.mul_assoc, Int.mul_assoc, Int.mul_comm (frac n d).2 (frac n d).1]
theorem cop_dvd {a b c : Int} (h : Int.gcd a b = 1) (hd : b ∣ a * c) : b ∣ c := by
  rw [← Int.natAbs_dvd_natAbs] at *
  rw [Int.natAbs_mul] at hd
  exact Nat.Coprime.dvd_of_dvd_mul_left (show Nat.gcd b.natAbs a.natAbs = 1 by rw [Nat.gcd_comm]; exact h) hd
theorem NF_eq {a b : Int × Int} (ha : NF a) (hb : NF b) : a = b ↔ a.1 * b.2 = b.1 * a.2 := by
  constructor
  · rintro rfl
    rfl
  · intro h
    have d1 : a.2 ∣ b.2 := cop_dvd ha.2 ⟨b.1, by rw [h, Int.mul_comm]⟩
    have d2 : b.2 ∣ a.2 := cop_dvd hb.2 ⟨a.1, by rw [← h, Int.mul_comm]⟩
    have e : a.2 = b.2 := Int.dvd_antisymm (Int.le_of_lt ha.1) (Int.le_of_lt hb.1) d1 d2
    have e1 : a.1 = b.1 := by
      rw [e] at h
      exact Int.eq_of_mul_eq_mul_right (Int.ne_of_gt hb.1) h
    exact Prod.ext e1 e
theorem fdiv_bd {k : Nat} {a b : Int} (h : Bd k a) : Bd k (a.fdiv b) := by
  unfold Bd at *
  have q : (a.fdiv b).natAbs ≤ a.natAbs := Int.natAbs_fdiv_le_natAbs a b
  omega
/-! ### data of bounded size -/
structure Sz (k w : Nat) (d : MP.D) : Prop where
  o : okD d = true
  z : d.depth ≤ k
  w : wtD d ≤ w
structure Szs (k w : Nat) (d : List MP.D) : Prop where
  o : okDs d = true
  z : PyData.depthAll d ≤ k
  w : wtDs d ≤ w
theorem Sz.int {b : Nat} {i : Int} (h : Bd b i) (hb : b ≤ 1900) : Sz 0 (b + 2) (.int i) := by
  have h1 : i.natAbs.log2 < 1900 ∧ i.natAbs.log2 ≤ b := by
    by_cases h0 : b = 0
    · subst h0
      have e : i.natAbs = 0 := by
        unfold Bd at h
        omega
      rw [e]
      decide
    · have := h.log (by omega)
      omega
  exact ⟨decide_eq_true h1.1, by simp [PyData.depth], by
    show i.natAbs.log2 + 2 ≤ _
    omega⟩
theorem Sz.bool (b : Bool) : Sz 0 5 (.bool b) := ⟨rfl, by simp [PyData.depth], Nat.le_refl 5⟩
theorem Sz.none : Sz 0 4 .none := ⟨rfl, by simp [PyData.depth], Nat.le_refl 4⟩
theorem Sz.up {k l w u : Nat} {d : MP.D} (h : Sz k w d) (hk : k ≤ l) (hw : w ≤ u) : Sz l u d := ⟨h.o, Nat.le_trans h.z hk, Nat.le_trans h.w hw⟩
theorem Szs.nil {k w : Nat} : Szs k w [] := ⟨rfl, by simp [PyData.depthAll], Nat.zero_le _⟩
theorem Szs.cons {k l w u : Nat} {d : MP.D} {ds : List MP.D} (h : Sz k w d) (q : Szs l u ds) : Szs (max k l) (w + 2 + u) (d :: ds) := ⟨by simp [okDs, h.o, q.o], by
  have := h.z
  have := q.z
  simp only [PyData.depthAll]
  omega, by
  have := h.w
  have := q.w
  show wtD d + 2 + wtDs ds ≤ _
  omega⟩
theorem Szs.map {α : Type} {k w : Nat} {f : α → MP.D} {l : List α} (h : ∀ a ∈ l, Sz k w (f a)) : Szs k ((w + 2) * l.length) (l.map f) := ⟨okDs_map fun a ha => (h a ha).o, depths_map fun a ha => (h a ha).z, wts_map fun a ha => (h a ha).w⟩
theorem Sz.tup {k w : Nat} {ds : List MP.D} (h : Szs k w ds) : Sz (k + 1) (w + 3) (.tuple ds) := ⟨h.o, by
  have := h.z
  simp only [PyData.depth]
  omega, by
  have := h.w
  show wtDs ds + 3 ≤ _
  omega⟩
theorem Sz.lst {k w : Nat} {ds : List MP.D} (h : Szs k w ds) : Sz (k + 1) (w + 3) (.list ds) := ⟨h.o, by
  have := h.z
  simp only [PyData.depth]
  omega, by
  have := h.w
  show wtDs ds + 3 ≤ _
  omega⟩
theorem Sz.repr {k w : Nat} {d : MP.D} (h : Sz k w d) (hk : k ≤ 100) (hw : w ≤ 2 ^ 24) : bltF .repr [d] = some (false, .str d.shown) := blt_repr (showOk_of h.o (Nat.le_trans h.z hk) (Nat.le_trans h.w hw))
theorem Sz.shp {k w : Nat} {d : MP.D} (h : Sz k w d) (hk : k ≤ 64) : MP.shp d = true := shp_of h.o (Nat.le_trans h.z hk)
theorem eP_fl (q : Int × Int) : Fl 1 (eP q) := .tup (.cons (.int _) (.cons (.int _) .nil))
theorem eP_inj {a b : Int × Int} : eP a = eP b ↔ a = b := by
  obtain ⟨a1, a2⟩ := a
  obtain ⟨b1, b2⟩ := b
  simp [eP]
theorem map_inj {α : Type} {f : α → MP.D} (h : ∀ a b, f a = f b ↔ a = b) (x y : List α) : x.map f = y.map f ↔ x = y := ⟨fun q => (List.map_inj_right fun a b e => (h a b).mp e).mp q, fun q => by rw [q]⟩
@[simp] theorem eq_eP (a b : Int × Int) : cmpD .eq (eP a) (eP b) = some (decide (a = b)) := (eP_fl a).eq (eP_fl b) (by decide) (by decide) eP_inj
@[simp] theorem ne_eP (a b : Int × Int) : cmpD .ne (eP a) (eP b) = some (!decide (a = b)) := (eP_fl a).ne (eP_fl b) (by decide) (by decide) eP_inj
theorem lP_fl (q : List (Int × Int)) : Fl 2 (.list (q.map eP)) := .lst (.map fun a _ => eP_fl a)
theorem lP_inj {a b : List (Int × Int)} : PyData.list (a.map eP) = .list (b.map eP) ↔ a = b := by
  rw [PyData.list.injEq]
  exact map_inj (fun _ _ => eP_inj) a b
@[simp] theorem eq_lP (a b : List (Int × Int)) : cmpD .eq (.list (a.map eP)) (.list (b.map eP)) = some (decide (a = b)) := (lP_fl a).eq (lP_fl b) (by decide) (by decide) lP_inj
@[simp] theorem ne_lP (a b : List (Int × Int)) : cmpD .ne (.list (a.map eP)) (.list (b.map eP)) = some (!decide (a = b)) := (lP_fl a).ne (lP_fl b) (by decide) (by decide) lP_inj
theorem cmp_strE {x y : Str} : cmpD .eq (.str x) (.str y) = some (decide (x = y)) := Eq.trans rfl rfl
theorem cmp_strN {x y : Str} : cmpD .ne (.str x) (.str y) = some (!decide (x = y)) := Eq.trans rfl rfl
theorem eP_i0 {f g : Bool} {q : Int × Int} {st : Store} : ixV ⟨f, .dat (eP q)⟩ ⟨g, .dat (.int 0)⟩ st = .ok ⟨false, .dat (.int q.1)⟩ st := Eq.trans rfl rfl
theorem eP_i1 {f g : Bool} {q : Int × Int} {st : Store} : ixV ⟨f, .dat (eP q)⟩ ⟨g, .dat (.int 1)⟩ st = .ok ⟨false, .dat (.int q.2)⟩ st := Eq.trans rfl rfl
theorem eP_bt {ts : Tgs} {q : Int × Int} {env : MP.Env} : bindTg (.tup ts) (eP q) env = bindTgs ts [.int q.1, .int q.2] env := Eq.trans rfl rfl
end
local macro_rules | `(tactic| simp?! [$ls,*]) => `(tactic| simp only [$ls,*, ev_var, ev_cst, ev_glob, ev_neg, ev_not, ev_bin, ev_cmp, ev_chain, ev_and, ev_or, ev_ite, ev_tup, ev_lst, ev_ix, ev_slice, ev_rev, ev_call, ev_blt, ev_isi, ev_dicn, ev_dhasT, ev_dhasF, ev_dget, ev_dsort, ev_dixl, ev_revc, ev_cntL, ev_lrng1, ev_lrng2, blt_intB, es_dput, dgT_o, dpT_o, dgR_s, dxR_s, er_dhas, er_dget, er_dsort, er_dixl, ev_comp, ev_compF, ev_comp2, ev_comp2F, evA_n, evA_c, evA_s, evV_n, evV_c, evP_n, evP_c, evO_n, evO_s, evC_n, evC_s, evI_s, evI_1, evI_2, evI_3, evI_e, evI_z, listOf_l, zipD_l, zipD_t, es_pass, es_exp, es_set, es_setO, es_setT, es_par, es_parO, ownOf_t, evR_n, evR_f, evR_t, pS_n, pS_c, es_ite, es_whil, es_for, es_brk, es_cnt, es_frz, ess_n, ess_c, er_var, er_cst, er_glob, er_neg, er_not, er_bin, er_cmp, er_chain, er_and, er_or, er_ite, er_tup, er_lst, er_ix, er_slice, er_rev, er_call, er_blt, er_isi, er_comp, appR_o, augR_a, augR_s, frzR_o, varR_v, varR_o, retR_o, retR_v, ixR_s, ix_l, ix_t, bT_ok, sT_ok, qT_nx, qT_rt, qT_br, qT_ct, qT_ex, bT_exc, sT_exc, tT_ex, es_rais, es_try, es_tryY, optS_s, zT_nx, zT_rt, zT_ex, yT_nx, yT_rt, yT_br, yT_ct, yT_ex, es_clr, clrR_o, Cb_t, Cb_f, oT_s, tT_nx, tT_ct, tT_br, tT_rt, turn_nx, turn_ct, turn_br, turn_rt, datOf_dat, intOf_int, boolOf_bool, plain_eq, fresh_eq, ofBD_some, ofB_some, rOpt_some, seqOf_l, seqOf_t, lit_int, lit_str, lit_bool, lit_none, wp_ok, wp_bind, wps_sr, wps_seq, wps_tT, wps_nx, wps_rt, wps_br, wps_ct, List.getElem?_cons_zero, List.getElem?_cons_succ, List.set_cons_zero, List.set_cons_succ, List.map_cons, List.map_nil, Nat.reduceSub, List.replicate_succ, List.replicate_zero, List.cons_append, List.nil_append, List.append_nil, putVals, bt_nm, bt_t, bt_l, btT_s, bts_n, bts_c, wipeE, bin_int_add, bin_int_sub, cmp_int_eq, cmp_int_ne, cmp_int_lt, cmp_int_le, cmp_int_gt, cmp_int_ge, ix_0, ix_1, ix_2, ix_3, ix_4, ix_5, ix_6, ix_7, ix_m1, blt_absI, blt_intI, blt_tupL, blt_tupT, blt_lstL, blt_lstT, blt_lenL, blt_lenT, blt_lenLm, blt_lenTm, blt_min2, blt_max2, blt_min3, blt_max3, isi_n, isi_b, isi_i, isi_s, isi_l, isi_t, fits_0, fits_1, fits_2, fits_3, fits_4, fits_5, fits_6, fits_7, fits_8, fits_9, fits_10, fits_11, fits_12, fits_13, fits_14, fits_15, fits_16, fitsS_0, fitsS_1, fitsS_2, fitsS_3, fitsS_4, List.length_cons, List.length_nil, Nat.zero_add, Nat.reduceAdd, Bool.not_true, Bool.not_false, decide_true, decide_false, Int.reduceNeg, Int.reduceSub, Int.reduceAdd, Int.reduceLT, Int.reduceLE, Int.reduceEq, Int.reduceMul, er_lamc, ev_lamc, lamR_T, lamR_L, lamR_N, lamR_xC, lamR_xL, lamR_xT, es_raisD, xT_nx, xT_rt, xT_exL, xT_exT, es_tryX])
local macro_rules | `(tactic| simp! [$ls,*]) => `(tactic| simp?! [$ls,*])
local macro_rules | `(tactic| simp!) => `(tactic| simp?! [ev_var])
section
/-! Moves of a law: tables of four numbers in one form. -/
@[ext] structure M4 where
  a : Int
  b : Int
  c : Int
  d : Int
  deriving DecidableEq
def eM (m : M4) : MP.D := .tuple [.int m.a, .int m.b, .int m.c, .int m.d]
def det4 (m : M4) : Int := m.a * m.d - m.b * m.c
def gcd4 (m : M4) : Nat := Nat.gcd (Int.gcd m.a m.b) (Int.gcd m.c m.d)
def fst4 (m : M4) : Int := if m.a ≠ 0 then m.a else if m.b ≠ 0 then m.b else if m.c ≠ 0 then m.c else m.d
def scl (t : Int) (m : M4) : M4 := ⟨t * m.a, t * m.b, t * m.c, t * m.d⟩
def sc4 (m : M4) : Int := (gcd4 m : Nat) * sgn1 (fst4 m)
def nm (m : M4) : M4 := ⟨m.a.fdiv (sc4 m), m.b.fdiv (sc4 m), m.c.fdiv (sc4 m), m.d.fdiv (sc4 m)⟩
def Non0 (m : M4) : Prop := m.a ≠ 0 ∨ m.b ≠ 0 ∨ m.c ≠ 0 ∨ m.d ≠ 0
def BdM (k : Nat) (m : M4) : Prop := Bd k m.a ∧ Bd k m.b ∧ Bd k m.c ∧ Bd k m.d
def NFM (m : M4) : Prop := gcd4 m = 1 ∧ 0 < fst4 m
theorem det_non0 {m : M4} (h : det4 m ≠ 0) : Non0 m := by
  by_cases ha : m.a = 0
  · by_cases hb : m.b = 0
    · exfalso
      apply h
      unfold det4
      rw [ha, hb]
      omega
    · exact .inr (.inl hb)
  · exact .inl ha
theorem gcd4_pos {m : M4} (h : Non0 m) : 0 < gcd4 m := by
  unfold gcd4
  rcases h with h | h | h | h
  · exact Nat.gcd_pos_of_pos_left _ (Int.gcd_pos_of_ne_zero_left _ h)
  · exact Nat.gcd_pos_of_pos_left _ (Int.gcd_pos_of_ne_zero_right _ h)
  · exact Nat.gcd_pos_of_pos_right _ (Int.gcd_pos_of_ne_zero_left _ h)
  · exact Nat.gcd_pos_of_pos_right _ (Int.gcd_pos_of_ne_zero_right _ h)
theorem fst4_ne {m : M4} (h : Non0 m) : fst4 m ≠ 0 := by
  unfold fst4
  by_cases ha : m.a = 0
  · by_cases hb : m.b = 0
    · by_cases hc : m.c = 0
      · have hd : m.d ≠ 0 := by rcases h with h | h | h | h <;> first | exact absurd ‹_› h | exact h
        simp [ha, hb, hc, hd]
      · simp [ha, hb, hc]
    · simp [ha, hb]
  · simp [ha]
theorem sc4_ne {m : M4} (h : Non0 m) : sc4 m ≠ 0 := by
  have := gcd4_pos h
  unfold sc4
  rcases sgn1_cases (fst4 m) with e | e <;> rw [e] <;> omega
theorem gcd4_dvd (m : M4) : (gcd4 m : Int) ∣ m.a ∧ (gcd4 m : Int) ∣ m.b ∧ (gcd4 m : Int) ∣ m.c ∧ (gcd4 m : Int) ∣ m.d := by
  have l : (gcd4 m : Int) ∣ (Int.gcd m.a m.b : Nat) := Int.natCast_dvd_natCast.mpr (Nat.gcd_dvd_left ..)
  have r : (gcd4 m : Int) ∣ (Int.gcd m.c m.d : Nat) := Int.natCast_dvd_natCast.mpr (Nat.gcd_dvd_right ..)
  exact ⟨Int.dvd_trans l (Int.gcd_dvd_left ..), Int.dvd_trans l (Int.gcd_dvd_right ..), Int.dvd_trans r (Int.gcd_dvd_left ..), Int.dvd_trans r (Int.gcd_dvd_right ..)⟩
theorem nm_mul {m : M4} (h : Non0 m) : scl (sc4 m) (nm m) = m := by
  obtain ⟨h1, h2, h3, h4⟩ := gcd4_dvd m
  have h0 := sc4_ne h
  have one : ∀ x : Int, (gcd4 m : Int) ∣ x → sc4 m * x.fdiv (sc4 m) = x := by
    intro x hx
    have hs : sc4 m ∣ x := by
      unfold sc4
      rcases sgn1_cases (fst4 m) with e | e <;> rw [e]
      · rw [Int.mul_one]
        exact hx
      · rw [Int.mul_neg, Int.mul_one, Int.neg_dvd]
        exact hx
    obtain ⟨y, rfl⟩ := hs
    rw [Int.mul_fdiv_cancel_left _ h0]
  exact M4.ext (one _ h1) (one _ h2) (one _ h3) (one _ h4)
theorem det_scl (t : Int) (m : M4) : det4 (scl t m) = t * t * det4 m := by
  simp only [det4, scl, Int.mul_sub]
  congr 1 <;> ac_rfl
theorem det_nm {m : M4} (h : det4 m ≠ 0) : det4 (nm m) ≠ 0 := by
  intro z
  apply h
  have e := det_scl (sc4 m) (nm m)
  rw [nm_mul (det_non0 h), z, Int.mul_zero] at e
  exact e
theorem gcd4_scl (t : Int) (m : M4) : gcd4 (scl t m) = t.natAbs * gcd4 m := by
  unfold gcd4 scl
  rw [Int.gcd_mul_left, Int.gcd_mul_left, Nat.gcd_mul_left]
theorem fst4_scl {t : Int} (ht : t ≠ 0) (m : M4) : fst4 (scl t m) = t * fst4 m := by
  unfold fst4 scl
  by_cases ha : m.a = 0
  · by_cases hb : m.b = 0
    · by_cases hc : m.c = 0
      · simp [ha, hb, hc]
      · simp [ha, hb, hc, ht]
    · simp [ha, hb, ht]
  · simp [ha, ht]
theorem nm_nf {m : M4} (h : Non0 m) : NFM (nm m) := by
  have h0 := sc4_ne h
  have hg := gcd4_pos h
  have e1 := gcd4_scl (sc4 m) (nm m)
  have e2 := fst4_scl h0 (nm m)
  rw [nm_mul h] at e1 e2
  have ea : (sc4 m).natAbs = gcd4 m := by
    unfold sc4
    rcases sgn1_cases (fst4 m) with e | e <;> rw [e] <;> simp
  rw [ea] at e1
  refine ⟨Nat.eq_of_mul_eq_mul_left hg (by omega), ?_⟩
  have hf := fst4_ne h
  by_cases hp : 0 < fst4 m
  · have e : sc4 m = gcd4 m := by
      unfold sc4
      rw [show sgn1 (fst4 m) = 1 from if_pos hp, Int.mul_one]
    rw [e] at e2
    exact pos_of_mul (a := (gcd4 m : Int)) (by omega) (by omega)
  · have e : sc4 m = -(gcd4 m : Int) := by
      unfold sc4
      rw [show sgn1 (fst4 m) = -1 from if_neg hp, Int.mul_neg, Int.mul_one]
    rw [e, Int.neg_mul] at e2
    exact pos_of_mul (a := (gcd4 m : Int)) (by omega) (by omega)
theorem nm_bd {k : Nat} {m : M4} (h : BdM k m) : BdM k (nm m) := ⟨fdiv_bd h.1, fdiv_bd h.2.1, fdiv_bd h.2.2.1, fdiv_bd h.2.2.2⟩
def adj (m : M4) : M4 := ⟨m.d, -m.b, -m.c, m.a⟩
def bk (m : M4) : M4 := nm (adj m)
theorem det_adj (m : M4) : det4 (adj m) = det4 m := by
  simp only [det4, adj]
  grind
theorem adj_bd {k : Nat} {m : M4} (h : BdM k m) : BdM k (adj m) := ⟨h.2.2.2, h.2.1.neg, h.2.2.1.neg, h.1⟩
theorem BdM.up {k l : Nat} {m : M4} (h : BdM k m) (hl : k ≤ l) : BdM l m := ⟨h.1.up hl, h.2.1.up hl, h.2.2.1.up hl, h.2.2.2.up hl⟩
def P4 (p : Int) : Prop := p = 2 ∨ p = 3 ∨ p = 5 ∨ p = 7
theorem P4.bd {p : Int} (h : P4 p) : Bd 3 p := by
  rcases h with rfl | rfl | rfl | rfl <;> (unfold Bd; decide)
/-- a move in its form, of numbers below 2 ^ k -/
structure GM (k : Nat) (m : M4) : Prop where
  b : BdM k m
  d : det4 m ≠ 0
  f : NFM m
theorem GM.up {k l : Nat} {m : M4} (h : GM k m) (hl : k ≤ l) : GM l m := ⟨h.b.up hl, h.d, h.f⟩
theorem nm_gm {k : Nat} {m : M4} (hb : BdM k m) (h : det4 m ≠ 0) : GM k (nm m) := ⟨nm_bd hb, det_nm h, nm_nf (det_non0 h)⟩
theorem GM.bk {k : Nat} {m : M4} (h : GM k m) : GM k (bk m) := nm_gm (adj_bd h.b) (by rw [det_adj]; exact h.d)
theorem bm_s {i j : Int} (h : i.natAbs < 2 ^ 64) : bin .mul (.int i) (.int j) = some (false, .int (i * j)) := by
  show (bif mulOk i j then some (false, PyData.int (i * j)) else none) = _
  have e : mulOk i j = true := by
    unfold mulOk
    rw [decide_eq_true h]
    rfl
  rw [e]
  rfl
theorem eM_i0 {f g : Bool} {m : M4} {st : Store} : ixV ⟨f, .dat (eM m)⟩ ⟨g, .dat (.int 0)⟩ st = .ok ⟨false, .dat (.int m.a)⟩ st := Eq.trans rfl rfl
theorem eM_i1 {f g : Bool} {m : M4} {st : Store} : ixV ⟨f, .dat (eM m)⟩ ⟨g, .dat (.int 1)⟩ st = .ok ⟨false, .dat (.int m.b)⟩ st := Eq.trans rfl rfl
theorem eM_i2 {f g : Bool} {m : M4} {st : Store} : ixV ⟨f, .dat (eM m)⟩ ⟨g, .dat (.int 2)⟩ st = .ok ⟨false, .dat (.int m.c)⟩ st := Eq.trans rfl rfl
theorem eM_i3 {f g : Bool} {m : M4} {st : Store} : ixV ⟨f, .dat (eM m)⟩ ⟨g, .dat (.int 3)⟩ st = .ok ⟨false, .dat (.int m.d)⟩ st := Eq.trans rfl rfl
theorem eM_bt {ts : Tgs} {m : M4} {env : MP.Env} : bindTg (.tup ts) (eM m) env = bindTgs ts [.int m.a, .int m.b, .int m.c, .int m.d] env := Eq.trans rfl rfl
theorem eM_inj {m n : M4} : eM m = eM n ↔ m = n := by
  obtain ⟨a, b, c, d⟩ := m
  obtain ⟨e, f, g, h⟩ := n
  simp [eM]
theorem eM_fl (m : M4) : Fl 1 (eM m) := .tup (.cons (.int _) (.cons (.int _) (.cons (.int _) (.cons (.int _) .nil))))
@[simp] theorem eq_eM (a b : M4) : cmpD .eq (eM a) (eM b) = some (decide (a = b)) := (eM_fl a).eq (eM_fl b) (by decide) (by decide) eM_inj
@[simp] theorem ne_eM (a b : M4) : cmpD .ne (eM a) (eM b) = some (!decide (a = b)) := (eM_fl a).ne (eM_fl b) (by decide) (by decide) eM_inj
theorem lM_fl (q : List M4) : Fl 2 (.list (q.map eM)) := .lst (.map fun a _ => eM_fl a)
theorem lM_inj {a b : List M4} : PyData.list (a.map eM) = .list (b.map eM) ↔ a = b := by
  rw [PyData.list.injEq]
  exact map_inj (fun _ _ => eM_inj) a b
@[simp] theorem eq_lM (a b : List M4) : cmpD .eq (.list (a.map eM)) (.list (b.map eM)) = some (decide (a = b)) := (lM_fl a).eq (lM_fl b) (by decide) (by decide) lM_inj
@[simp] theorem ne_lM (a b : List M4) : cmpD .ne (.list (a.map eM)) (.list (b.map eM)) = some (!decide (a = b)) := (lM_fl a).ne (lM_fl b) (by decide) (by decide) lM_inj
end
local macro_rules | `(tactic| simp! [$ls,*]) => `(tactic| simp?! [$ls,*, eP_i0, eP_i1, eP_bt, eM_i0, eM_i1, eM_i2, eM_i3, eM_bt, eq_eP, ne_eP, eq_lP, ne_lP, eq_eM, ne_eM, eq_lM, ne_lM, cmp_strN, cmp_strE])
local macro_rules | `(tactic| simp!) => `(tactic| simp?! [eP_i0, eP_i1, eP_bt, eM_i0, eM_i1, eM_i2, eM_i3, eM_bt, eq_eP, ne_eP, eq_lP, ne_lP, eq_eM, ne_eM, eq_lM, ne_lM, cmp_strN, cmp_strE])
section
/-! points -/
abbrev Pt := Int × Int
def far : Pt := (1, 0)
def pt (x y : Int) : Pt := if y = 0 then far else frac x y
def Nz (q : Pt) : Prop := q.1 ≠ 0 ∨ q.2 ≠ 0
def IsPt (q : Pt) : Prop := q = far ∨ NF q
theorem IsPt.nz {q : Pt} (h : IsPt q) : Nz q := by
  rcases h with rfl | h
  · exact .inl (by decide)
  · exact .inr (by have := h.1; omega)
theorem NF.frac {q : Pt} (h : NF q) : frac q.1 q.2 = q := by
  have h2 : q.2 ≠ 0 := by have := h.1; omega
  exact (NF_eq (frac_nf h2) h).mpr (frac_cross h2)
theorem IsPt.pt {q : Pt} (h : IsPt q) : pt q.1 q.2 = q := by
  rcases h with rfl | h
  · rfl
  · have h2 : q.2 ≠ 0 := by have := h.1; omega
    unfold MK.pt
    rw [if_neg h2]
    exact h.frac
def BdP (k : Nat) (q : Pt) : Prop := Bd k q.1 ∧ Bd k q.2
theorem BdP.up {k l : Nat} {q : Pt} (h : BdP k q) (hl : k ≤ l) : BdP l q := ⟨h.1.up hl, h.2.up hl⟩
theorem P4.pos {p : Int} (h : P4 p) : 2 ≤ p ∧ p ≤ 7 := by
  rcases h with rfl | rfl | rfl | rfl <;> decide
end
section
def b_back_letter : Sms := (.cons (.ret (.tup (.cons (.ix (.var 0) (.cst (.int 0))) (.cons (.neg (.ix (.var 0) (.cst (.int 1)))) .nil)))) .nil)
def f_back_letter : Fn := fnOf 1 1 b_back_letter
def r_back_letter : List Req := []
theorem q_back_letter : rqSs b_back_letter = ([] : List Nat).map fun i => r_back_letter.getD i (.non "") := rfl
def b_shortened_2 : Sms := (.cons (.ret (.blt .tuple (.cons (.var 1) .nil))) .nil)
def b_shortened_1a_0a : Sms := (.cons (.popd 1) .nil)
def b_shortened_1a_0b : Sms := (.cons (.app 1 (.var 2)) .nil)
def b_shortened_1a : Sms := (.cons (.ite (.and (.cmp .ne (.var 1) (.lst .nil)) (.cmp .eq (.ix (.var 1) (.neg (.cst (.int 1)))) (.call "back_letter" f_back_letter (.cons (.var 2) .nil)))) b_shortened_1a_0a b_shortened_1a_0b) .nil)
def b_shortened_1 : Sms := (.cons (.forr (.nm 2) (.seq (.var 0)) b_shortened_1a) b_shortened_2)
def b_shortened : Sms := (.cons (.set 1 true (.lst .nil)) b_shortened_1)
def f_shortened : Fn := fnOf 1 3 b_shortened
def r_shortened : List Req := [.fn "back_letter" f_back_letter, .non "tuple"]
theorem q_shortened : rqSs b_shortened = [0, 1].map fun i => r_shortened.getD i (.non "") := rfl
/-! words: letters (number, 1 or -1) -/
abbrev Wd := List (Int × Int)
abbrev eW (w : Wd) : MP.D := .tuple (w.map eP)
def inv (x : Int × Int) : Int × Int := (x.1, -x.2)
theorem inv_inv (x : Int × Int) : inv (inv x) = x := by unfold inv; simp
/-- the stack, its last letter first -/
def rs (s : Wd) (x : Int × Int) : Wd := match s with
  | [] => [x]
  | y :: t => if y = inv x then t else x :: y :: t
def red (w : Wd) : Wd := (w.foldl rs []).reverse
/-- no letter beside its back -/
def Rd : Wd → Prop
  | x :: y :: t => y ≠ inv x ∧ Rd (y :: t)
  | _ => True
theorem rd_nil : Rd [] := True.intro
theorem Rd.tail {x : Int × Int} {t : Wd} (h : Rd (x :: t)) : Rd t := by
  cases t with
  | nil => exact trivial
  | cons y t => exact h.2
theorem rd_id {w : Wd} : ∀ {s : Wd}, Rd (w.reverse ++ s) → w.foldl rs s = w.reverse ++ s := by
  induction w with
  | nil => intro s _; simp
  | cons x w ih =>
    intro s h
    rw [List.reverse_cons, List.append_assoc] at h
    have h2 : ∀ {u v : Wd}, Rd (u ++ v) → Rd v := by
      intro u
      induction u with
      | nil => exact fun h => h
      | cons a u ih2 => exact fun h => ih2 h.tail
    have hs : Rd (x :: s) := h2 h
    have e : rs s x = x :: s := by
      cases s with
      | nil => rfl
      | cons y t => simp [rs, hs.1]
    have h : Rd (w.reverse ++ (x :: s)) := h
    rw [List.foldl_cons, e, ih h, List.reverse_cons, List.append_assoc]
    rfl
theorem rd_app {u v : Wd} {x : Int × Int} : Rd (u ++ [x]) → Rd (x :: v) → Rd (u ++ x :: v) := by
  induction u with
  | nil => exact fun _ h => h
  | cons a u ih =>
    intro h1 h2
    cases u with
    | nil => exact ⟨h1.1, h2⟩
    | cons b u => exact ⟨h1.1, ih h1.2 h2⟩
theorem rd_rev {w : Wd} (h : Rd w) : Rd w.reverse := by
  induction w with
  | nil => exact trivial
  | cons x w ih =>
    rw [List.reverse_cons]
    cases w with
    | nil => exact trivial
    | cons y t =>
      have i := ih h.2
      rw [List.reverse_cons] at i ⊢
      rw [List.append_assoc]
      refine rd_app i ⟨fun e => h.1 ?_, trivial⟩
      rw [e, inv_inv]
theorem red_id {w : Wd} (h : Rd w) : red w = w := by
  unfold red
  rw [rd_id (by rw [List.append_nil]; exact rd_rev h), List.append_nil, List.reverse_reverse]
/-- letters of so many moves -/
def Lok (n : Int) (x : Int × Int) : Prop := 0 ≤ x.1 ∧ x.1 < n ∧ (x.2 = 1 ∨ x.2 = -1)
def Wok (n : Int) (w : Wd) : Prop := ∀ x ∈ w, Lok n x
theorem Wok.app {n : Int} {v w : Wd} (h : Wok n v) (q : Wok n w) : Wok n (v ++ w) := fun x hx => (List.mem_append.mp hx).elim (h x) (q x)
/-! the program's -/
theorem tW_fl (q : Wd) : Fl 2 (eW q) := .tup (.map fun a _ => eP_fl a)
theorem tW_inj {a b : Wd} : eW a = eW b ↔ a = b := by
  unfold eW
  rw [PyData.tuple.injEq]
  constructor
  · intro h
    have : ∀ {a b : Wd}, a.map eP = b.map eP → a = b := by
      intro a
      induction a with
      | nil =>
        intro b h
        cases b with
        | nil => rfl
        | cons y b => simp at h
      | cons x a ih =>
        intro b h
        cases b with
        | nil => simp at h
        | cons y b =>
          simp only [List.map_cons, List.cons.injEq] at h
          rw [eP_inj.mp h.1, ih h.2]
    exact this h
  · intro h
    rw [h]
theorem eq_eW (a b : Wd) : cmpD .eq (.tuple (a.map eP)) (.tuple (b.map eP)) = some (decide (a = b)) := (tW_fl a).eq (tW_fl b) (by decide) (by decide) tW_inj
theorem ne_eW (a b : Wd) : cmpD .ne (.tuple (a.map eP)) (.tuple (b.map eP)) = some (!decide (a = b)) := (tW_fl a).ne (tW_fl b) (by decide) (by decide) tW_inj
section
variable {st : Store} {n : Int} {x : Int × Int} {v w : Wd}
theorem bl_ok (st : Store) (x : Int × Int) : f_back_letter [.dat (eP x)] st = .ok ⟨false, .dat (eP (inv x))⟩ st := by
  refine fn_eq rfl ?_
  simp! [b_back_letter]
  rfl
theorem es_popd {env : MP.Env} {i : Nat} {l : List MP.D} {a : MP.D} (h : env[i]? = some (.own (.list (l ++ [a])))) : evS (.popd i) env st = .nx (List.set env i (.own (.list l))) st := by
  show (match env[i]? with
    | some (.own (.list xs)) => (match xs.getLast? with
      | some _ => SR.nx (List.set env i (.own (.list xs.dropLast))) st
      | none => .no)
    | _ => .no) = _
  rw [h]
  simp
theorem ne_nil_r (l : Wd) (a : Int × Int) : cmpD .ne (.list (l.map eP ++ [eP a])) (.list []) = some true := by
  have := ne_lP (l ++ [a]) []
  simpa using this
theorem short_ok (st : Store) (w : Wd) (hl : w.length ≤ 1000) : f_shortened [.dat (.tuple (w.map eP))] st = .ok ⟨false, .dat (.tuple ((red w).map eP))⟩ st := by
  refine Wp.is (wp_fn rfl ?_)
  simp! [b_shortened, b_shortened_1]
  refine wps_forT eP (fun r env st' => ∃ (s : Wd) (s2 : Slot), s.length + r.length ≤ 1000 ∧ r.foldl rs s = w.foldl rs [] ∧ st' = st ∧ env = [.val (.dat (.tuple (w.map eP))), .own (.list (s.reverse.map eP)), s2]) ?_ ?_ w _ _ ⟨[], .un, by simpa using hl, rfl, rfl, rfl⟩
  · rintro a r env st' ⟨s, s2, hz, hf, rfl, rfl⟩
    refine ⟨_, rfl, ?_⟩
    simp only [List.length_cons] at hz
    rw [List.foldl_cons] at hf
    cases s with
    | nil =>
      simp! [b_shortened_1a, List.reverse_nil]
      have c : cmpD .ne (.list []) (.list []) = some false := rfl
      simp! [c, b_shortened_1a_0b]
      have ap := fun st => es_app (i := 1) (e := .var 2) (env := [.val (.dat (.tuple (w.map eP))), .own (.list []), .val (.dat (eP a))]) (st := st) ⟨[], rfl⟩
      simp! [ap]
      refine ⟨[a], _, ?_, hf, trivial, rfl⟩
      simp at hz ⊢
      omega
    | cons y t =>
      have e1 : (y :: t).reverse.map eP = t.reverse.map eP ++ [eP y] := by simp
      rw [e1]
      simp! [b_shortened_1a, ne_nil_r, ix_m1, bl_ok]
      by_cases q : y = inv a
      · have pd := fun st => es_popd (i := 1) (st := st) (env := [.val (.dat (.tuple (w.map eP))), .own (.list (t.reverse.map eP ++ [eP y])), .val (.dat (eP a))]) rfl
        simp! [decide_eq_true q, b_shortened_1a_0a, pd]
        have : rs (y :: t) a = t := by simp [rs, q]
        rw [this] at hf
        simp only [List.length_cons] at hz
        exact ⟨t, _, by omega, hf, trivial, rfl⟩
      · have ap := fun st => es_app (i := 1) (e := .var 2) (env := [.val (.dat (.tuple (w.map eP))), .own (.list (t.reverse.map eP ++ [eP y])), .val (.dat (eP a))]) (st := st) ⟨_, rfl⟩
        have fz : fitsS (t.reverse.map eP ++ [eP y]).length = true := fitsS_of (by simp at hz ⊢; omega)
        simp! [decide_eq_false q, b_shortened_1a_0b, ap, fz]
        have : rs (y :: t) a = a :: y :: t := by simp [rs, q]
        rw [this] at hf
        have e2 : (a :: y :: t).reverse.map eP = t.reverse.map eP ++ [eP y] ++ [eP a] := by simp
        refine ⟨a :: y :: t, .val (.dat (eP a)), by simp only [List.length_cons] at hz ⊢; omega, hf, trivial, ?_⟩
        rw [e2]
  · rintro env st' ⟨s, s2, hz, hf, rfl, rfl⟩
    rw [List.foldl_nil] at hf
    simp! [b_shortened_2]
    refine ⟨?_, rfl⟩
    unfold red
    rw [← hf]
theorem bin_add_t {a b : List MP.D} (h : a.length + b.length ≤ 2 ^ 20) : bin .add (.tuple a) (.tuple b) = some (false, .tuple (a ++ b)) := by
  show (bif fits (a.length + b.length) then some (false, PyData.tuple (a ++ b)) else none) = _
  rw [show fits (a.length + b.length) = true from decide_eq_true (Nat.le_trans h (by decide))]
  rfl
/-! what is a letter -/
end
section
variable {st : Store}
theorem okRw {i : Int} (h0 : 0 ≤ i) (h1 : i ≤ 100000) : rngOk i = true := by
  unfold rngOk
  rw [decide_eq_true (by omega), decide_eq_true (by omega)]
  rfl
end
end
section
def hk__law_error : HK := ⟨false, "TooMany", (.cst (.str "TooMany")), (.lit (.str "none"))⟩
def n_words : List Str := ["many", "n", "letters", "found", "last", "length", "k", "s", "word", "letter"]
def b_words_3 : Sms := (.cons (.ret (.var 3)) .nil)
def b_words_2a_2a : Sms := (.cons (.rais "TooMany") .nil)
def b_words_2a_2 : Sms := (.cons (.ite (.cmp .gt (.blt .len (.cons (.var 3) .nil)) (.glob "MOST_WORDS" (.int 2000))) b_words_2a_2a .nil) .nil)
def b_words_2a_1 : Sms := (.cons (.set 3 false (.bin .add (.var 3) (.var 4))) b_words_2a_2)
def b_words_2a : Sms := (.cons (.set 4 false (.comp2 (.tup (.star (.var 8) (.cons (.var 9) .nil))) [("word", 8), ("letter", 9)] (.nm 8) (.seq (.var 4)) .non [("letter", 9)] (.nm 9) (.seq (.var 2)) (.som (.or (.cmp .eq (.var 8) (.tup .nil)) (.cmp .ne (.ix (.var 8) (.neg (.cst (.int 1)))) (.call "back_letter" f_back_letter (.cons (.var 9) .nil))))))) b_words_2a_1)
def b_words_2 : Sms := (.cons (.forr (.nm 5) (.rng1 (.var 1)) b_words_2a) b_words_3)
def b_words_1 : Sms := (.cons (.par [3, 4] (.cons (.lst (.cons (.tup .nil) .nil)) (.cons (.lst (.cons (.tup .nil) .nil)) .nil))) b_words_2)
def b_words : Sms := (.cons (.set 2 false (.comp2 (.tup (.cons (.var 6) (.cons (.var 7) .nil))) [("k", 6), ("s", 7)] (.nm 6) (.rng1 (.var 0)) .non [("s", 7)] (.nm 7) (.seq (.tup (.cons (.cst (.int 1)) (.cons (.neg (.cst (.int 1))) .nil)))) .non)) b_words_1)
def f_words : Fn := fnOf 2 10 b_words
def r_words : List Req := [.non "range", .fn "back_letter" f_back_letter, .non "len", .cst "MOST_WORDS" (.int 2000), .exc "TooMany"]
theorem q_words : rqSs b_words = [0, 0, 1, 2, 3, 4].map fun i => r_words.getD i (.non "") := rfl
def n__law_listed : List Str := ["_law_many", "_law_n", "_law_letters", "_law_found", "_law_last", "_law_k", "_law_lap", "_law_further", "_law_word", "_law_taken", "_law_letter"]
def b__law_listed_3 : Sms := (.cons (.ret (.var 3)) .nil)
def b__law_listed_2a_2 : Sms := (.cons (.par [3, 4] (.cons (.bin .add (.var 3) (.var 7)) (.cons (.var 7) .nil))) .nil)
def b__law_listed_2a_1a_1 : Sms := (.cons (.set 7 false (.bin .add (.var 7) (.comp (.bin .add (.var 8) (.tup (.cons (.var 10) .nil))) [("_law_letter", 10)] (.nm 10) (.seq (.var 2)) (.som (.cmp .ne (.var 10) (.var 9)))))) .nil)
def b__law_listed_2a_1a : Sms := (.cons (.set 9 false (.ite (.cmp .ne (.var 8) (.tup .nil)) (.tup (.cons (.ix (.ix (.var 8) (.neg (.cst (.int 1)))) (.cst (.int 0))) (.cons (.bin .sub (.cst (.int 0)) (.ix (.ix (.var 8) (.neg (.cst (.int 1)))) (.cst (.int 1)))) .nil))) (.cst .none))) b__law_listed_2a_1a_1)
def b__law_listed_2a_1 : Sms := (.cons (.forr (.nm 8) (.seq (.var 4)) b__law_listed_2a_1a) b__law_listed_2a_2)
def b__law_listed_2a : Sms := (.cons (.set 7 false (.lst .nil)) b__law_listed_2a_1)
def b__law_listed_2 : Sms := (.cons (.forr (.nm 6) (.rng1 (.var 1)) b__law_listed_2a) b__law_listed_3)
def b__law_listed_1a : Sms := (.cons (.set 2 false (.bin .add (.var 2) (.lst (.cons (.tup (.cons (.var 5) (.cons (.cst (.int 1)) .nil))) (.cons (.tup (.cons (.var 5) (.cons (.bin .sub (.cst (.int 0)) (.cst (.int 1))) .nil))) .nil))))) .nil)
def b__law_listed_1 : Sms := (.cons (.forr (.nm 5) (.rng1 (.var 0)) b__law_listed_1a) b__law_listed_2)
def b__law_listed : Sms := (.cons (.par [2, 3, 4] (.cons (.lst .nil) (.cons (.lst (.cons (.tup .nil) .nil)) (.cons (.lst (.cons (.tup .nil) .nil)) .nil)))) b__law_listed_1)
def f__law_listed : Fn := fnOf 2 11 b__law_listed
def r__law_listed : List Req := [.non "range"]
theorem q__law_listed : rqSs b__law_listed = [0, 0].map fun i => r__law_listed.getD i (.non "") := rfl
def n_law : List Str := ["_law_script", "_law_source", "_law_many", "_law_most", "_law_n", "_law_told", "_law_total", "_law_last", "_law_lap", "_law_word"]
def b_law_11 : Sms := (.cons (.ret (.cmp .eq (.lamc "_law_error" hk__law_error (.call "words" f_words (.cons (.var 2) (.cons (.bin .add (.var 3) (.cst (.int 1))) .nil)))) (.cst (.str "TooMany")))) .nil)
def b_law_10a : Sms := (.cons (.ret (.and (.cmp .eq (.blt .len (.cons (.call "words" f_words (.cons (.cst (.int 1)) (.cons (.cst (.int 999)) .nil))) .nil)) (.cst (.int 1999))) (.cmp .eq (.lamc "_law_error" hk__law_error (.call "words" f_words (.cons (.cst (.int 1)) (.cons (.cst (.int 1000)) .nil)))) (.cst (.str "TooMany"))))) .nil)
def b_law_10 : Sms := (.cons (.ite (.cmp .eq (.var 2) (.cst (.int 1))) b_law_10a .nil) b_law_11)
def b_law_9a : Sms := (.cons (.ret (.cst (.bool false))) .nil)
def b_law_9 : Sms := (.cons (.ite (.cmp .ne (.lamc "_law_error" hk__law_error (.call "words" f_words (.cons (.var 2) (.cons (.cst (.int 1000)) .nil)))) (.cst (.str "TooMany"))) b_law_9a .nil) b_law_10)
def b_law_8a : Sms := (.cons (.ret (.cst (.bool false))) .nil)
def b_law_8 : Sms := (.cons (.ite (.or (.cmp .ne (.blt .len (.cons (.var 5) .nil)) (.var 6)) (.cmp .ne (.lamc "_law_error" hk__law_error (.call "words" f_words (.cons (.var 2) (.cons (.var 4) .nil)))) (.cst (.str "none")))) b_law_8a .nil) b_law_9)
def b_law_7a : Sms := (.cons (.par [6, 7] (.cons (.bin .add (.var 6) (.var 7)) (.cons (.bin .mul (.var 7) (.bin .sub (.bin .mul (.cst (.int 2)) (.var 2)) (.cst (.int 1)))) .nil))) .nil)
def b_law_7 : Sms := (.cons (.forr (.nm 8) (.rng1 (.var 4)) b_law_7a) b_law_8)
def b_law_6 : Sms := (.cons (.par [6, 7] (.cons (.cst (.int 1)) (.cons (.bin .mul (.cst (.int 2)) (.var 2)) .nil))) b_law_7)
def b_law_5a : Sms := (.cons (.ret (.cst (.bool false))) .nil)
def b_law_5 : Sms := (.cons (.ite (.or (.cmp .ne (.var 5) (.call "_law_listed" f__law_listed (.cons (.var 2) (.cons (.var 4) .nil)))) (.blt .any (.cons (.comp (.cmp .ne (.call "shortened" f_shortened (.cons (.var 9) .nil)) (.var 9)) [("_law_word", 9)] (.nm 9) (.seq (.var 5)) .non) .nil))) b_law_5a .nil) b_law_6)
def b_law_4 : Sms := (.cons (.set 5 false (.call "words" f_words (.cons (.var 2) (.cons (.var 4) .nil)))) b_law_5)
def b_law_3 : Sms := (.cons (.set 4 false (.call "_law_pick" f__law_pick (.cons (.var 1) (.cons (.bin .add (.var 3) (.cst (.int 1))) .nil)))) b_law_4)
def b_law_2 : Sms := (.cons (.set 3 false (.ix (.lst (.cons (.cst (.int 12)) (.cons (.cst (.int 6)) (.cons (.cst (.int 4)) (.cons (.cst (.int 3)) (.cons (.cst (.int 3)) .nil)))))) (.bin .sub (.var 2) (.cst (.int 1))))) b_law_3)
def b_law_1 : Sms := (.cons (.set 2 false (.bin .add (.cst (.int 1)) (.call "_law_pick" f__law_pick (.cons (.var 1) (.cons (.cst (.int 5)) .nil))))) b_law_2)
def b_law : Sms := (.cons (.set 1 false (.call "_law_open_cells" f__law_open_cells (.cons (.var 0) .nil))) b_law_1)
def f_law : Fn := fnOf 1 10 b_law
def r_law : List Req := [.fn "_law_open_cells" f__law_open_cells, .fn "_law_pick" f__law_pick, .fn "words" f_words, .fn "_law_listed" f__law_listed, .non "any", .fn "shortened" f_shortened, .non "range", .non "len", .lam, .hfn "_law_error" hk__law_error, .deep (.fn "words" f_words)]
theorem q_law : rqSs b_law = [0, 1, 1, 2, 3, 4, 5, 6, 7, 8, 9, 10, 8, 9, 10, 7, 2, 8, 9, 10, 8, 9, 10].map fun i => r_law.getD i (.non "") := rfl
end
section
/-! ### words listed, plainly -/
def lts (m : Nat) : Wd := (List.range m).flatMap fun (k : Nat) => [((k : Int), (1 : Int)), ((k : Int), (-1 : Int))]
def okA : Wd → Int × Int → Bool := fun w l => match w.getLast? with
  | none => true
  | some z => decide (z ≠ inv l)
def grow (L w : Wd) : List Wd := L.filterMap fun l => bif okA w l then some (w ++ [l]) else none
def nx (L : Wd) (ws : List Wd) : List Wd := ws.flatMap (grow L)
def lay (L : Wd) : Nat → List Wd
  | 0 => [[]]
  | n + 1 => nx L (lay L n)
def alw (L : Wd) : Nat → List Wd
  | 0 => [[]]
  | n + 1 => alw L n ++ lay L (n + 1)
theorem compF_acc {α : Type} {f : MP.D → Store → R (Option MP.D)} (e : α → MP.D) (g : α → Option MP.D) : ∀ (xs : List α) (acc : List MP.D) (st : Store), (∀ a ∈ xs, ∀ st, Wp (f (e a) st) fun y st' => y = g a ∧ st' = st) → acc.length + xs.length ≤ 2 ^ 23 → compL f (xs.map e) acc st = .ok (acc ++ xs.filterMap g) st
  | [], acc, st, _, _ => by
    show R.ok acc st = _
    simp
  | a :: r, acc, st, h, hl => by
    obtain ⟨y, st', e1, rfl, rfl⟩ := (h a List.mem_cons_self st).ex
    rw [List.length_cons] at hl
    have ih := fun acc' h' => compF_acc e g r acc' st' (fun b hb => h b (List.mem_cons_of_mem _ hb)) h'
    rw [List.map_cons]
    cases hg : g a with
    | none =>
      rw [hg] at e1
      show (match f (e a) st' with
        | .ok (some y) st1 => bif fitsS acc.length then compL f (r.map e) (acc ++ [y]) st1 else .no
        | .ok none st1 => compL f (r.map e) acc st1
        | _ => R.no) = _
      rw [e1]
      show compL f (r.map e) acc st' = _
      rw [ih acc (by omega), List.filterMap_cons, hg]
    | some y =>
      rw [hg] at e1
      show (match f (e a) st' with
        | .ok (some y) st1 => bif fitsS acc.length then compL f (r.map e) (acc ++ [y]) st1 else .no
        | .ok none st1 => compL f (r.map e) acc st1
        | _ => R.no) = _
      rw [e1]
      show (bif fitsS acc.length then compL f (r.map e) (acc ++ [y]) st' else .no) = _
      have fz : fitsS acc.length = true := by
        unfold fitsS
        rw [decide_eq_true_eq, show sizeLine = 2 ^ 24 from by decide]
        omega
      rw [fz]
      show compL f (r.map e) (acc ++ [y]) st' = _
      rw [ih (acc ++ [y]) (by rw [List.length_append]; simp; omega), List.filterMap_cons, hg]
      simp
theorem eq_nilW (w : Wd) : cmpD .eq (.tuple (w.map eP)) (.tuple []) = some (decide (w = [])) := eq_eW w []
theorem last_c (t : Wd) (z : Int × Int) : ixD ((t ++ [z]).map eP) (-1) = some (eP z) := by
  rw [List.map_append]
  exact ix_m1
theorem grow_len (L w : Wd) : (grow L w).length ≤ L.length := List.length_filterMap_le _ _
theorem nx_len (L : Wd) (ws : List Wd) : (nx L ws).length ≤ ws.length * L.length := by
  unfold nx
  induction ws with
  | nil => simp
  | cons a r ih =>
    rw [List.flatMap_cons, List.length_append, List.length_cons, Nat.add_mul]
    have := grow_len L a
    omega
/-- the comprehension of the next layer -/
def c_words : Sm := match b_words_2a with | .cons s _ => s | .nil => .pass
theorem cw_eq : b_words_2a = .cons c_words b_words_2a_1 := rfl
theorem WpS.nxEq {x : SR} {e0 : MP.Env} {st0 : Store} (h : WpS x ⟨fun e s => e = e0 ∧ s = st0, fun _ _ => False, fun _ _ => False, fun _ _ => False⟩) : x = .nx e0 st0 := by
  cases x with
  | nx e s => obtain ⟨rfl, rfl⟩ := h.h; rfl
  | rt e s => exact h.h.elim
  | br e s => exact h.h.elim
  | ct e s => exact h.h.elim
  | ex _ _ _ _ => exact h.h.elim
  | no => exact h.h.elim
abbrev lW (ws : List Wd) : MP.D := .list (ws.map eW)
theorem next_ok (st : Store) (m n k : Int) (L : Wd) (fd la : List Wd) (hL : L.length ≤ 10) (hl : la.length ≤ 2000) (hwl : ∀ w ∈ la, w.length ≤ 2000) :
    evS c_words [.val (.dat (.int m)), .val (.dat (.int n)), .val (.dat (.list (L.map eP))), .val (.dat (lW fd)), .val (.dat (lW la)), .val (.dat (.int k)), .un, .un, .un, .un] st =
      .nx [.val (.dat (.int m)), .val (.dat (.int n)), .val (.dat (.list (L.map eP))), .val (.dat (lW fd)), .val (.dat (lW (nx L la))), .val (.dat (.int k)), .un, .un, .un, .un] st := by
  refine WpS.nxEq ?_
  unfold c_words b_words_2a
  simp!
  refine wp_comp2 (xs := la) eW (fun w => (grow L w).map eW) 20000 (fun w hw acc ha => ?_) ?_ ?_
  · simp!
    refine Wp.eq (compF_acc eP (fun l => bif okA w l then some (eW (w ++ [l])) else none) L acc st (fun l hl st => ?_) (by omega)) ⟨?_, rfl⟩
    · rcases List.eq_nil_or_concat w with rfl | ⟨t, z, rfl⟩
      · simp! [show cmpD .eq (eW []) (.tuple []) = some true from eq_nilW []]
        exact ⟨rfl, trivial⟩
      · rw [List.concat_eq_append]
        have e1 : cmpD .eq (eW (t ++ [z])) (.tuple []) = some false := by
          have := eq_nilW (t ++ [z])
          rwa [decide_eq_false (by simp)] at this
        have e2 := ne_eP z (inv l)
        have e3 : okA (t ++ [z]) l = decide (z ≠ inv l) := by
          unfold okA
          simp
        have fz : fits ((t ++ [z]).map eP ++ [eP l]).length = true := by
          have := hwl _ hw
          rw [List.concat_eq_append] at this
          unfold fits
          rw [decide_eq_true_eq, show sizeLine = 2 ^ 24 from by decide]
          simp at this ⊢
          omega
        have eA : eW (t ++ [z] ++ [l]) = .tuple ((t ++ [z]).map eP ++ [eP l]) := by simp
        by_cases q : z = inv l
        · subst q
          rw [decide_eq_false (by simp)] at e3
          simp! [e1, last_c, bl_ok, e2, e3]
          simp
        · rw [decide_eq_true q] at e3
          simp! [e1, last_c, bl_ok, e2, e3, decide_eq_false q, fz]
          rw [eA]
          simp
    · unfold grow
      rw [List.map_filterMap]
      congr 2
      funext x
      cases okA w x <;> rfl
  · have := nx_len L la
    unfold nx at this
    have e : (la.flatMap fun w => (grow L w).map eW).length = (la.flatMap (grow L)).length := by
      rw [List.length_flatMap, List.length_flatMap]
      simp
    rw [e]
    have : la.length * L.length ≤ 2000 * 10 := Nat.mul_le_mul hl hL
    omega
  · have e : (la.flatMap fun w => (grow L w).map eW) = (nx L la).map eW := by
      unfold nx
      rw [List.map_flatMap]
    rw [e]
    simp!
    trivial
theorem addW {a b : List Wd} (h : a.length + b.length ≤ 2 ^ 20) : bin .add (lW a) (lW b) = some (true, lW (a ++ b)) := by
  have f : fits ((a.map eW).length + (b.map eW).length) = true := by
    unfold fits
    rw [decide_eq_true_eq, show sizeLine = 2 ^ 24 from by decide, List.length_map, List.length_map]
    omega
  show (bif fits _ then some (true, PyData.list (a.map eW ++ b.map eW)) else none) = _
  rw [f, ← List.map_append]
  rfl
abbrev E (m n : Int) (L : Wd) (fd la : List Wd) (x : Slot) : MP.Env := [.val (.dat (.int m)), .val (.dat (.int n)), .val (.dat (.list (L.map eP))), .val (.dat (lW fd)), .val (.dat (lW la)), x, .un, .un, .un, .un]
theorem step_nx (st : Store) (m n k : Int) (L : Wd) (fd la : List Wd) (hL : L.length ≤ 10) (hl : la.length ≤ 2000) (hwl : ∀ w ∈ la, w.length ≤ 2000) (hf : (fd ++ nx L la).length ≤ 2000) :
    evSs b_words_2a (E m n L fd la (.val (.dat (.int k)))) st = .nx (E m n L (fd ++ nx L la) (nx L la) (.val (.dat (.int k)))) st := by
  rw [cw_eq]
  have h := next_ok st m n k L fd la hL hl hwl
  have a := addW (a := fd) (b := nx L la) (by rw [List.length_append] at hf; omega)
  have c : ¬ (2000 : Int) < ((fd ++ nx L la).map eW).length := by rw [List.length_map]; omega
  simp! [h, b_words_2a_1, b_words_2a_2, a, decide_eq_false c]
theorem step_ex (st : Store) (m n k : Int) (L : Wd) (fd la : List Wd) (hL : L.length ≤ 10) (hl : la.length ≤ 2000) (hfd : fd.length ≤ 2000) (hwl : ∀ w ∈ la, w.length ≤ 2000) (hf : 2000 < (fd ++ nx L la).length) :
    evSs b_words_2a (E m n L fd la (.val (.dat (.int k)))) st = .ex "TooMany" [] (E m n L (fd ++ nx L la) (nx L la) (.val (.dat (.int k)))) st := by
  rw [cw_eq]
  have h := next_ok st m n k L fd la hL hl hwl
  have hz := nx_len L la
  have : la.length * L.length ≤ 2000 * 10 := Nat.mul_le_mul hl hL
  have a := addW (a := fd) (b := nx L la) (by omega)
  have c : (2000 : Int) < ((fd ++ nx L la).map eW).length := by rw [List.length_map]; omega
  simp! [h, b_words_2a_1, b_words_2a_2, a, decide_eq_true c, b_words_2a_2a]
theorem lay_wl {L : Wd} : ∀ (k : Nat), ∀ w ∈ lay L k, w.length = k
  | 0, w, h => by
    rw [List.mem_singleton.mp h]
    rfl
  | k + 1, w, h => by
    obtain ⟨v, hv, hw⟩ := List.mem_flatMap.mp (show w ∈ (lay L k).flatMap (grow L) from h)
    unfold grow at hw
    obtain ⟨l, _, e⟩ := List.mem_filterMap.mp hw
    cases hk : okA v l with
    | false => rw [hk] at e; cases e
    | true =>
      rw [hk] at e
      cases e
      rw [List.length_append, lay_wl k v hv]
      rfl
theorem alw_mono {L : Wd} (i : Nat) : ∀ d : Nat, (alw L i).length ≤ (alw L (i + d)).length
  | 0 => Nat.le_refl _
  | d + 1 => by
    have := alw_mono (L := L) i d
    rw [show i + (d + 1) = (i + d) + 1 by omega, show alw L (i + d + 1) = alw L (i + d) ++ lay L (i + d + 1) from rfl, List.length_append]
    omega
theorem lay_le {L : Wd} : ∀ i, (lay L i).length ≤ (alw L i).length
  | 0 => Nat.le_refl _
  | i + 1 => by
    show _ ≤ (alw L i ++ lay L (i + 1)).length
    rw [List.length_append]
    omega
theorem loop_ok (st : Store) (m : Int) (n : Nat) (L : Wd) (hL : L.length ≤ 10) (hn : n ≤ 1000) : ∀ (d i : Nat) (x : Slot), i + d = n → (alw L n).length ≤ 2000 → ∃ y, forL (.nm 5) (evSs b_words_2a) (rangeUp i n) (E m n L (alw L i) (lay L i) x) st = .nx (E m n L (alw L n) (lay L n) y) st
  | 0, i, x, h, _ => by
    rw [rangeUp_nil (by omega), show i = n by omega]
    exact ⟨x, for_n⟩
  | d + 1, i, x, h, hz => by
    obtain ⟨y, ih⟩ := loop_ok st m n L hL hn d (i + 1) (.val (.dat (.int i))) (by omega) hz
    have l0 := alw_mono (L := L) i (d + 1)
    have l1 := alw_mono (L := L) (i + 1) d
    rw [h] at l0
    rw [show i + 1 + d = n by omega] at l1
    have ll := lay_le (L := L) i
    refine ⟨y, ?_⟩
    rw [rangeUp_cons (by omega), for_c]
    have s := step_nx st m n i L (alw L i) (lay L i) hL (by omega) (fun w hw => by rw [lay_wl i w hw]; omega) (by
      show (alw L (i + 1)).length ≤ 2000
      omega)
    show tT (evSs b_words_2a (E m n L (alw L i) (lay L i) (.val (.dat (.int i)))) st) _ = _
    rw [s, tT_nx]
    exact ih
theorem loop_ex (st : Store) (m : Int) (n j : Nat) (L : Wd) (hL : L.length ≤ 10) (hn : n ≤ 1000) (hj : j < n) (h1 : (alw L j).length ≤ 2000) (h2 : 2000 < (alw L (j + 1)).length) : ∀ (d i : Nat) (x : Slot), i + d = j → ∃ e, forL (.nm 5) (evSs b_words_2a) (rangeUp i n) (E m n L (alw L i) (lay L i) x) st = .ex "TooMany" [] e st
  | 0, i, x, h => by
    have e : i = j := by omega
    subst e
    have ll := lay_le (L := L) i
    have s := step_ex st m n i L (alw L i) (lay L i) hL (by omega) h1 (fun w hw => by rw [lay_wl i w hw]; omega) h2
    rw [rangeUp_cons (by omega), for_c]
    refine ⟨E m n L (alw L i ++ nx L (lay L i)) (nx L (lay L i)) (.val (.dat (.int i))), ?_⟩
    show tT (evSs b_words_2a (E m n L (alw L i) (lay L i) (.val (.dat (.int i)))) st) _ = _
    rw [s, tT_ex]
  | d + 1, i, x, h => by
    obtain ⟨e, ih⟩ := loop_ex st m n j L hL hn hj h1 h2 d (i + 1) (.val (.dat (.int i))) (by omega)
    have l0 := alw_mono (L := L) i (d + 1)
    have l1 := alw_mono (L := L) (i + 1) d
    rw [h] at l0
    rw [show i + 1 + d = j by omega] at l1
    have ll := lay_le (L := L) i
    refine ⟨e, ?_⟩
    rw [rangeUp_cons (by omega), for_c]
    have s := step_nx st m n i L (alw L i) (lay L i) hL (by omega) (fun w hw => by rw [lay_wl i w hw]; omega) (by
      show (alw L (i + 1)).length ≤ 2000
      omega)
    show tT (evSs b_words_2a (E m n L (alw L i) (lay L i) (.val (.dat (.int i)))) st) _ = _
    rw [s, tT_nx]
    exact ih
theorem sum2 : ∀ l : List Nat, (l.map fun _ => 2).sum = 2 * l.length
  | [] => rfl
  | a :: r => by
    rw [List.map_cons, List.sum_cons, sum2 r, List.length_cons]
    omega
theorem lts_len (m : Nat) : (lts m).length = 2 * m := by
  unfold lts
  rw [List.length_flatMap]
  show ((List.range m).map fun _ => 2).sum = _
  rw [sum2, List.length_range]
/-- the letters -/
theorem letters_ok (st : Store) (m : Nat) (n : Int) (hm : m ≤ 5) : ∃ s, b_words = .cons s b_words_1 ∧ evS s [.val (.dat (.int m)), .val (.dat (.int n)), .un, .un, .un, .un, .un, .un, .un, .un] st = .nx [.val (.dat (.int m)), .val (.dat (.int n)), .val (.dat (.list ((lts m).map eP))), .un, .un, .un, .un, .un, .un, .un] st := by
  refine ⟨_, rfl, WpS.nxEq ?_⟩
  have ok : rngOk (m : Int) = true := okRw (by omega) (by omega)
  simp! [ok]
  have er : rangeUp 0 (m : Int) = (List.range m).map fun k : Nat => PyData.int (0 + k) := by
    unfold rangeUp
    rw [show ((m : Int) - 0).toNat = m by omega]
  rw [er]
  refine wp_comp2 (xs := List.range m) (fun k : Nat => PyData.int (0 + k)) (fun k : Nat => [eP ((k : Int), 1), eP ((k : Int), -1)]) 20 (fun k hk acc ha => ?_) ?_ ?_
  · simp!
    refine Wp.eq (compF_acc (xs := [(1 : Int), -1]) PyData.int (fun s => some (eP ((k : Int), s))) acc st (fun s hs st => ?_) (by simp; omega)) ⟨rfl, rfl⟩
    simp!
    have e0 : (0 : Int) + (k : Int) = k := by omega
    rw [e0]
    exact ⟨rfl, trivial⟩
  · rw [List.length_flatMap]
    show ((List.range m).map fun _ => 2).sum ≤ 20
    rw [sum2, List.length_range]
    omega
  · have e : ((List.range m).flatMap fun k : Nat => [eP ((k : Int), 1), eP ((k : Int), -1)]) = (lts m).map eP := by
      unfold lts
      rw [List.map_flatMap]
      rfl
    rw [e]
    simp!
    trivial
theorem words_ok (st : Store) (m n : Nat) (hm : m ≤ 5) (hn : n ≤ 1000) (hz : (alw (lts m) n).length ≤ 2000) : f_words [.dat (.int m), .dat (.int n)] st = .ok ⟨false, .dat (lW (alw (lts m) n))⟩ st := by
  refine fn_eq rfl ?_
  obtain ⟨s, es, e1⟩ := letters_ok st m n hm
  obtain ⟨y, e2⟩ := loop_ok st m n (lts m) (by rw [lts_len]; omega) hn n 0 .un (by omega) hz
  have ok : rngOk (n : Int) = true := okRw (by omega) (by omega)
  have e2 : forL (.nm 5) (evSs b_words_2a) (rangeUp 0 (n : Int)) [.val (.dat (.int m)), .val (.dat (.int n)), .val (.dat (.list ((lts m).map eP))), .val (.dat (.list [.tuple []])), .val (.dat (.list [.tuple []])), .un, .un, .un, .un, .un] st = _ := e2
  rw [es]
  simp! [e1, b_words_1, b_words_2, ok, e2, b_words_3]
theorem words_ex (st : Store) (m n j : Nat) (hm : m ≤ 5) (hn : n ≤ 1000) (hj : j < n) (h1 : (alw (lts m) j).length ≤ 2000) (h2 : 2000 < (alw (lts m) (j + 1)).length) : f_words [.dat (.int m), .dat (.int n)] st = .exc "TooMany" [] st := by
  refine fn_eq rfl ?_
  obtain ⟨s, es, e1⟩ := letters_ok st m n hm
  obtain ⟨y, e2⟩ := loop_ex st m n j (lts m) (by rw [lts_len]; omega) hn hj h1 h2 j 0 .un (by omega)
  have ok : rngOk (n : Int) = true := okRw (by omega) (by omega)
  have e2 : forL (.nm 5) (evSs b_words_2a) (rangeUp 0 (n : Int)) [.val (.dat (.int m)), .val (.dat (.int n)), .val (.dat (.list ((lts m).map eP))), .val (.dat (.list [.tuple []])), .val (.dat (.list [.tuple []])), .un, .un, .un, .un, .un] st = _ := e2
  rw [es]
  simp! [e1, b_words_1, b_words_2, ok, e2, b_words_3]
/-! ### how many -/
def tot (m : Nat) : Nat → Nat × Nat
  | 0 => (1, 2 * m)
  | n + 1 => ((tot m n).1 + (tot m n).2, (tot m n).2 * (2 * m - 1))
theorem mem_lts {m : Nat} {l : Int × Int} : l ∈ lts m ↔ 0 ≤ l.1 ∧ l.1 < m ∧ (l.2 = 1 ∨ l.2 = -1) := by
  unfold lts
  rw [List.mem_flatMap]
  constructor
  · rintro ⟨k, hk, h⟩
    have := List.mem_range.mp hk
    simp only [List.mem_cons, List.not_mem_nil, or_false] at h
    rcases h with rfl | rfl
    · exact ⟨by simp, by simp; omega, .inl rfl⟩
    · exact ⟨by simp, by simp; omega, .inr rfl⟩
  · rintro ⟨h1, h2, h3⟩
    obtain ⟨a, b⟩ := l
    refine ⟨a.toNat, List.mem_range.mpr (by simp at h1 h2; omega), ?_⟩
    have : ((a.toNat : Nat) : Int) = a := by simp at h1; omega
    rw [this]
    simp at h3 ⊢
    exact h3
theorem lts_nd (m : Nat) : (lts m).Nodup := by
  unfold lts
  refine List.pairwise_flatMap.mpr ⟨fun k _ => by simp, ?_⟩
  refine List.Pairwise.imp (fun {a b} h x hx y hy e => ?_) (List.nodup_range (n := m))
  simp at hx hy
  subst e
  rcases hx with rfl | rfl <;> rcases hy with e | e <;> simp at e <;> exact h (by omega)
theorem inv_lts {m : Nat} {l : Int × Int} (h : l ∈ lts m) : inv l ∈ lts m := by
  rw [mem_lts] at h ⊢
  unfold inv
  obtain ⟨h1, h2, h3⟩ := h
  refine ⟨h1, h2, ?_⟩
  simp only
  omega
theorem count_ne {L : Wd} (nd : L.Nodup) (z : Int × Int) (hz : z ∈ L) : (L.filter fun l => decide (l ≠ z)).length = L.length - 1 := by
  induction L with
  | nil => cases hz
  | cons a r ih =>
    obtain ⟨n1, n2⟩ := List.nodup_cons.mp nd
    by_cases h : a = z
    · subst h
      have : r.filter (fun l => decide (l ≠ a)) = r := List.filter_eq_self.mpr fun b hb => decide_eq_true fun e => n1 (e ▸ hb)
      rw [List.filter_cons_of_neg (by simp), this]
      simp
    · have hz' : z ∈ r := by
        rcases List.mem_cons.mp hz with e | e
        · exact absurd e.symm h
        · exact e
      rw [List.filter_cons_of_pos (by simpa using h), List.length_cons, ih n2 hz', List.length_cons]
      have : 0 < r.length := List.length_pos_of_mem hz'
      omega
theorem grow_eq (L w : Wd) : grow L w = (L.filter (okA w)).map fun l => w ++ [l] := by
  unfold grow
  induction L with
  | nil => rfl
  | cons a r ih =>
    rw [List.filterMap_cons, ih]
    cases h : okA w a with
    | true => rw [List.filter_cons_of_pos h]; rfl
    | false => rw [List.filter_cons_of_neg (by rw [h]; simp)]; rfl
theorem lay_mem {m : Nat} : ∀ (k : Nat), ∀ w ∈ lay (lts m) k, ∀ l ∈ w, l ∈ lts m
  | 0, w, h, l, hl => by
    rw [List.mem_singleton.mp h] at hl
    cases hl
  | k + 1, w, h, l, hl => by
    obtain ⟨v, hv, hw⟩ := List.mem_flatMap.mp (show w ∈ (lay (lts m) k).flatMap (grow (lts m)) from h)
    rw [grow_eq] at hw
    obtain ⟨x, hx, rfl⟩ := List.mem_map.mp hw
    rcases List.mem_append.mp hl with e | e
    · exact lay_mem k v hv l e
    · rw [List.mem_singleton.mp e]
      exact (List.mem_filter.mp hx).1
theorem grow_cnt {m : Nat} (k : Nat) (w : Wd) (h : w ∈ lay (lts m) (k + 1)) : (grow (lts m) w).length = 2 * m - 1 := by
  have hl := lay_wl _ _ h
  have hm := lay_mem _ _ h
  rcases List.eq_nil_or_concat w with rfl | ⟨t, z, rfl⟩
  · cases hl
  · rw [List.concat_eq_append] at hm ⊢
    rw [grow_eq, List.length_map]
    have e : okA (t ++ [z]) = fun l => decide (l ≠ inv z) := by
      funext l
      unfold okA
      simp only [List.getLast?_append, List.getLast?_singleton, Option.or_some, Option.getD_some]
      refine decide_eq_decide.mpr ⟨fun h e => h (by rw [e, inv_inv]), fun h e => h (by rw [e, inv_inv])⟩
    rw [e, count_ne (lts_nd m) (inv z) (inv_lts (hm z (by simp))), lts_len]
theorem lay_cnt (m : Nat) : ∀ k, (lay (lts m) (k + 1)).length = (tot m k).2
  | 0 => by
    show (nx (lts m) [[]]).length = 2 * m
    unfold nx
    rw [List.flatMap_cons, List.flatMap_nil, List.append_nil, grow_eq, List.length_map]
    have : (lts m).filter (okA []) = lts m := List.filter_eq_self.mpr fun l _ => rfl
    rw [this, lts_len]
  | k + 1 => by
    show (nx (lts m) (lay (lts m) (k + 1))).length = (tot m k).2 * (2 * m - 1)
    unfold nx
    rw [List.length_flatMap, ← lay_cnt m k]
    have : ∀ ws : List Wd, (∀ w ∈ ws, (grow (lts m) w).length = 2 * m - 1) → (ws.map fun w => (grow (lts m) w).length).sum = ws.length * (2 * m - 1) := by
      intro ws
      induction ws with
      | nil => intro _; simp
      | cons a r ih =>
        intro h
        rw [List.map_cons, List.sum_cons, ih fun w hw => h w (List.mem_cons_of_mem _ hw), h a List.mem_cons_self, List.length_cons, Nat.add_mul, Nat.one_mul]
        omega
    exact this _ fun w hw => grow_cnt k w hw
theorem alw_cnt (m : Nat) : ∀ k, (alw (lts m) k).length = (tot m k).1
  | 0 => rfl
  | k + 1 => by
    show (alw (lts m) k ++ lay (lts m) (k + 1)).length = _
    rw [List.length_append, alw_cnt m k, lay_cnt m k]
    rfl
/-! ### without a letter beside its back -/
theorem lay_rd {m : Nat} : ∀ (k : Nat), ∀ w ∈ lay (lts m) k, Rd w
  | 0, w, h => by
    rw [List.mem_singleton.mp h]
    exact rd_nil
  | k + 1, w, h => by
    obtain ⟨v, hv, hw⟩ := List.mem_flatMap.mp (show w ∈ (lay (lts m) k).flatMap (grow (lts m)) from h)
    have ih := lay_rd k v hv
    rw [grow_eq] at hw
    obtain ⟨x, hx, rfl⟩ := List.mem_map.mp hw
    have ho := (List.mem_filter.mp hx).2
    rcases List.eq_nil_or_concat v with rfl | ⟨t, z, rfl⟩
    · trivial
    · rw [List.concat_eq_append] at ih ho ⊢
      have ho : decide (z ≠ inv x) = true := by
        have : okA (t ++ [z]) x = decide (z ≠ inv x) := by
          unfold okA
          simp
        rw [← this]
        exact ho
      have q := of_decide_eq_true ho
      have r2 : Rd (z :: [x]) := ⟨fun e => q (by rw [e, inv_inv]), trivial⟩
      have := rd_app ih r2
      simpa using this
theorem alw_all {P : Wd → Prop} {L : Wd} (h : ∀ k, ∀ w ∈ lay L k, P w) : ∀ n, ∀ w ∈ alw L n, P w
  | 0, w, hw => h 0 w hw
  | n + 1, w, hw => by
    rcases List.mem_append.mp (show w ∈ alw L n ++ lay L (n + 1) from hw) with e | e
    · exact alw_all h n w e
    · exact h _ w e
theorem alw_len {L : Wd} : ∀ n, ∀ w ∈ alw L n, w.length ≤ n
  | 0, w, hw => by
    have := lay_wl (L := L) 0 w hw
    omega
  | n + 1, w, hw => by
    rcases List.mem_append.mp (show w ∈ alw L n ++ lay L (n + 1) from hw) with e | e
    · have := alw_len n w e
      omega
    · rw [lay_wl _ w e]
      omega
end
section
theorem lts_succ (k : Nat) : lts (k + 1) = lts k ++ [((k : Int), 1), ((k : Int), -1)] := by
  unfold lts
  rw [List.range_succ, List.flatMap_append]
  rfl
theorem add_eP {a b : Wd} (h : a.length + b.length ≤ 2 ^ 20) : bin .add (.list (a.map eP)) (.list (b.map eP)) = some (true, .list ((a ++ b).map eP)) := by
  have f : fits ((a.map eP).length + (b.map eP).length) = true := by
    unfold fits
    rw [decide_eq_true_eq, show sizeLine = 2 ^ 24 from by decide, List.length_map, List.length_map]
    omega
  show (bif fits _ then some (true, PyData.list (a.map eP ++ b.map eP)) else none) = _
  rw [f, ← List.map_append]
  rfl
theorem add_wl (w : Wd) (l : Int × Int) (h : w.length ≤ 2000) : bin .add (eW w) (.tuple [eP l]) = some (false, eW (w ++ [l])) := by
  have := bin_add_t (a := w.map eP) (b := [eP l]) (by simp; omega)
  rw [this]
  simp
/-- the letter that is not taken -/
def tkn (w : Wd) : MP.D := match w.getLast? with
  | none => .none
  | some z => eP (z.1, 0 - z.2)
theorem tkn_ne (w : Wd) (l : Int × Int) : cmpD .ne (eP l) (tkn w) = some (okA w l) := by
  unfold tkn okA
  cases h : w.getLast? with
  | none =>
    have e : (eP l = PyData.none) ↔ False := ⟨fun e => (by unfold eP at e; cases e), False.elim⟩
    exact (eP_fl l).ne .none (by decide) (by decide) e
  | some z =>
    have ei : (z.1, 0 - z.2) = inv z := by unfold inv; rw [Int.zero_sub]
    show cmpD .ne (eP l) (eP (z.1, 0 - z.2)) = some (decide (z ≠ inv l))
    rw [ei]
    show cmpD .ne (eP l) (eP (inv z)) = some (decide (z ≠ inv l))
    rw [ne_eP]
    have : (z = inv l) ↔ (l = inv z) := ⟨fun e => by rw [e, inv_inv], fun e => by rw [e, inv_inv]⟩
    simp [this]
/-- one word's turn -/
theorem further_ok (st : Store) (m n : Int) (L w : Wd) (fd la fu : List Wd) (x y z : Slot) (hL : L.length ≤ 10) (hw : w.length ≤ 2000) (hf : fu.length ≤ 2 ^ 18) :
    evSs b__law_listed_2a_1a [.val (.dat (.int m)), .val (.dat (.int n)), .val (.dat (.list (L.map eP))), .val (.dat (lW fd)), .val (.dat (lW la)), x, y, .val (.dat (lW fu)), .val (.dat (eW w)), z, .un] st =
      .nx [.val (.dat (.int m)), .val (.dat (.int n)), .val (.dat (.list (L.map eP))), .val (.dat (lW fd)), .val (.dat (lW la)), x, y, .val (.dat (lW (fu ++ grow L w))), .val (.dat (eW w)), .val (.dat (tkn w)), .un] st := by
  refine WpS.nxEq ?_
  have hcomp : ∀ st, WpS (evSs b__law_listed_2a_1a_1 [.val (.dat (.int m)), .val (.dat (.int n)), .val (.dat (.list (L.map eP))), .val (.dat (lW fd)), .val (.dat (lW la)), x, y, .val (.dat (lW fu)), .val (.dat (eW w)), .val (.dat (tkn w)), .un] st)
      ⟨fun e s => e = [.val (.dat (.int m)), .val (.dat (.int n)), .val (.dat (.list (L.map eP))), .val (.dat (lW fd)), .val (.dat (lW la)), x, y, .val (.dat (lW (fu ++ grow L w))), .val (.dat (eW w)), .val (.dat (tkn w)), .un] ∧ s = st, fun _ _ => False, fun _ _ => False, fun _ _ => False⟩ := fun st => by
    have gl := grow_len L w
    simp! [b__law_listed_2a_1a_1]
    refine Wp.eq (compF_acc eP (fun l => bif okA w l then some (eW (w ++ [l])) else none) L [] st (fun l hl st => ?_) (by simp; omega)) ?_
    · have e := tkn_ne w l
      cases h : okA w l with
      | true =>
        rw [h] at e
        simp! [e, add_wl w l hw]
        trivial
      | false =>
        rw [h] at e
        simp! [e]
        trivial
    · have eg : L.filterMap (fun l => bif okA w l then some (eW (w ++ [l])) else none) = (grow L w).map eW := by
        unfold grow
        rw [List.map_filterMap]
        congr 2
        funext x
        cases okA w x <;> rfl
      rw [List.nil_append, eg]
      simp! [addW (a := fu) (b := grow L w) (by omega)]
      trivial
  rcases List.eq_nil_or_concat w with rfl | ⟨t, u, rfl⟩
  · have e1 : cmpD .ne (eW []) (.tuple []) = some false := ne_eW [] []
    simp! [b__law_listed_2a_1a, e1]
    exact hcomp st
  · rw [List.concat_eq_append] at hcomp ⊢
    have e1 : cmpD .ne (eW (t ++ [u])) (.tuple []) = some true := by
      have := ne_eW (t ++ [u]) []
      rwa [decide_eq_false (by simp)] at this
    have e2 : tkn (t ++ [u]) = .tuple [.int u.1, .int (0 - u.2)] := by
      unfold tkn
      simp [eP]
    have i0 : ixD [PyData.int u.1, PyData.int u.2] 0 = some (.int u.1) := rfl
    have i1 : ixD [PyData.int u.1, PyData.int u.2] 1 = some (.int u.2) := rfl
    simp! [b__law_listed_2a_1a, e1, last_c]
    rw [e2] at hcomp ⊢
    exact hcomp st
theorem listed_ok (st : Store) (m n : Nat) (hm : m ≤ 5) (hn : n ≤ 1000) (hz : (alw (lts m) n).length ≤ 2000) : f__law_listed [.dat (.int m), .dat (.int n)] st = .ok ⟨false, .dat (lW (alw (lts m) n))⟩ st := by
  have okm : rngOk (m : Int) = true := okRw (by omega) (by omega)
  have okn : rngOk (n : Int) = true := okRw (by omega) (by omega)
  refine Wp.is (wp_fn rfl ?_)
  simp! [b__law_listed, b__law_listed_1, okm]
  refine wps_forR (fun k env st' => ∃ x, 0 ≤ k ∧ k ≤ m ∧ st' = st ∧ env = [.val (.dat (.int m)), .val (.dat (.int n)), .val (.dat (.list ((lts k.toNat).map eP))), .val (.dat (lW [[]])), .val (.dat (lW [[]])), x, .un, .un, .un, .un, .un]) ?_ ?_ _ 0 _ _ rfl ⟨.un, by omega, by omega, rfl, rfl⟩
  · rintro k env st' hk ⟨x, h0, h1, rfl, rfl⟩
    refine ⟨_, rfl, ?_⟩
    have ea := add_eP (a := lts k.toNat) (b := [(k, 1), (k, -1)]) (by rw [lts_len]; simp; omega)
    have e2 : lts k.toNat ++ [(k, 1), (k, -1)] = lts (k + 1).toNat := by
      rw [show (k + 1).toNat = k.toNat + 1 by omega, lts_succ, show ((k.toNat : Nat) : Int) = k by omega]
    rw [e2] at ea
    have ea : bin .add (.list ((lts k.toNat).map eP)) (.list [.tuple [.int k, .int 1], .tuple [.int k, .int (-1)]]) = _ := ea
    simp! [b__law_listed_1a, ea]
    exact ⟨_, by omega, by omega, trivial, rfl⟩
  · rintro k env st' hk ⟨x, h0, h1, rfl, rfl⟩
    have ek : k.toNat = m := by omega
    rw [ek]
    simp! [b__law_listed_2, okn]
    refine wps_forR (fun k env s2 => ∃ y a b c, 0 ≤ k ∧ k ≤ n ∧ s2 = st' ∧ env = [.val (.dat (.int m)), .val (.dat (.int n)), .val (.dat (.list ((lts m).map eP))), .val (.dat (lW (alw (lts m) k.toNat))), .val (.dat (lW (lay (lts m) k.toNat))), x, y, a, b, c, .un]) ?_ ?_ _ 0 _ _ rfl ⟨.un, .un, .un, .un, by omega, by omega, rfl, rfl⟩
    · rintro k env s2 hk ⟨y, a, b, c, h0, h1, rfl, rfl⟩
      refine ⟨_, rfl, ?_⟩
      have hmo := alw_mono (L := lts m) (k.toNat + 1) (n - (k.toNat + 1))
      rw [show k.toNat + 1 + (n - (k.toNat + 1)) = n by omega] at hmo
      have hmo0 := alw_mono (L := lts m) k.toNat 1
      have hle := lay_le (L := lts m) k.toNat
      have hle1 := lay_le (L := lts m) (k.toNat + 1)
      simp! [b__law_listed_2a, b__law_listed_2a_1]
      refine wps_forT eW (fun r env s3 => ∃ (fu : List Wd) (p q : Slot), fu ++ nx (lts m) r = nx (lts m) (lay (lts m) k.toNat) ∧ (∀ w ∈ r, w.length ≤ 2000) ∧ s3 = s2 ∧ env = [.val (.dat (.int m)), .val (.dat (.int n)), .val (.dat (.list ((lts m).map eP))), .val (.dat (lW (alw (lts m) k.toNat))), .val (.dat (lW (lay (lts m) k.toNat))), x, .val (.dat (.int k)), .val (.dat (lW fu)), p, q, .un]) ?_ ?_ _ _ _ ⟨[], _, _, rfl, fun w hw => by rw [lay_wl _ w hw]; omega, rfl, rfl⟩
      · rintro w r env s3 ⟨fu, p, q, hf, hw, rfl, rfl⟩
        refine ⟨_, rfl, ?_⟩
        have hnl := nx_len (lts m) (lay (lts m) k.toNat)
        have h20 : (lay (lts m) k.toNat).length * (lts m).length ≤ 2000 * 10 := Nat.mul_le_mul (by omega) (by rw [lts_len]; omega)
        have hfl : fu.length ≤ 2 ^ 18 := by
          have := congrArg List.length hf
          rw [List.length_append] at this
          omega
        have F := further_ok s3 m n (lts m) w (alw (lts m) k.toNat) (lay (lts m) k.toNat) fu x (.val (.dat (.int k))) q (by rw [lts_len]; omega) (hw w List.mem_cons_self) hfl
        have F : evSs b__law_listed_2a_1a [.val (.dat (.int m)), .val (.dat (.int n)), .val (.dat (.list ((lts m).map eP))), .val (.dat (lW (alw (lts m) k.toNat))), .val (.dat (lW (lay (lts m) k.toNat))), x, .val (.dat (.int k)), .val (.dat (lW fu)), .val (.dat (eW w)), q, .un] s3 = _ := F
        simp! [F]
        refine ⟨fu ++ grow (lts m) w, _, _, ?_, fun v hv => hw v (List.mem_cons_of_mem _ hv), trivial, rfl⟩
        rw [← hf, List.append_assoc]
        rfl
      · rintro env s3 ⟨fu, p, q, hf, hw, rfl, rfl⟩
        have hf : fu = lay (lts m) (k.toNat + 1) := by
          rw [show nx (lts m) [] = [] from rfl, List.append_nil] at hf
          exact hf
        subst hf
        have hc : (alw (lts m) k.toNat ++ lay (lts m) (k.toNat + 1)).length = (alw (lts m) (k.toNat + 1)).length := rfl
        rw [List.length_append] at hc
        have ad := addW (a := alw (lts m) k.toNat) (b := lay (lts m) (k.toNat + 1)) (by omega)
        simp! [b__law_listed_2a_2, ad]
        rw [show (k + 1).toNat = k.toNat + 1 by omega]
        exact ⟨_, _, _, _, by omega, by omega, trivial, rfl⟩
    · rintro k env st' hk ⟨y, a, b, c, h0, h1, rfl, rfl⟩
      have ek : k.toNat = n := by omega
      rw [ek]
      simp! [b__law_listed_3]
      exact ⟨rfl, rfl⟩
end
section
theorem words_exI (st : Store) (m n j : Nat) (M N : Int) (eM : M = m) (eN : N = n) (hm : m ≤ 5) (hn : n ≤ 1000) (hj : j < n) (h1 : (alw (lts m) j).length ≤ 2000) (h2 : 2000 < (alw (lts m) (j + 1)).length) : f_words [.dat (.int M), .dat (.int N)] st = .exc "TooMany" [] st := by
  rw [eM, eN]
  exact words_ex st m n j hm hn hj h1 h2
theorem words_okI (st : Store) (m n : Nat) (M N : Int) (eM : M = m) (eN : N = n) (hm : m ≤ 5) (hn : n ≤ 1000) (hz : (alw (lts m) n).length ≤ 2000) : f_words [.dat (.int M), .dat (.int N)] st = .ok ⟨false, .dat (lW (alw (lts m) n))⟩ st := by
  rw [eM, eN]
  exact words_ok st m n hm hn hz
theorem bm_r {i j : Int} (h : j.natAbs < 2 ^ 64) : bin .mul (.int i) (.int j) = some (false, .int (i * j)) := by
  show (bif mulOk i j then some (false, PyData.int (i * j)) else none) = _
  have : mulOk i j = true := by
    unfold mulOk
    rw [decide_eq_true h]
    simp
  rw [this]
  rfl
theorem any_f {α : Type} (xs : List α) : bltF .any [.list (xs.map fun _ => PyData.bool false)] = some (false, .bool false) := by
  have h : ∀ xs : List α, boolsOf (xs.map fun _ => PyData.bool false) = some (xs.map fun _ => false) := by
    intro xs
    induction xs with
    | nil => rfl
    | cons a r ih =>
      show (boolsOf (r.map fun _ => PyData.bool false)).map (false :: ·) = _
      rw [ih]
      rfl
  show (boolsOf (xs.map fun _ => PyData.bool false)).map (fun bs => (false, PyData.bool (bs.any id))) = _
  rw [h]
  have : (xs.map fun _ => false).any id = false := by
    rw [List.any_eq_false]
    intro b hb
    obtain ⟨_, _, rfl⟩ := List.mem_map.mp hb
    simp
  show some (false, PyData.bool ((xs.map fun _ => false).any id)) = _
  rw [this]
theorem lW_fl (ws : List Wd) : Fl 3 (lW ws) := .lst (.map fun a _ => tW_fl a)
theorem ne_lW (ws : List Wd) : cmpD .ne (lW ws) (lW ws) = some false := ne_self ((lW_fl ws).shp (by decide))
/-- the law from the fifth statement on, of so many moves and letters -/
theorem law_from (st : Store) (m n j c : Nat) (s0 : D) (l : Nat) (hc : ∀ k, k ≤ c → (tot m k).1 ≤ 2000) (hn : n ≤ c) (hm : m ≤ 5) (m1 : 1 ≤ m) (hc2 : c ≤ 12) (hj : j < 1000) (j1 : (tot m j).1 ≤ 2000) (j2 : 2000 < (tot m (j + 1)).1) (hcj : m ≠ 1 → 2000 < (tot m (c + 1)).1) :
    WpS (evSs b_law_4 [.val (.dat s0), .val (.loc l), .val (.dat (.int m)), .val (.dat (.int c)), .val (.dat (.int n)), .un, .un, .un, .un, .un] st) ⟨fun _ _ => False, fun x _ => x = ⟨false, .dat (.bool true)⟩, fun _ _ => False, fun _ _ => False⟩ := by
  have hz : (alw (lts m) n).length ≤ 2000 := by rw [alw_cnt]; exact hc n hn
  have e1 := fun st => words_ok st m n hm (by omega) hz
  have e2 := fun st => listed_ok st m n hm (by omega) hz
  simp! [b_law_4, e1, b_law_5, e2, ne_lW]
  refine wp_compM eW (fun _ => PyData.bool false) (fun w hw => ?_) (by omega) ?_
  · have r := alw_all (P := Rd) (fun k => lay_rd k) n w hw
    have hl := alw_len n w hw
    have := ne_eW w w
    rw [decide_eq_true rfl] at this
    simp! [short_ok _ w (by omega), red_id r, this]
    trivial
  · have okn : rngOk (n : Int) = true := okRw (by omega) (by omega)
    simp! [any_f, b_law_6, bm_s (show (2 : Int).natAbs < 2 ^ 64 by decide), b_law_7, okn]
    refine wps_forR (fun k env s2 => ∃ x, 0 ≤ k ∧ k ≤ n ∧ s2 = st ∧ env = [.val (.dat s0), .val (.loc l), .val (.dat (.int m)), .val (.dat (.int c)), .val (.dat (.int n)), .val (.dat (lW (alw (lts m) n))), .val (.dat (.int (tot m k.toNat).1)), .val (.dat (.int (tot m k.toNat).2)), x, .un]) ?_ ?_ _ 0 _ _ rfl ⟨.un, by omega, by omega, rfl, rfl⟩
    · rintro k env s2 hk ⟨x, h0, h1, rfl, rfl⟩
      refine ⟨_, rfl, ?_⟩
      have eb : (((tot m k.toNat).2 : Nat) : Int) * (2 * (m : Int) - 1) = ((tot m (k + 1).toNat).2 : Nat) := by
        rw [show (k + 1).toNat = k.toNat + 1 by omega]
        show _ = (((tot m k.toNat).2 * (2 * m - 1) : Nat) : Int)
        rw [Int.natCast_mul, show ((2 * m - 1 : Nat) : Int) = 2 * (m : Int) - 1 by omega]
      have ea : (((tot m k.toNat).1 : Nat) : Int) + ((tot m k.toNat).2 : Nat) = ((tot m (k + 1).toNat).1 : Nat) := by
        rw [show (k + 1).toNat = k.toNat + 1 by omega]
        rfl
      simp! [b_law_7a, bm_s (show (2 : Int).natAbs < 2 ^ 64 by decide), bm_r (i := (((tot m k.toNat).2 : Nat) : Int)) (j := 2 * (m : Int) - 1) (by omega), ea, eb]
      exact ⟨_, by omega, by omega, trivial, rfl⟩
    · rintro k env s2 hk ⟨x, h0, h1, rfl, rfl⟩
      have ek : k.toNat = n := by omega
      rw [ek]
      have w1 : ∀ st, f_words [.dat (.int m), .dat (.int 1000)] st = .exc "TooMany" [] st := fun st => words_exI st m 1000 j _ _ rfl (by decide) hm (by omega) hj (by rw [alw_cnt]; exact j1) (by rw [alw_cnt]; exact j2)
      have el : ((alw (lts m) n).map eW).length = (tot m n).1 := by rw [List.length_map, alw_cnt]
      simp! [b_law_8, e1, hk__law_error, el]
      have ne1 : cmpD .ne (.str "TooMany") (.str "TooMany") = some false := ne_self (by decide +kernel)
      have eq1 : cmpD .eq (.str "TooMany") (.str "TooMany") = some true := eq_self (by decide +kernel)
      simp! [b_law_9, w1, ne1, b_law_10, hk__law_error]
      by_cases q : m = 1
      · subst q
        have z999 : (alw (lts 1) 999).length ≤ 2000 := by rw [alw_cnt]; decide +kernel
        have w2 : ∀ st, f_words [.dat (.int 1), .dat (.int 999)] st = _ := fun st => words_okI st 1 999 _ _ (by decide) (by decide) (by omega) (by omega) z999
        have w4 : ∀ st, f_words [.dat (.int 1), .dat (.int 1000)] st = .exc "TooMany" [] st := fun st => words_exI st 1 1000 j _ _ (by decide) (by decide) hm (by omega) hj (by rw [alw_cnt]; exact j1) (by rw [alw_cnt]; exact j2)
        have c1 : (((1 : Nat) : Int) = 1) := by decide
        have c9 : decide (((1999 : Nat) : Int) = 1999) = true := by decide
        have l999 : ((alw (lts 1) 999).map eW).length = 1999 := by
          rw [List.length_map, alw_cnt]
          decide +kernel
        simp! [b_law_10a, decide_eq_true c1, w2, l999, c9, w4, eq1, hk__law_error]
      · have w3 : ∀ st, f_words [.dat (.int m), .dat (.int ((c : Int) + 1))] st = .exc "TooMany" [] st := fun st => words_ex st m (c + 1) c hm (by omega) (by omega) (by rw [alw_cnt]; exact hc c (by omega)) (by rw [alw_cnt]; exact hcj q)
        have nq : ¬ ((m : Int) = 1) := by omega
        simp! [decide_eq_false nq, b_law_11, w3, eq1, hk__law_error]
theorem law_true (ns : List Int) (hz : ns.length ≤ 63) : ∃ fr st, f_law [.dat (scriptD ns)] [] = .ok ⟨fr, .dat (.bool true)⟩ st := by
  have fin : ∀ (st : Store) (n : Nat) (N M C : Int) (m c j : Nat), M = m → C = c → N = n → n ≤ c → m ≤ 5 → 1 ≤ m → c ≤ 12 → (∀ k, k ≤ c → (tot m k).1 ≤ 2000) → j < 1000 → (tot m j).1 ≤ 2000 → 2000 < (tot m (j + 1)).1 → (m ≠ 1 → 2000 < (tot m (c + 1)).1) →
      WpS (evSs b_law_4 [.val (.dat (scriptD ns)), .val (.loc 1), .val (.dat (.int M)), .val (.dat (.int C)), .val (.dat (.int N)), .un, .un, .un, .un, .un] st) ⟨fun _ st => Val.dat .none = Val.dat (.bool true), fun x _ => x.v = .dat (.bool true), noO, noO⟩ := by
    intro st n N M C m c j eM eC eN h1 h2 h3 h4 h5 h6 h7 h8 h9
    rw [eN, eM, eC]
    exact (law_from st m n j c (scriptD ns) 1 h5 h1 h2 h3 h4 h6 h7 h8 h9).mono (fun _ _ h => h.elim) (fun _ _ h => by rw [h]) (fun _ _ h => h) (fun _ _ h => h)
  refine law_of_wp (wp_fn rfl ?_)
  simp! [b_law]
  refine wp_cells hz fun st h => ?_
  simp! [b_law_1]
  refine wp_pick h (by decide) (by decide) fun d st h d0 d1 => ?_
  simp!
  have : d = 0 ∨ d = 1 ∨ d = 2 ∨ d = 3 ∨ d = 4 := by omega
  rcases this with e0 | e1 | e2 | e3 | e4
  · subst e0
    simp! [b_law_2, b_law_3]
    refine wp_pick h (by decide) (by decide) fun n st h n0 n1 => ?_
    simp!
    exact fin st n.toNat n 1 12 1 12 999 (by decide) (by decide) (by omega) (by omega) (by omega) (by omega) (by omega) (by decide +kernel) (by decide) (by decide +kernel) (by decide +kernel) (by intro h; exact absurd rfl h)
  · subst e1
    simp! [b_law_2, b_law_3]
    refine wp_pick h (by decide) (by decide) fun n st h n0 n1 => ?_
    simp!
    exact fin st n.toNat n 2 6 2 6 6 (by decide) (by decide) (by omega) (by omega) (by omega) (by omega) (by omega) (by decide +kernel) (by decide) (by decide +kernel) (by decide +kernel) (by intro _; decide +kernel)
  · subst e2
    simp! [b_law_2, b_law_3]
    refine wp_pick h (by decide) (by decide) fun n st h n0 n1 => ?_
    simp!
    exact fin st n.toNat n 3 4 3 4 4 (by decide) (by decide) (by omega) (by omega) (by omega) (by omega) (by omega) (by decide +kernel) (by decide) (by decide +kernel) (by decide +kernel) (by intro _; decide +kernel)
  · subst e3
    simp! [b_law_2, b_law_3]
    refine wp_pick h (by decide) (by decide) fun n st h n0 n1 => ?_
    simp!
    exact fin st n.toNat n 4 3 4 3 3 (by decide) (by decide) (by omega) (by omega) (by omega) (by omega) (by omega) (by decide +kernel) (by decide) (by decide +kernel) (by decide +kernel) (by intro _; decide +kernel)
  · subst e4
    simp! [b_law_2, b_law_3]
    refine wp_pick h (by decide) (by decide) fun n st h n0 n1 => ?_
    simp!
    exact fin st n.toNat n 5 3 5 3 3 (by decide) (by decide) (by omega) (by omega) (by omega) (by omega) (by omega) (by decide +kernel) (by decide) (by decide +kernel) (by decide +kernel) (by intro _; decide +kernel)
end
end MK
namespace MK
open PySem PySem.Spec PyProof.Rows L2 MP
def topS (i : Nat) : Stmt := PySem.Challenge.pw_ballmoves_k44_words_listed.main.body.getD i (.Pass ⟨0, 0, 0, 0⟩)
abbrev s__law_open_cells : Stmt := topS 9
abbrev s__law_pick : Stmt := topS 10
abbrev s_back_letter : Stmt := topS 5
abbrev s_words : Stmt := topS 7
abbrev s__law_listed : Stmt := topS 12
abbrev s_shortened : Stmt := topS 6
abbrev s_law : Stmt := topS 13
abbrev v__law_open_cells : List Str := ["_law_script", "_law_mixed", "_law_cell", "_law_cells"]
theorem t__law_open_cells : FnScope v__law_open_cells ["_law_script"] (defScope s__law_open_cells) := ⟨rfl, rfl, rfl, by decide +kernel, rfl, by decide +kernel, by decide +kernel⟩
theorem m__law_open_cells : mSs v__law_open_cells b__law_open_cells (defScope s__law_open_cells) (defBody s__law_open_cells) = true := by decide +kernel
abbrev v__law_pick : List Str := ["_law_source", "_law_most", "_law_cells", "_law_left", "_law_turn", "_law_mixed"]
theorem t__law_pick : FnScope v__law_pick ["_law_source", "_law_most"] (defScope s__law_pick) := ⟨rfl, rfl, rfl, by decide +kernel, rfl, by decide +kernel, by decide +kernel⟩
theorem m__law_pick : mSs v__law_pick b__law_pick (defScope s__law_pick) (defBody s__law_pick) = true := by decide +kernel
abbrev v_back_letter : List Str := ["letter"]
theorem t_back_letter : FnScope v_back_letter ["letter"] (defScope s_back_letter) := ⟨rfl, rfl, rfl, by decide +kernel, rfl, by decide +kernel, by decide +kernel⟩
theorem m_back_letter : mSs v_back_letter b_back_letter (defScope s_back_letter) (defBody s_back_letter) = true := by decide +kernel
theorem t_words : FnScope n_words ["many", "n"] (defScope s_words) := ⟨rfl, rfl, rfl, by decide +kernel, rfl, by decide +kernel, by decide +kernel⟩
theorem m_words : mSs n_words b_words (defScope s_words) (defBody s_words) = true := by decide +kernel
theorem t__law_listed : FnScope n__law_listed ["_law_many", "_law_n"] (defScope s__law_listed) := ⟨rfl, rfl, rfl, by decide +kernel, rfl, by decide +kernel, by decide +kernel⟩
theorem m__law_listed : mSs n__law_listed b__law_listed (defScope s__law_listed) (defBody s__law_listed) = true := by decide +kernel
abbrev v_shortened : List Str := ["word", "found", "letter"]
theorem t_shortened : FnScope v_shortened ["word"] (defScope s_shortened) := ⟨rfl, rfl, rfl, by decide +kernel, rfl, by decide +kernel, by decide +kernel⟩
theorem m_shortened : mSs v_shortened b_shortened (defScope s_shortened) (defBody s_shortened) = true := by decide +kernel
theorem t_law : FnScope n_law ["_law_script"] (defScope s_law) := ⟨rfl, rfl, rfl, by decide +kernel, rfl, by decide +kernel, by decide +kernel⟩
theorem m_law : mSs n_law b_law (defScope s_law) (defBody s_law) = true := by decide +kernel
abbrev s__law_error : Stmt := topS 11
abbrev n__law_error : List Str := ["_law_call"]
theorem t__law_error : FnScope n__law_error ["_law_call"] (defScope s__law_error) := ⟨rfl, rfl, rfl, by decide +kernel, rfl, by decide +kernel, by decide +kernel⟩
theorem m__law_error : (decide ((n__law_error : List Str)[0]? = some ("_law_call" : Str)) && isVis (defScope s__law_error) "_law_call" && okName "_law_call" && hkS hk__law_error "_law_call" n__law_error (defScope s__law_error) (defBody s__law_error)) = true := by decide +kernel
theorem all_mk {l : PySem.W.OpenLaw} {w : World} {K : PySem.W.Frag} {h : Heap} {mg : Str → Option Value} {fa : Addr} (X : K.In h) (G : h.Ns mainGlobals mg) (hfa : mg "law" = some (.ref fa))
    {p__law_open_cells : Addr} {u__law_open_cells w__law_open_cells : Option Addr} {sl__law_open_cells : Array (Option Value)} {oc__law_open_cells kV__law_open_cells dc__law_open_cells pm__law_open_cells cd__law_open_cells ct__law_open_cells : Value}
    {p__law_pick : Addr} {u__law_pick w__law_pick : Option Addr} {sl__law_pick : Array (Option Value)} {oc__law_pick kV__law_pick dc__law_pick pm__law_pick cd__law_pick ct__law_pick : Value}
    {p_back_letter : Addr} {u_back_letter w_back_letter : Option Addr} {sl_back_letter : Array (Option Value)} {oc_back_letter kV_back_letter dc_back_letter pm_back_letter cd_back_letter ct_back_letter : Value}
    {p_words : Addr} {u_words w_words : Option Addr} {sl_words : Array (Option Value)} {oc_words kV_words dc_words pm_words cd_words ct_words : Value}
    {p__law_listed : Addr} {u__law_listed w__law_listed : Option Addr} {sl__law_listed : Array (Option Value)} {oc__law_listed kV__law_listed dc__law_listed pm__law_listed cd__law_listed ct__law_listed : Value}
    {p_shortened : Addr} {u_shortened w_shortened : Option Addr} {sl_shortened : Array (Option Value)} {oc_shortened kV_shortened dc_shortened pm_shortened cd_shortened ct_shortened : Value}
    {p_law : Addr} {u_law w_law : Option Addr} {sl_law : Array (Option Value)} {oc_law kV_law dc_law pm_law ct_law : Value}
    {p__law_error : Addr} {u__law_error w__law_error : Option Addr} {sl__law_error : Array (Option Value)} {oc__law_error kV__law_error dc__law_error pm__law_error cd__law_error ct__law_error : Value}
    {cA_law pT_law : Addr} {vs_law : Array Value} {ec_law : Value} {dd_law : Option Addr} {sx_law : Array (Option Value)}
    {p_TooMany : Addr}
    {k_MOST_WORDS_0 : Tok}
    (a__law_open_cells : PySem.W.nsIn K mainGlobals "_law_open_cells" = some (some (.ref p__law_open_cells)))
    (l__law_open_cells : K.lookup p__law_open_cells = some ⟨oc__law_open_cells, u__law_open_cells, .func (PySem.W.fnOf "_law_open_cells" "_law_open_cells" (defArgs s__law_open_cells) (defBody s__law_open_cells) (defScope s__law_open_cells) .none kV__law_open_cells dc__law_open_cells pm__law_open_cells w__law_open_cells cd__law_open_cells ct__law_open_cells), sl__law_open_cells⟩)
    (c__law_open_cells : PySem.W.codeIn K cd__law_open_cells "_law_open_cells" = true)
    (k__law_open_cells : PySem.W.keepIn K (.ref p__law_open_cells) = true)
    (a__law_pick : PySem.W.nsIn K mainGlobals "_law_pick" = some (some (.ref p__law_pick)))
    (l__law_pick : K.lookup p__law_pick = some ⟨oc__law_pick, u__law_pick, .func (PySem.W.fnOf "_law_pick" "_law_pick" (defArgs s__law_pick) (defBody s__law_pick) (defScope s__law_pick) .none kV__law_pick dc__law_pick pm__law_pick w__law_pick cd__law_pick ct__law_pick), sl__law_pick⟩)
    (c__law_pick : PySem.W.codeIn K cd__law_pick "_law_pick" = true)
    (k__law_pick : PySem.W.keepIn K (.ref p__law_pick) = true)
    (a_back_letter : PySem.W.nsIn K mainGlobals "back_letter" = some (some (.ref p_back_letter)))
    (l_back_letter : K.lookup p_back_letter = some ⟨oc_back_letter, u_back_letter, .func (PySem.W.fnOf "back_letter" "back_letter" (defArgs s_back_letter) (defBody s_back_letter) (defScope s_back_letter) .none kV_back_letter dc_back_letter pm_back_letter w_back_letter cd_back_letter ct_back_letter), sl_back_letter⟩)
    (c_back_letter : PySem.W.codeIn K cd_back_letter "back_letter" = true)
    (k_back_letter : PySem.W.keepIn K (.ref p_back_letter) = true)
    (a_words : PySem.W.nsIn K mainGlobals "words" = some (some (.ref p_words)))
    (l_words : K.lookup p_words = some ⟨oc_words, u_words, .func (PySem.W.fnOf "words" "words" (defArgs s_words) (defBody s_words) (defScope s_words) .none kV_words dc_words pm_words w_words cd_words ct_words), sl_words⟩)
    (c_words : PySem.W.codeIn K cd_words "words" = true)
    (k_words : PySem.W.keepIn K (.ref p_words) = true)
    (a__law_listed : PySem.W.nsIn K mainGlobals "_law_listed" = some (some (.ref p__law_listed)))
    (l__law_listed : K.lookup p__law_listed = some ⟨oc__law_listed, u__law_listed, .func (PySem.W.fnOf "_law_listed" "_law_listed" (defArgs s__law_listed) (defBody s__law_listed) (defScope s__law_listed) .none kV__law_listed dc__law_listed pm__law_listed w__law_listed cd__law_listed ct__law_listed), sl__law_listed⟩)
    (c__law_listed : PySem.W.codeIn K cd__law_listed "_law_listed" = true)
    (k__law_listed : PySem.W.keepIn K (.ref p__law_listed) = true)
    (a_shortened : PySem.W.nsIn K mainGlobals "shortened" = some (some (.ref p_shortened)))
    (l_shortened : K.lookup p_shortened = some ⟨oc_shortened, u_shortened, .func (PySem.W.fnOf "shortened" "shortened" (defArgs s_shortened) (defBody s_shortened) (defScope s_shortened) .none kV_shortened dc_shortened pm_shortened w_shortened cd_shortened ct_shortened), sl_shortened⟩)
    (c_shortened : PySem.W.codeIn K cd_shortened "shortened" = true)
    (k_shortened : PySem.W.keepIn K (.ref p_shortened) = true)
    (a_law : PySem.W.nsIn K mainGlobals "law" = some (some (.ref p_law)))
    (l_law : K.lookup p_law = some ⟨oc_law, u_law, .func (PySem.W.fnOf "law" "law" (defArgs s_law) (defBody s_law) (defScope s_law) .none kV_law dc_law pm_law w_law (.ref cA_law) ct_law), sl_law⟩)
    (c_law : PySem.W.codeIn K (.ref cA_law) "law" = true)
    (k_law : PySem.W.keepIn K (.ref p_law) = true)
    (a__law_error : PySem.W.nsIn K mainGlobals "_law_error" = some (some (.ref p__law_error)))
    (l__law_error : K.lookup p__law_error = some ⟨oc__law_error, u__law_error, .func (PySem.W.fnOf "_law_error" "_law_error" (defArgs s__law_error) (defBody s__law_error) (defScope s__law_error) .none kV__law_error dc__law_error pm__law_error w__law_error cd__law_error ct__law_error), sl__law_error⟩)
    (c__law_error : PySem.W.codeIn K cd__law_error "_law_error" = true)
    (k__law_error : PySem.W.keepIn K (.ref p__law_error) = true)
    (lc_law : K.lookup cA_law = some ⟨ec_law, dd_law, .fields vs_law, sx_law⟩)
    (v_law : vs_law[11]? = some (.ref pT_law))
    (nt_law : K.lookup pT_law = none)
    (z_int : PySem.W.nsIn K mainGlobals "int" = some none)
    (z_abs : PySem.W.nsIn K mainGlobals "abs" = some none)
    (z_len : PySem.W.nsIn K mainGlobals "len" = some none)
    (z_range : PySem.W.nsIn K mainGlobals "range" = some none)
    (z_tuple : PySem.W.nsIn K mainGlobals "tuple" = some none)
    (z_any : PySem.W.nsIn K mainGlobals "any" = some none)
    (a_TooMany : PySem.W.nsIn K mainGlobals "TooMany" = some (some (.ref p_TooMany)))
    (x_TooMany : Ex0 l.prog K p_TooMany)
    (y_TooMany : PySem.W.exmOne K (.ref p_TooMany) (.ref p_TooMany) = some true)
    (a_MOST_WORDS : PySem.W.nsIn K mainGlobals "MOST_WORDS" = some (some (.int (2000) k_MOST_WORDS_0))) :
    (∃ (oc : Value) (od : Option Addr) (fd : FuncData) (osl : Array (Option Value)) (c Pt : Addr) (e : Value) (dd : Option Addr) (us : Array Value) (sl : Array (Option Value)), K.lookup fa = some ⟨oc, od, .func fd, osl⟩ ∧ fd.code = .ref c ∧ K.lookup c = some ⟨e, dd, .fields us, sl⟩ ∧ us[11]? = some (.ref Pt) ∧ K.lookup Pt = none) ∧ ∃ fd : FuncData, (∀ (s : Shared) (v : Value), BindsTo s fd ⟨[v], []⟩ [("_law_script", v)]) ∧ ∀ base : Heap, K.In base → base.Ns mainGlobals mg → (∃ m, base.Ns sysModules m) → FnG l.prog w K mg base 5 fa fd ["_law_script"] (spOf K mg base 1 f_law) := by
  have e := hfa.symm.trans (PySem.W.mg_of X G a_law)
  cases e
  refine ⟨⟨_, _, _, _, _, _, _, _, _, _, l_law, rfl, lc_law, v_law, nt_law⟩, PySem.W.fnOf "law" "law" (defArgs s_law) (defBody s_law) (defScope s_law) .none kV_law dc_law pm_law w_law (.ref cA_law) ct_law, fun s v => .of_eq rfl, fun base X2 G2 S2 => ?_⟩
  have G__law_error := hfn_in (mg := mg) (k := hk__law_error) X G (st := s__law_error) a__law_error l__law_error c__law_error k__law_error t__law_error (fun _ _ _ _ _ _ us hl => match us, hl with | [_], _ => rfl) m__law_error ⟨p_TooMany, PySem.W.mg_of X G a_TooMany, y_TooMany⟩
  have C_MOST_WORDS : GlobCst K mg "MOST_WORDS" (.int 2000) := cst_of X G a_MOST_WORDS (.int _)
  have G__law_open_cells : GlobFn l.prog w K mg base 1 "_law_open_cells" f__law_open_cells := globFn_in X G S2 (st := s__law_open_cells) a__law_open_cells l__law_open_cells c__law_open_cells k__law_open_cells t__law_open_cells (fun _ _ _ _ _ _ us hl => match us, hl with | [_], _ => rfl) m__law_open_cells (reqs_of (l := r__law_open_cells) (lv := 0) _ q__law_open_cells (by decide +kernel) (show ReqsOk _ _ _ _ _ _ r__law_open_cells from ⟨PySem.W.mg_none_of X G z_int, PySem.W.mg_none_of X G z_abs, trivial⟩))
  have G__law_pick : GlobFn l.prog w K mg base 1 "_law_pick" f__law_pick := globFn_in X G S2 (st := s__law_pick) a__law_pick l__law_pick c__law_pick k__law_pick t__law_pick (fun _ _ _ _ _ _ us hl => match us, hl with | [_, _], _ => rfl) m__law_pick (reqs_of (l := r__law_pick) (lv := 0) _ q__law_pick (by decide +kernel) (show ReqsOk _ _ _ _ _ _ r__law_pick from ⟨PySem.W.mg_none_of X G z_len, PySem.W.mg_none_of X G z_int, trivial⟩))
  have G_back_letter : GlobFn l.prog w K mg base 1 "back_letter" f_back_letter := globFn_in X G S2 (st := s_back_letter) a_back_letter l_back_letter c_back_letter k_back_letter t_back_letter (fun _ _ _ _ _ _ us hl => match us, hl with | [_], _ => rfl) m_back_letter (reqs_of (l := r_back_letter) (lv := 0) _ q_back_letter (by decide +kernel) (show ReqsOk _ _ _ _ _ _ r_back_letter from trivial))
  have G_words : GlobFn l.prog w K mg base 2 "words" f_words := globFn_in X G S2 (st := s_words) a_words l_words c_words k_words t_words (fun _ _ _ _ _ _ us hl => match us, hl with | [_, _], _ => rfl) m_words (reqs_of (l := r_words) (lv := 1) _ q_words (by decide +kernel) (show ReqsOk _ _ _ _ _ _ r_words from ⟨PySem.W.mg_none_of X G z_range, G_back_letter, PySem.W.mg_none_of X G z_len, C_MOST_WORDS, ⟨by decide, p_TooMany, PySem.W.mg_of X G a_TooMany, x_TooMany, y_TooMany⟩, trivial⟩))
  have G__law_listed : GlobFn l.prog w K mg base 1 "_law_listed" f__law_listed := globFn_in X G S2 (st := s__law_listed) a__law_listed l__law_listed c__law_listed k__law_listed t__law_listed (fun _ _ _ _ _ _ us hl => match us, hl with | [_, _], _ => rfl) m__law_listed (reqs_of (l := r__law_listed) (lv := 0) _ q__law_listed (by decide +kernel) (show ReqsOk _ _ _ _ _ _ r__law_listed from ⟨PySem.W.mg_none_of X G z_range, trivial⟩))
  have G_shortened : GlobFn l.prog w K mg base 2 "shortened" f_shortened := globFn_in X G S2 (st := s_shortened) a_shortened l_shortened c_shortened k_shortened t_shortened (fun _ _ _ _ _ _ us hl => match us, hl with | [_], _ => rfl) m_shortened (reqs_of (l := r_shortened) (lv := 1) _ q_shortened (by decide +kernel) (show ReqsOk _ _ _ _ _ _ r_shortened from ⟨G_back_letter, PySem.W.mg_none_of X G z_tuple, trivial⟩))
  exact fnG_of S2 (fun_mk (st := s_law) l_law c_law k_law) t_law m_law (reqs_of (l := r_law) (lv := 4) _ q_law (by decide +kernel) (show ReqsOk _ _ _ _ _ _ r_law from ⟨G__law_open_cells.up (by decide), G__law_pick.up (by decide), G_words.up (by decide), G__law_listed.up (by decide), PySem.W.mg_none_of X G z_any, G_shortened.up (by decide), PySem.W.mg_none_of X G z_range, PySem.W.mg_none_of X G z_len, trivial, ⟨by decide, G__law_error⟩, ⟨by decide, fun h => (by cases h), G_words⟩, trivial⟩)) (fun _ => PySem.W.mg_of X G a_law)
end MK
open PySem PySem.W PyProof.Rows
set_option maxHeartbeats 0 in
theorem PySem.Challenge.cw_ballmoves_k44_words_listed_holds : PySem.Challenge.rw_ballmoves_k44_words_listed.Holds := by
  w_on; o_law; k_head; (case hw => w_witness2)
  k_fill
  refine MP.walk_ofG (l := PySem.Challenge.rw_ballmoves_k44_words_listed) (n := 63) (k := 5) (x := "_law_script") (sem := MK.f_law) rfl (by decide) rfl ⟨rfl, by decide, by decide⟩ (by decide +kernel) (by decide +kernel) rfl (fun w h Y => by first | exact PySem.W.kIn_of Y | exact PySem.W.km_in_of Y) ?F MK.law_true
  case F =>
    intro w mg fa h KX G hmg
    refine' MK.all_mk KX G hmg ?a__law_open_cells ?l__law_open_cells ?c__law_open_cells ?k__law_open_cells ?a__law_pick ?l__law_pick ?c__law_pick ?k__law_pick ?a_back_letter ?l_back_letter ?c_back_letter ?k_back_letter ?a_words ?l_words ?c_words ?k_words ?a__law_listed ?l__law_listed ?c__law_listed ?k__law_listed ?a_shortened ?l_shortened ?c_shortened ?k_shortened ?a_law ?l_law ?c_law ?k_law ?a__law_error ?l__law_error ?c__law_error ?k__law_error ?lc_law ?v_law ?nt_law ?z_int ?z_abs ?z_len ?z_range ?z_tuple ?z_any ?a_TooMany ?x_TooMany ?y_TooMany ?a_MOST_WORDS
    (case a__law_open_cells => k_is)
    (case l__law_open_cells => k_is)
    (case c__law_open_cells => k_is)
    (case k__law_open_cells => k_is)
    (case a__law_pick => k_is)
    (case l__law_pick => k_is)
    (case c__law_pick => k_is)
    (case k__law_pick => k_is)
    (case a_back_letter => k_is)
    (case l_back_letter => k_is)
    (case c_back_letter => k_is)
    (case k_back_letter => k_is)
    (case a_words => k_is)
    (case l_words => k_is)
    (case c_words => k_is)
    (case k_words => k_is)
    (case a__law_listed => k_is)
    (case l__law_listed => k_is)
    (case c__law_listed => k_is)
    (case k__law_listed => k_is)
    (case a_shortened => k_is)
    (case l_shortened => k_is)
    (case c_shortened => k_is)
    (case k_shortened => k_is)
    (case a_law => k_is)
    (case l_law => k_is)
    (case c_law => k_is)
    (case k_law => k_is)
    (case a__law_error => k_is)
    (case l__law_error => k_is)
    (case c__law_error => k_is)
    (case k__law_error => k_is)
    (case lc_law => k_is)
    (case v_law => rfl)
    (case nt_law => first | k_is | rfl | decide +kernel)
    (case z_int => k_is)
    (case z_abs => k_is)
    (case z_len => k_is)
    (case z_range => k_is)
    (case z_tuple => k_is)
    (case z_any => k_is)
    (case a_TooMany => k_is)
    (case x_TooMany => (refine' MP.ex0_of ?xL ?rf ?e1 ?e2 ?ty ?kC ?su ?ns ?na ?ht ?fi ?tI ?lf ?cf ?lc ?v2 ?fl ?lx ?b1 ?bn; (case xL => k_is); (case e1 => k_is); (case e2 => k_is); (case ty => k_is); (case kC => k_is); (case su => ks_is); (case ns => k_is); (case na => k_is); (case fi => k_is); (case tI => k_is); (case lf => k_is); (case cf => k_is); (case lc => k_is); (case lx => k_is); (case rf => decide +kernel); (case ht => decide +kernel); (case v2 => rfl); (case fl => decide +kernel); (case b1 => decide +kernel); (case bn => exact fun _ _ => .of_eq rfl)))
    (case y_TooMany => (refine' PySem.W.exm_ref ?m1 ?m2 ?m3 ?m4; (case m1 => k_is); (case m2 => k_is); (case m3 => k_is); (case m4 => first | rfl | k_is)))
    (case a_MOST_WORDS => k_is)
