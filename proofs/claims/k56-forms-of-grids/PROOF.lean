import PyProof.Rows.All
import Wide.All
import OpenK.AllK
import Wide.FinOn
import HandS.ForMost
import HandS.Exc
import HandS.Deep
import HandS.TupAny
import HandS.Gcd
import HandS.Wide
import HandS.TupMul
import HandS.IsInst
import HandS.TupLe
import HandS.Flt
import HandS.SortInts
import HandS.Conv
import HandS.Style
import HandS.Zip
import KE.KExcSuper
import HandS.ExcInit
import HandS.TryOnly
import KE.RegKSuper
import HandS.ExcIs
import KE.GoesEnum
import KE.GoesMore
import HandS.Iter
import KE.KStar
import HandS.ExcOwn
import KE.KRevSl
import HandS.More
import HandS.SetFor
import HandS.Words
import HandS.HeadEnd
import PyProof.ReprLen
import PySem.Challenge.RW_ballmoves_k56_forms_of_grids
set_option Elab.async false
set_option linter.all false
set_option maxRecDepth 100000
set_option maxHeartbeats 8000000
/-! A small language of values: its form and what it reckons. -/
namespace MP
open PySem
abbrev D := PyData
inductive Val where
  | dat (d : D)
  | loc (n : Nat)
inductive Cell where
  | lst (xs : List D)
  | dic (kvs : List (Str × Val))
abbrev Store := List Cell
/-- a value, and whether it is a list or dict that nobody else has -/
structure RV where
  fr : Bool
  v : Val
inductive R (α : Type) where
  | ok (a : α) (st : Store)
  | exc (c : Str) (ds : List (Str × D)) (st : Store)
  | no
def R.bind {α β : Type} (x : R α) (f : α → Store → R β) : R β := match x with
  | .ok a st => f a st
  | .exc c ds st => .exc c ds st
  | .no => .no
inductive Slot where
  | un
  | val (v : Val)
  | own (d : D)
abbrev Env := List Slot
abbrev Fn := List Val → Store → R RV
/-! ### by values -/
inductive Op2 where
  | add | sub | mul | fdiv | mod | pow
  deriving DecidableEq
inductive Cp where
  | eq | ne | lt | le | gt | ge | isIn | notIn | is | isNot
  deriving DecidableEq
def mulOk (i j : Int) : Bool := decide (i.natAbs < 2 ^ 64) || decide (j.natAbs < 2 ^ 64) || decide (i.natAbs.log2 + j.natAbs.log2 < 1000000)
def divOk (j : Int) : Bool := decide (j ≠ 0) && decide (j.natAbs.log2 < 9000)
def powOk (i j : Int) : Bool := decide (0 ≤ j) && decide (j ≤ 1000000) && decide (i.natAbs < 2 ^ 64)
def fits (n : Nat) : Bool := decide (n ≤ sizeLine)
def fitsS (n : Nat) : Bool := decide (n < sizeLine)
def repOk (xs : List D) (k : Int) : Bool := !xs.isEmpty && decide (2 ≤ k) && decide (k ≤ 1000) && decide (xs.length ≤ 1000)
def rep1 (xs : List D) (k : Int) : Bool := (xs.isEmpty || decide (k = 1)) && decide (k.natAbs < 2 ^ 62)
def bin : Op2 → D → D → Option (Bool × D)
  | .add, .int i, .int j => some (false, .int (i + j))
  | .add, .str x, .str y => bif fits (x.length + y.length) then some (false, .str (x ++ y)) else none
  | .add, .list xs, .list ys => bif fits (xs.length + ys.length) then some (true, .list (xs ++ ys)) else none
  | .add, .tuple xs, .tuple ys => bif fits (xs.length + ys.length) then some (false, .tuple (xs ++ ys)) else none
  | .sub, .int i, .int j => some (false, .int (i - j))
  | .mul, .int i, .int j => bif mulOk i j then some (false, .int (i * j)) else none
  | .mul, .tuple xs, .int k => bif repOk xs k then some (false, .tuple (List.replicate k.toNat xs).flatten) else bif rep1 xs k then some (false, .tuple xs) else none
  | .mul, .list xs, .int k => bif repOk xs k then some (true, .list (List.replicate k.toNat xs).flatten) else none
  | .fdiv, .int i, .int j => bif divOk j then some (false, .int (i.fdiv j)) else none
  | .mod, .int i, .int j => bif decide (j ≠ 0) then some (false, .int (i.fmod j)) else none
  | .pow, .int i, .int j => bif powOk i j then some (false, .int (i ^ j.toNat)) else none
  | _, _, _ => none
def shp (x : D) : Bool := SeqAt.shaped x
def isNone : D → Bool
  | .none => true
  | _ => false
def eqD (x y : D) : Option Bool := match x, y with
  | .str a, .str b => some (decide (a = b))
  | .list xs, .list ys => bif decide (xs.length = ys.length) then (bif shp (.list xs) && shp (.list ys) then some (PyData.eqv (.list xs) (.list ys)) else none) else some false
  | x, y => bif shp x && shp y then some (PyData.eqv x y) else none
def cmpD : Cp → D → D → Option Bool
  | .eq, x, y => eqD x y
  | .ne, x, y => (eqD x y).map not
  | .lt, .int i, .int j => some (decide (i < j))
  | .le, .int i, .int j => some (decide (i ≤ j))
  | .gt, .int i, .int j => some (decide (j < i))
  | .ge, .int i, .int j => some (decide (j ≤ i))
  | .isIn, x, .list ys => bif shp x && shp (.list ys) then some (ys.any fun z => PyData.eqv z x) else none
  | .notIn, x, .list ys => bif shp x && shp (.list ys) then some (!ys.any fun z => PyData.eqv z x) else none
  | .isIn, x, .tuple ys => bif shp x && shp (.tuple ys) then some (ys.any fun z => PyData.eqv z x) else none
  | .notIn, x, .tuple ys => bif shp x && shp (.tuple ys) then some (!ys.any fun z => PyData.eqv z x) else none
  | .is, x, .none => some (isNone x)
  | .isNot, x, .none => some (!isNone x)
  | .is, .bool a, .bool b => some (decide (a = b))
  | .isNot, .bool a, .bool b => some (!decide (a = b))
  | _, _, _ => none
/-- an item, by a place that may count from the end -/
def ixD (xs : List D) (k : Int) : Option D := L2.atI xs k
def cutD (xs : List D) (lo hi : Option Int) : List D := (xs.drop (HT.sIx xs.length 0 lo)).take (HT.sIx xs.length xs.length hi - HT.sIx xs.length 0 lo)
inductive Blt where
  | len | abs | int | tuple | list | sum | min | max | any | all | repr | gcd | sorted | str
  deriving DecidableEq
def Blt.name : Blt → Str
  | .len => "len" | .abs => "abs" | .int => "int" | .tuple => "tuple" | .list => "list" | .sum => "sum" | .min => "min" | .max => "max" | .any => "any" | .all => "all"
  | .repr => "repr" | .gcd => "gcd" | .sorted => "sorted" | .str => "str"
def seqOf : D → Option (List D)
  | .list xs => some xs
  | .tuple xs => some xs
  | _ => none
def listOf : D → Option (List D)
  | .list xs => some xs
  | _ => none
def enumL : Nat → List D → List D
  | _, [] => []
  | n, x :: xs => .tuple [.int (n : Nat), x] :: enumL (n + 1) xs
def zipL : List D → List D → List D
  | x :: xs, y :: ys => .tuple [x, y] :: zipL xs ys
  | _, _ => []
def zipD : D → D → Option (List D)
  | .list xs, .list ys => some (zipL xs ys)
  | .tuple xs, .tuple ys => some (zipL xs ys)
  | _, _ => none
def intsOf : List D → Option (List Int)
  | [] => some []
  | .int i :: r => (intsOf r).map (i :: ·)
  | _ :: _ => none
/-- a dict by whole numbers -/
def dGetI : List (D × D) → Int → Option D
  | [], _ => none
  | (.int j, v) :: r, k => bif decide (j = k) then some v else dGetI r k
  | _ :: r, k => dGetI r k
def isKeyI (k : Int) : D → Bool
  | .int j => decide (j = k)
  | _ => false
def dPutI (kvs : List (D × D)) (k : Int) (v : D) : List (D × D) :=
  bif (dGetI kvs k).isSome then kvs.map (fun p => bif isKeyI k p.1 then (p.1, v) else p) else kvs ++ [(.int k, v)]
def dKeysI : List (D × D) → Option (List Int)
  | [] => some []
  | (.int j, _) :: r => (dKeysI r).map (j :: ·)
  | _ :: _ => none
def boolsOf : List D → Option (List Bool)
  | [] => some []
  | .bool i :: r => (boolsOf r).map (i :: ·)
  | _ :: _ => none
def minI : Int → List Int → Int
  | a, [] => a
  | a, b :: r => minI (if b < a then b else a) r
def maxI : Int → List Int → Int
  | a, [] => a
  | a, b :: r => maxI (if a < b then b else a) r
mutual
/-- no list, and no dict but empty ones -/
def dOk : D → Bool
  | .list _ => false
  | .tuple xs => dOks xs
  | .dict kvs => kvs.isEmpty
  | _ => true
def dOks : List D → Bool
  | [] => true
  | x :: xs => dOk x && dOks xs
end
def showOk (d : D) : Bool := decide (d.depth ≤ 100) && fits d.shown.length && d.showable && (!d.hasDict || dOk d)
def bltF : Blt → List D → Option (Bool × D)
  | .len, [.list xs] => some (false, .int xs.length)
  | .len, [.tuple xs] => some (false, .int xs.length)
  | .len, [.str x] => bif fits x.length then some (false, .int x.length) else none
  | .abs, [.int i] => some (false, .int i.natAbs)
  | .int, [.int i] => some (false, .int i)
  | .int, [.bool b] => some (false, .int (if b then 1 else 0))
  | .tuple, [.list xs] => some (false, .tuple xs)
  | .tuple, [.tuple xs] => some (false, .tuple xs)
  | .list, [.list xs] => some (true, .list xs)
  | .list, [.tuple xs] => some (true, .list xs)
  | .gcd, [.int i, .int j] => some (false, .int (Nat.gcd i.natAbs j.natAbs : Nat))
  | .gcd, [.int i, .int j, .int k, .int l] => some (false, .int (Nat.gcd (Nat.gcd (Nat.gcd i.natAbs j.natAbs) k.natAbs) l.natAbs : Nat))
  | .str, [.int i] => bif decide (i.natAbs.log2 < 1920) then some (false, .str (toString i)) else none
  | .repr, [d] => bif showOk d then some (false, .str d.shown) else none
  | .min, [.int i, .int j] => some (false, .int (if j < i then j else i))
  | .max, [.int i, .int j] => some (false, .int (if i < j then j else i))
  | .min, [.int i, .int j, .int k] => some (false, .int (if k < (if j < i then j else i) then k else (if j < i then j else i)))
  | .max, [.int i, .int j, .int k] => some (false, .int (if (if i < j then j else i) < k then k else (if i < j then j else i)))
  | .min, [.list xs] => (match intsOf xs with | some (a :: r) => some (false, .int (minI a r)) | _ => none)
  | .max, [.list xs] => (match intsOf xs with | some (a :: r) => some (false, .int (maxI a r)) | _ => none)
  | .sum, [.list xs] => (intsOf xs).map fun is => (false, .int is.sum)
  | .sorted, [.list xs] => (intsOf xs).map fun is => (true, .list ((is.mergeSort fun a b => decide (a ≤ b)).map PyData.int))
  | .all, [.list xs] => (boolsOf xs).map fun bs => (false, .bool (bs.all id))
  | .any, [.list xs] => (boolsOf xs).map fun bs => (false, .bool (bs.any id))
  | _, _ => none
/-- isinstance by the names of built-in types -/
def isA : D → String → Bool
  | .none, _ => false
  | .bool _, t => t == "bool" || t == "int"
  | .int _, t => t == "int"
  | .str _, t => t == "str"
  | .list _, t => t == "list"
  | .tuple _, t => t == "tuple"
  | .dict _, t => t == "dict"
/-! ### form -/
inductive Lit where
  | none | bool (b : Bool) | int (i : Int) | str (s : Str)
def Lit.d : Lit → D
  | .none => .none
  | .bool b => .bool b
  | .int i => .int i
  | .str s => .str s
mutual
inductive Tg where
  | nm (i : Nat)
  | tup (ts : Tgs)
inductive Tgs where
  | nil
  | cons (t : Tg) (ts : Tgs)
end
mutual
inductive Ex where
  | var (i : Nat)
  | cst (c : Lit)
  | glob (x : Str) (d : D)
  | neg (a : Ex)
  | not (a : Ex)
  | bin (o : Op2) (a b : Ex)
  | cmp (o : Cp) (a b : Ex)
  | chain (o1 o2 : Cp) (a b c : Ex)
  | and (a b : Ex)
  | or (a b : Ex)
  | ite (c a b : Ex)
  | tup (es : Exs)
  | lst (es : Exs)
  | ix (a b : Ex)
  | slice (a : Ex) (lo hi : Opt)
  | rev (a : Ex)
  | call (f : Str) (sem : Fn) (es : Exs)
  | blt (f : Blt) (es : Exs)
  | isi (a : Ex) (ts : List String)
  | comp (elt : Ex) (own : List (Str × Nat)) (tg : Tg) (it : It) (ifs : Opt)
  | comp2 (elt : Ex) (own : List (Str × Nat)) (tg : Tg) (it : It) (ifs : Opt) (own1 : List (Str × Nat)) (tg1 : Tg) (it1 : It) (ifs1 : Opt)
  | dicl (ks : List Str) (es : Exs)
  | dic0
  | toloc (a : Ex)
  | popl (a : Ex)
  | popi (a k : Ex)
  | cntL (a k : Ex)
  | lrng1 (a : Ex)
  | lrng2 (a b : Ex)
  | get2 (a x b y d : Int) (k : Ex)
  | dicn
  | dhas (neg : Bool) (k : Ex) (i : Nat)
  | dget (i : Nat) (k : Ex)
  | dsort (i : Nat)
  | dixl (kvs : List (Int × Int)) (k : Ex)
  | revc (a : Ex)
  | lenl (a : Ex)
inductive Exs where
  | nil
  | cons (e : Ex) (es : Exs)
  | star (e : Ex) (es : Exs)
inductive Opt where
  | non
  | som (e : Ex)
inductive It where
  | seq (e : Ex)
  | rng1 (a : Ex)
  | rng2 (a b : Ex)
  | rng3 (a b c : Ex)
  | enum (e : Ex)
  | zip (a b : Ex)
end
/-! ### what expressions come to -/
def Slot.set (env : Env) (i : Nat) (s : Slot) : Env := List.set env i s
mutual
def bindTg : Tg → D → Env → Option Env
  | .nm i, d, env => some (List.set env i (.val (.dat d)))
  | .tup ts, d, env => match d with
    | .tuple ds => bindTgs ts ds env
    | .list ds => bindTgs ts ds env
    | _ => none
def bindTgs : Tgs → List D → Env → Option Env
  | .nil, ds, env => match ds with
    | [] => some env
    | _ :: _ => none
  | .cons t ts, ds, env => match ds with
    | [] => none
    | d :: r => match bindTg t d env with
      | some env' => bindTgs ts r env'
      | none => none
end
def wipeE : Env → List Nat → Env
  | env, [] => env
  | env, v :: vs => List.set (wipeE env vs) v .un
def rOpt {α : Type} (x : Option α) (st : Store) : R α := match x with
  | some a => .ok a st
  | none => .no
/-- the data of a value -/
def datOf (x : RV) (st : Store) : R D := match x.v with
  | .dat d => .ok d st
  | .loc _ => .no
def fresh (d : D) : RV := ⟨true, .dat d⟩
def plain (d : D) : RV := ⟨false, .dat d⟩
def ofBD (x : Option (Bool × D)) (st : Store) : R RV := match x with
  | some (b, d) => .ok ⟨b, .dat d⟩ st
  | none => .no
def ofB (x : Option Bool) (st : Store) : R RV := match x with
  | some b => .ok (plain (.bool b)) st
  | none => .no
def boolOf (x : RV) (st : Store) : R Bool := match x.v with
  | .dat (.bool b) => .ok b st
  | _ => .no
def intOf (x : RV) (st : Store) : R Int := match x.v with
  | .dat (.int i) => .ok i st
  | _ => .no
def compL (f : D → Store → R (Option D)) : List D → List D → Store → R (List D)
  | [], acc, st => .ok acc st
  | d :: r, acc, st => match f d st with
    | .ok (some y) st1 => bif fitsS acc.length then compL f r (acc ++ [y]) st1 else .no
    | .ok none st1 => compL f r acc st1
    | _ => .no
def compL2 (f : D → List D → Store → R (List D)) : List D → List D → Store → R (List D)
  | [], acc, st => .ok acc st
  | d :: r, acc, st => match f d acc st with
    | .ok acc' st1 => compL2 f r acc' st1
    | _ => .no
def rangeUp (i j : Int) : List D := (List.range (j - i).toNat).map fun (k : Nat) => .int (i + k)
def rangeDn (i j : Int) : List D := (List.range (i - j).toNat).map fun (k : Nat) => .int (i + k * (-1))
def rngOk (i : Int) : Bool := decide (-(2 ^ 62) ≤ i) && decide (i < 2 ^ 62)
def rgB (i j : Int) : Bool := rngOk i && rngOk j && decide ((j - i).toNat ≤ 2 ^ 24)
def ixV (x : RV) (k : RV) (st : Store) : R RV := match x.v, k.v with
  | .dat (.list xs), .dat (.int k) => (match ixD xs k with | some d => .ok (plain d) st | none => .no)
  | .dat (.tuple xs), .dat (.int k) => (match ixD xs k with | some d => .ok (plain d) st | none => .no)
  | .loc n, .dat (.str s) => (match st[n]? with
    | some (.dic kvs) => (match kvs.lookup s with | some v => .ok ⟨false, v⟩ st | none => .no)
    | _ => .no)
  | _, _ => .no
def sliceD (d : D) (lo hi : Option Int) : Option (Bool × D) := match d with
  | .list xs => some (true, .list (cutD xs lo hi))
  | .tuple xs => some (false, .tuple (cutD xs lo hi))
  | _ => none
def revD : D → Option (Bool × D)
  | .list xs => some (true, .list xs.reverse)
  | .tuple xs => some (false, .tuple xs.reverse)
  | _ => none
/-- from the last one to the second one -/
def revcD : D → Option (Bool × D)
  | .tuple (_ :: xs) => some (false, .tuple xs.reverse)
  | _ => none
def lenL (x : RV) (st : Store) : Option Int := match x.v with
  | .loc n => (match st[n]? with | some (.lst xs) => some (xs.length : Int) | _ => none)
  | _ => none
mutual
/-- pk: the value is only looked at; an owned list may be told then -/
def evE : Ex → Bool → Env → Store → R RV
  | .var i, pk, env, st => match env[i]? with
    | some (.val v) => .ok ⟨false, v⟩ st
    | some (.own d) => bif pk then .ok (plain d) st else .no
    | _ => .no
  | .cst c, _, _, st => .ok (plain c.d) st
  | .glob _ d, _, _, st => .ok (plain d) st
  | .neg a, _, env, st => (evE a true env st).bind fun x st => (intOf x st).bind fun i st => .ok (plain (.int (-i))) st
  | .not a, _, env, st => (evE a true env st).bind fun x st => (boolOf x st).bind fun b st => .ok (plain (.bool (!b))) st
  | .bin o a b, _, env, st => (evE a true env st).bind fun x st => (datOf x st).bind fun x st => (evE b true env st).bind fun y st => (datOf y st).bind fun y st => ofBD (bin o x y) st
  | .cmp o a b, _, env, st => (evE a true env st).bind fun x st => (datOf x st).bind fun x st => (evE b true env st).bind fun y st => (datOf y st).bind fun y st => ofB (cmpD o x y) st
  | .chain o1 o2 a b c, _, env, st => (evE a true env st).bind fun x st => (datOf x st).bind fun x st => (evE b true env st).bind fun y st => (datOf y st).bind fun y st =>
      (rOpt (cmpD o1 x y) st).bind fun k st => bif k then (evE c true env st).bind fun z st => (datOf z st).bind fun z st => ofB (cmpD o2 y z) st else .ok (plain (.bool false)) st
  | .and a b, _, env, st => (evE a true env st).bind fun x st => (boolOf x st).bind fun k st => bif k then (evE b true env st).bind fun y st => (boolOf y st).bind fun k st => .ok (plain (.bool k)) st else .ok (plain (.bool false)) st
  | .or a b, _, env, st => (evE a true env st).bind fun x st => (boolOf x st).bind fun k st => bif k then .ok (plain (.bool true)) st else (evE b true env st).bind fun y st => (boolOf y st).bind fun k st => .ok (plain (.bool k)) st
  | .ite c a b, pk, env, st => (evE c true env st).bind fun x st => (boolOf x st).bind fun k st => bif k then evE a pk env st else evE b pk env st
  | .tup es, _, env, st => (evA es env st).bind fun ds st => bif fits ds.length then .ok (plain (.tuple ds)) st else .no
  | .lst es, _, env, st => (evA es env st).bind fun ds st => bif fits ds.length then .ok (fresh (.list ds)) st else .no
  | .ix a b, _, env, st => (evE a true env st).bind fun x st => (evE b true env st).bind fun y st => ixV x y st
  | .slice a lo hi, _, env, st => (evE a true env st).bind fun x st => (datOf x st).bind fun x st => (evO lo env st).bind fun l st => (evO hi env st).bind fun h st => ofBD (sliceD x l h) st
  | .rev a, _, env, st => (evE a true env st).bind fun x st => (datOf x st).bind fun x st => ofBD (revD x) st
  | .call _ sem es, _, env, st => (evV es env st).bind fun vs st => sem vs st
  | .blt f es, _, env, st => (evP es env st).bind fun ds st => ofBD (bltF f ds) st
  | .isi a ts, _, env, st => (evE a true env st).bind fun x st => (datOf x st).bind fun x st => .ok (plain (.bool (ts.any (isA x)))) st
  | .comp elt own tg it ifs, _, env, st => (evI it env st).bind fun items st =>
      (compL (fun d st => match bindTg tg d (wipeE env (own.map (·.2))) with
        | none => .no
        | some env' => (evC ifs env' st).bind fun k st => bif k then (evE elt false env' st).bind fun y st => (datOf y st).bind fun y st => .ok (some y) st else .ok none st) items [] st).bind fun ys st => .ok (fresh (.list ys)) st
  | .comp2 elt own tg it ifs own1 tg1 it1 ifs1, _, env, st => (evI it env st).bind fun items st =>
      (compL2 (fun d acc st => match bindTg tg d (wipeE env (own.map (·.2))) with
        | none => .no
        | some env1 => (evC ifs env1 st).bind fun k st => bif k then (evI it1 env1 st).bind fun items1 st =>
            compL (fun d st => match bindTg tg1 d (wipeE env1 (own1.map (·.2))) with
              | none => .no
              | some env' => (evC ifs1 env' st).bind fun k st => bif k then (evE elt false env' st).bind fun y st => (datOf y st).bind fun y st => .ok (some y) st else .ok none st) items1 acc st
          else .ok acc st) items [] st).bind fun ys st => .ok (fresh (.list ys)) st
  | .dicl ks es, _, env, st => (evV es env st).bind fun vs st => bif decide (vs.length = ks.length) then .ok ⟨false, .loc st.length⟩ (st ++ [.dic (ks.zip vs)]) else .no
  | .dic0, _, _, st => .ok (plain (.dict [])) st
  | .toloc a, _, env, st => (evE a false env st).bind fun x st => match x with
    | ⟨true, .dat (.list xs)⟩ => .ok ⟨false, .loc st.length⟩ (st ++ [.lst xs])
    | _ => .no
  | .popl a, _, env, st => (evE a false env st).bind fun x st => match x.v with
    | .loc n => (match st[n]? with
      | some (.lst xs) => (match xs.getLast? with
        | some d => .ok (plain d) (st.set n (.lst xs.dropLast))
        | none => .no)
      | _ => .no)
    | _ => .no
  | .dicn, _, _, st => .ok (fresh (.dict [])) st
  | .dhas neg k i, _, env, st => (evE k true env st).bind fun z st => (intOf z st).bind fun n st => (match env[i]? with
    | some (.own (.dict kvs)) => .ok (plain (.bool (bif neg then !(dGetI kvs n).isSome else (dGetI kvs n).isSome))) st
    | _ => .no)
  | .dget i k, _, env, st => (match env[i]? with
    | some (.own (.dict kvs)) => (evE k true env st).bind fun z st => (intOf z st).bind fun n st => (match dGetI kvs n with
      | some d => .ok (plain d) st
      | none => .no)
    | _ => .no)
  | .dsort i, _, env, st => (match env[i]? with
    | some (.own (.dict kvs)) => (match dKeysI kvs with
      | some ks => bif decide (ks.length < 64) then .ok (fresh (.list ((ks.mergeSort fun a b => decide (a ≤ b)).map PyData.int))) st else .no
      | none => .no)
    | _ => .no)
  | .dixl kvs k, _, env, st => (evE k true env st).bind fun z st => (intOf z st).bind fun i st => (match kvs.lookup i with
    | some x => .ok (plain (.int x)) st
    | none => .no)
  | .revc a, _, env, st => (evE a true env st).bind fun x st => (datOf x st).bind fun x st => ofBD (revcD x) st
  | .get2 a x b y d k, _, env, st => (evE k true env st).bind fun z st => (intOf z st).bind fun i st => .ok (plain (.int (bif decide (a = i) then x else bif decide (b = i) then y else d))) st
  | .lrng1 a, _, env, st => (evE a true env st).bind fun x st => (intOf x st).bind fun i st => bif rgB 0 i then .ok (fresh (.list (rangeUp 0 i))) st else .no
  | .lrng2 a b, _, env, st => (evE a true env st).bind fun x st => (intOf x st).bind fun i st => (evE b true env st).bind fun y st => (intOf y st).bind fun j st => bif rgB i j then .ok (fresh (.list (rangeUp i j))) st else .no
  | .cntL a k, _, env, st => (evE a true env st).bind fun x st => (datOf x st).bind fun d st => (rOpt (listOf d) st).bind fun xs st => (evE k true env st).bind fun y st => (intOf y st).bind fun i st => ofBD ((intsOf xs).map fun is => (false, .int (is.count i : Nat))) st
  | .popi a k, _, env, st => (evE a false env st).bind fun x st => match x.v with
    | .loc n => (match st[n]? with
      | some (.lst _) => (evE k true env st).bind fun y st => (intOf y st).bind fun i st => (match st[n]? with
        | some (.lst xs) => (bif decide (xs.length < 2 ^ 60) then (match L2.ixN xs.length i with
          | some j => (match xs[j]? with
            | some d => .ok (plain d) (st.set n (.lst (xs.eraseIdx j)))
            | none => .no)
          | none => .no) else .no)
        | _ => .no)
      | _ => .no)
    | _ => .no
  | .lenl a, _, env, st => (evE a false env st).bind fun x st => match lenL x st with
    | some n => .ok (plain (.int n)) st
    | none => .no
/-- items that are put into a new thing -/
def evA : Exs → Env → Store → R (List D)
  | .nil, _, st => .ok [] st
  | .cons e es, env, st => (evE e false env st).bind fun x st => (datOf x st).bind fun d st => (evA es env st).bind fun ds st => .ok (d :: ds) st
  | .star e es, env, st => (evE e true env st).bind fun x st => (datOf x st).bind fun d st => (rOpt (seqOf d) st).bind fun xs st => (evA es env st).bind fun ds st => .ok (xs ++ ds) st
/-- arguments of a def -/
def evV : Exs → Env → Store → R (List Val)
  | .nil, _, st => .ok [] st
  | .cons e es, env, st => (evE e false env st).bind fun x st => (evV es env st).bind fun ds st => .ok (x.v :: ds) st
  | .star _ _, _, _ => .no
/-- arguments that are only looked at -/
def evP : Exs → Env → Store → R (List D)
  | .nil, _, st => .ok [] st
  | .cons e es, env, st => (evE e true env st).bind fun x st => (datOf x st).bind fun d st => (evP es env st).bind fun ds st => .ok (d :: ds) st
  | .star _ _, _, _ => .no
def evO : Opt → Env → Store → R (Option Int)
  | .non, _, st => .ok none st
  | .som e, env, st => (evE e true env st).bind fun x st => (intOf x st).bind fun i st => .ok (some i) st
def evC : Opt → Env → Store → R Bool
  | .non, _, st => .ok true st
  | .som e, env, st => (evE e true env st).bind fun x st => boolOf x st
/-- what is walked -/
def evI : It → Env → Store → R (List D)
  | .seq e, env, st => (evE e false env st).bind fun x st => (datOf x st).bind fun d st => rOpt (seqOf d) st
  | .rng1 a, env, st => (evE a true env st).bind fun x st => (intOf x st).bind fun i st => bif rngOk i then .ok (rangeUp 0 i) st else .no
  | .rng2 a b, env, st => (evE a true env st).bind fun x st => (intOf x st).bind fun i st => (evE b true env st).bind fun x st => (intOf x st).bind fun j st => bif rngOk i && rngOk j then .ok (rangeUp i j) st else .no
  | .rng3 a b c, env, st => (evE a true env st).bind fun x st => (intOf x st).bind fun i st => (evE b true env st).bind fun x st => (intOf x st).bind fun j st => (evE c true env st).bind fun x st => (intOf x st).bind fun k st =>
      bif rngOk i && rngOk j && decide (k = -1) then .ok (rangeDn i j) st else .no
  | .enum e, env, st => (evE e false env st).bind fun x st => (datOf x st).bind fun d st => (rOpt (seqOf d) st).bind fun xs st => .ok (enumL 0 xs) st
  | .zip a b, env, st => (evE a false env st).bind fun x st => (datOf x st).bind fun d st => (evE b false env st).bind fun x st => (datOf x st).bind fun e st => rOpt (zipD d e) st
end
/-! ### statements -/
inductive SR where
  | nx (env : Env) (st : Store)
  | rt (x : RV) (st : Store)
  | br (env : Env) (st : Store)
  | ct (env : Env) (st : Store)
  | ex (c : Str) (ds : List (Str × D)) (env : Env) (st : Store)
  | no
mutual
inductive Sm where
  | pass
  | exp (e : Ex)
  | ret (e : Ex)
  | set (i : Nat) (own : Bool) (e : Ex)
  | setT (ts : Tgs) (e : Ex)
  | par (ts : List Nat) (es : Exs)
  | parO (ts : List Nat) (fs : List Bool) (es : Exs)
  | aug (i : Nat) (o : Op2) (e : Ex)
  | ite (c : Ex) (a b : Sms)
  | whil (c : Ex) (b : Sms)
  | forr (tg : Tg) (it : It) (b : Sms)
  | brk
  | cnt
  | app (i : Nat) (e : Ex)
  | popd (i : Nat)
  | popt (j i : Nat)
  | setix (i : Nat) (k e : Ex)
  | setloc (a k e : Ex)
  | frz (i : Nat)
  | never
  | clr (i : Nat)
  | rais (c : Str)
  | dput (i : Nat) (k e : Ex)
  | tryR (b : Sms) (c : Str) (e : Ex)
  | tryY (b : Sms) (c : Str) (i : Nat) (k : Str)
inductive Sms where
  | nil
  | cons (s : Sm) (ss : Sms)
end
def R.sr {α : Type} (x : R α) (env : Env) (f : α → Store → SR) : SR := match x with
  | .ok a st => f a st
  | .exc c ds st => .ex c ds env st
  | .no => .no
def SR.seq (x : SR) (f : Env → Store → SR) : SR := match x with
  | .nx env st => f env st
  | r => r
def WF : Nat := 2 ^ 64
/-- a loop's turn: what follows, by how the body ended -/
def turn (x : SR) (f : Env → Store → SR) : SR := match x with
  | .nx env st => f env st
  | .ct env st => f env st
  | .br env st => .nx env st
  | r => r
def forL (tg : Tg) (body : Env → Store → SR) : List D → Env → Store → SR
  | [], env, st => .nx env st
  | d :: r, env, st => match bindTg tg d env with
    | none => .no
    | some env' => turn (body env' st) (forL tg body r)
def whileL (test : Env → Store → R Bool) (body : Env → Store → SR) : Nat → Env → Store → SR
  | 0, _, _ => .no
  | n + 1, env, st => (test env st).sr env fun k st => bif k then turn (body env st) (whileL test body n) else .nx env st
def putVals : List Nat → List D → Env → Option Env
  | [], [], env => some env
  | i :: is, d :: ds, env => putVals is ds (List.set env i (.val (.dat d)))
  | _, _, _ => none
/-- what slots are stored, which of them new lists of ours -/
def evR : List Bool → Exs → Env → Store → R (List Slot)
  | [], .nil, _, st => .ok [] st
  | b :: fs, .cons e es, env, st => (evE e false env st).bind fun x st => bif b then (match x with
      | ⟨true, .dat d⟩ => (evR fs es env st).bind fun ss st => .ok (.own d :: ss) st
      | _ => .no) else (datOf x st).bind fun d st => (evR fs es env st).bind fun ss st => .ok (.val (.dat d) :: ss) st
  | _, _, _, _ => .no
def putSlots : List Nat → List Slot → Env → Option Env
  | [], [], env => some env
  | i :: is, s :: ss, env => putSlots is ss (List.set env i s)
  | _, _, _ => none
def augI : Op2 → Int → Int → Option Int
  | .add, a, b => some (a + b)
  | .sub, a, b => some (a - b)
  | _, _, _ => none
mutual
def evS : Sm → Env → Store → SR
  | .pass, env, st => .nx env st
  | .exp e, env, st => (evE e true env st).sr env fun _ st => .nx env st
  | .ret e, env, st => match e with
    | .var i => (match env[i]? with
      | some (.own d) => .rt (fresh d) st
      | _ => (evE (.var i) false env st).sr env fun x st => .rt x st)
    | e => (evE e false env st).sr env fun x st => .rt x st
  | .set i own e, env, st => (evE e false env st).sr env fun x st =>
      bif own then (match x with
        | ⟨true, .dat d⟩ => .nx (List.set env i (.own d)) st
        | _ => .no)
      else .nx (List.set env i (.val x.v)) st
  | .setT ts e, env, st => (evE e false env st).sr env fun x st => (datOf x st).sr env fun d st => match bindTg (.tup ts) d env with
    | some env' => .nx env' st
    | none => .no
  | .par ts es, env, st => (evA es env st).sr env fun ds st => match putVals ts ds env with
    | some env' => .nx env' st
    | none => .no
  | .parO ts fs es, env, st => (evR fs es env st).sr env fun ss st => match putSlots ts ss env with
    | some env' => .nx env' st
    | none => .no
  | .aug i o e, env, st => match env[i]? with
    | some (.val (.dat (.int a))) => (evE e true env st).sr env fun x st => (intOf x st).sr env fun b st => match augI o a b with
      | some k => .nx (List.set env i (.val (.dat (.int k)))) st
      | none => .no
    | _ => .no
  | .ite c a b, env, st => (evE c true env st).sr env fun x st => (boolOf x st).sr env fun k st => bif k then evSs a env st else evSs b env st
  | .whil c b, env, st => whileL (fun env st => (evE c true env st).bind fun x st => boolOf x st) (evSs b) WF env st
  | .forr tg it b, env, st => (evI it env st).sr env fun items st => forL tg (evSs b) items env st
  | .brk, env, st => .br env st
  | .cnt, env, st => .ct env st
  | .app i e, env, st => match env[i]? with
    | some (.own (.list xs)) => (evE e false env st).sr env fun x st => (datOf x st).sr env fun d st => bif fitsS xs.length then .nx (List.set env i (.own (.list (xs ++ [d])))) st else .no
    | _ => .no
  | .popd i, env, st => match env[i]? with
    | some (.own (.list xs)) => (match xs.getLast? with
      | some _ => .nx (List.set env i (.own (.list xs.dropLast))) st
      | none => .no)
    | _ => .no
  | .popt j i, env, st => match env[i]? with
    | some (.own (.list xs)) => (match xs.getLast? with
      | some d => bif j == i then .no else .nx (List.set (List.set env i (.own (.list xs.dropLast))) j (.val (.dat d))) st
      | none => .no)
    | _ => .no
  | .setix i k e, env, st => (evE e false env st).sr env fun x st => (datOf x st).sr env fun d st => match env[i]? with
    | some (.own (.list xs)) => (evE k true env st).sr env fun y st => (intOf y st).sr env fun n st =>
        match L2.ixN xs.length n with
        | some j => .nx (List.set env i (.own (.list (xs.set j d)))) st
        | none => .no
    | _ => .no
  | .setloc a k e, env, st => (evE e false env st).sr env fun x st => (evE a false env st).sr env fun o st => (evE k true env st).sr env fun y st => match o.v, y.v with
    | .loc n, .dat (.str s) => (match st[n]? with
      | some (.dic kvs) => bif (kvs.lookup s).isSome && fitsS kvs.length then .nx env (st.set n (.dic (kvs.map fun p => bif p.1 == s then (p.1, x.v) else p))) else .no
      | _ => .no)
    | _, _ => .no
  | .frz i, env, st => match env[i]? with
    | some (.own d) => .nx (List.set env i (.val (.dat d))) st
    | _ => .no
  | .never, _, _ => .no
  | .clr i, env, st => match env[i]? with
    | some (.own (.list _)) => .nx (List.set env i (.own (.list []))) st
    | _ => .no
  | .rais c, env, st => .ex c [] env st
  | .dput i k e, env, st => (evE e false env st).sr env fun x st => (datOf x st).sr env fun d st => match env[i]? with
    | some (.own (.dict kvs)) => (evE k true env st).sr env fun y st => (intOf y st).sr env fun n st =>
        bif fitsS kvs.length then .nx (List.set env i (.own (.dict (dPutI kvs n d)))) st else .no
    | _ => .no
  | .tryR b c e, env, st => match evSs b env st with
    | .ex c' _ env' st' => bif decide (c' = c) then (evE e false env' st').sr env' fun x st => .rt x st else .no
    | r => r
  | .tryY b c i _, env, st => match evSs b env st with
    | .ex c' ds env' st' => bif decide (c' = c) && ds.isEmpty then (match env'[i]? with
      | some _ => .rt (plain (.bool true)) st'
      | none => .no) else .no
    | r => r
def evSs : Sms → Env → Store → SR
  | .nil, env, st => .nx env st
  | .cons s ss, env, st => (evS s env st).seq (evSs ss)
end
/-- a def: its parameters' number, its slots' number, its body -/
def fnOf (np ns : Nat) (body : Sms) : Fn := fun vs st => bif decide (vs.length = np) then
  (match evSs body (vs.map Slot.val ++ List.replicate (ns - np) .un) st with
    | .nx _ st => .ok (plain .none) st
    | .rt x st => .ok x st
    | .ex c ds _ st => .exc c ds st
    | _ => .no) else .no
end MP
/-! How the small language's data lie in the hand layer's heap. -/
namespace MP
open PySem PyProof.Rows L2 PySem.Spec
/-! ### data -/
def keyD : Key → D
  | .inl i => .int i
  | .inr x => .str x
/-- a list that stands as it is: frozen, or the module's own -/
def SqZ (K : PySem.W.Frag) (Z : Addr → Prop) (H : Hp) (a : Addr) (xs : List V) : Prop := (Z a ∧ Rd H a (.lst xs)) ∨ SqL K (fun _ => none) a xs
theorem SqZ.seq {K : PySem.W.Frag} {Z : Addr → Prop} {H : Hp} {a : Addr} {xs : List V} (h : SqZ K Z H a xs) : SqL K H a xs := by
  rcases h with ⟨_, h⟩ | (h | h)
  · exact .inl h
  · rcases h with h | ⟨_, h⟩ <;> cases h
  · exact .inr h
mutual
inductive RD (K : PySem.W.Frag) (Z : Addr → Prop) (H : Hp) : V → D → Prop
  | none : RD K Z H .non .none
  | bool (b : Bool) : RD K Z H (.bl b) (.bool b)
  | int (i : Int) : RD K Z H (.int i) (.int i)
  | str (x : Str) : RD K Z H (.str x) (.str x)
  | tuple {a : Addr} {xs : List V} {ds : List D} : SqT K H a xs → RDs K Z H xs ds → RD K Z H (.ref a) (.tuple ds)
  | list {a : Addr} {xs : List V} {ds : List D} : SqZ K Z H a xs → RDs K Z H xs ds → RD K Z H (.ref a) (.list ds)
  | dict {a : Addr} {kvs : List (Key × V)} {ds : List (D × D)} : Z a → Rd H a (.dK kvs) → RKs K Z H kvs ds → RD K Z H (.ref a) (.dict ds)
inductive RDs (K : PySem.W.Frag) (Z : Addr → Prop) (H : Hp) : List V → List D → Prop
  | nil : RDs K Z H [] []
  | cons {v : V} {vs : List V} {d : D} {ds : List D} : RD K Z H v d → RDs K Z H vs ds → RDs K Z H (v :: vs) (d :: ds)
inductive RKs (K : PySem.W.Frag) (Z : Addr → Prop) (H : Hp) : List (Key × V) → List (D × D) → Prop
  | nil : RKs K Z H [] []
  | cons {k : Key} {v : V} {vs : List (Key × V)} {d : D} {ds : List (D × D)} : RD K Z H v d → RKs K Z H vs ds → RKs K Z H ((k, v) :: vs) ((keyD k, d) :: ds)
end
section
variable {K : PySem.W.Frag} {Z Z' : Addr → Prop} {H H' : Hp}
/-- what keeps data as they are -/
structure Holds (Z Z' : Addr → Prop) (H H' : Hp) : Prop where
  tup : ∀ a xs, Rd H a (.tup xs) → Rd H' a (.tup xs)
  z : ∀ a, Z a → Z' a
  obj : ∀ a u, Z a → Rd H a u → Rd H' a u
mutual
theorem RD.holds (h : Holds Z Z' H H') : ∀ {v : V} {d : D}, RD K Z H v d → RD K Z' H' v d
  | _, _, .none => .none
  | _, _, .bool b => .bool b
  | _, _, .int i => .int i
  | _, _, .str x => .str x
  | _, _, .tuple s r => .tuple (s.elim (fun q => .inl (h.tup _ _ q)) .inr) (RDs.holds h r)
  | _, _, .list s r => .list (s.imp (fun ⟨z, q⟩ => ⟨h.z _ z, h.obj _ _ z q⟩) id) (RDs.holds h r)
  | _, _, .dict z s r => .dict (h.z _ z) (h.obj _ _ z s) (RKs.holds h r)
theorem RDs.holds (h : Holds Z Z' H H') : ∀ {vs : List V} {ds : List D}, RDs K Z H vs ds → RDs K Z' H' vs ds
  | _, _, .nil => .nil
  | _, _, .cons r t => .cons (RD.holds h r) (RDs.holds h t)
theorem RKs.holds (h : Holds Z Z' H H') : ∀ {vs : List (Key × V)} {ds : List (D × D)}, RKs K Z H vs ds → RKs K Z' H' vs ds
  | _, _, .nil => .nil
  | _, _, .cons r t => .cons (RD.holds h r) (RKs.holds h t)
end
theorem RDs.length : ∀ {vs : List V} {ds : List D}, RDs K Z H vs ds → vs.length = ds.length
  | _, _, .nil => rfl
  | _, _, .cons _ t => congrArg Nat.succ t.length
theorem RDs.append : ∀ {vs us : List V} {ds es : List D}, RDs K Z H vs ds → RDs K Z H us es → RDs K Z H (vs ++ us) (ds ++ es)
  | _, _, _, _, .nil, q => q
  | _, _, _, _, .cons r t, q => .cons r (t.append q)
theorem RDs.get : ∀ {vs : List V} {ds : List D} {i : Nat} {d : D}, RDs K Z H vs ds → ds[i]? = some d → ∃ v, vs[i]? = some v ∧ RD K Z H v d
  | _, _, _, _, .nil, z => by simp at z
  | _, _, 0, _, .cons r _, e => by
    simp at e
    subst e
    exact ⟨_, rfl, r⟩
  | _, _, i + 1, _, .cons _ t, e => by
    obtain ⟨v, h1, h2⟩ := RDs.get (i := i) t (by simpa using e)
    exact ⟨v, by simpa using h1, h2⟩
theorem RDs.getV : ∀ {vs : List V} {ds : List D} {i : Nat} {v : V}, RDs K Z H vs ds → vs[i]? = some v → ∃ d, ds[i]? = some d ∧ RD K Z H v d
  | _, _, _, _, .nil, z => by simp at z
  | _, _, 0, _, .cons r _, e => by
    simp at e
    subst e
    exact ⟨_, rfl, r⟩
  | _, _, i + 1, _, .cons _ t, e => by
    obtain ⟨v, h1, h2⟩ := RDs.getV (i := i) t (by simpa using e)
    exact ⟨v, by simpa using h1, h2⟩
theorem RDs.take : ∀ {vs : List V} {ds : List D} (n : Nat), RDs K Z H vs ds → RDs K Z H (vs.take n) (ds.take n)
  | _, _, 0, _ => by simpa using RDs.nil
  | _, _, _ + 1, .nil => .nil
  | _, _, n + 1, .cons r t => by simpa using RDs.cons r (t.take n)
theorem RDs.drop : ∀ {vs : List V} {ds : List D} (n : Nat), RDs K Z H vs ds → RDs K Z H (vs.drop n) (ds.drop n)
  | _, _, 0, q => by simpa using q
  | _, _, _ + 1, .nil => .nil
  | _, _, n + 1, .cons _ t => by simpa using t.drop n
theorem RDs.reverse : ∀ {vs : List V} {ds : List D}, RDs K Z H vs ds → RDs K Z H vs.reverse ds.reverse
  | _, _, .nil => .nil
  | _, _, .cons r t => by
    simpa only [List.reverse_cons] using t.reverse.append (.cons r .nil)
theorem RDs.set {v : V} {d : D} (r : RD K Z H v d) : ∀ {vs : List V} {ds : List D} (i : Nat), RDs K Z H vs ds → RDs K Z H (vs.set i v) (ds.set i d)
  | _, _, _, .nil => .nil
  | _, _, 0, .cons _ q => .cons r q
  | _, _, i + 1, .cons q t => .cons q (t.set r i)
theorem RDs.replicate {v : V} {d : D} {vs : List V} {ds : List D} (h : RDs K Z H vs ds) : ∀ n : Nat, RDs K Z H (List.replicate n vs).flatten (List.replicate n ds).flatten
  | 0 => .nil
  | n + 1 => by
    simp only [List.replicate_succ, List.flatten_cons]
    exact h.append (RDs.replicate (v := v) (d := d) h n)
mutual
/-- data without dicts, for the layer's own comparisons -/
theorem RD.dp : ∀ {v : V} {d : D}, RD K Z H v d → d.canLay0 = true → Dp K H v d
  | _, _, .none, _ => .non
  | _, _, .bool b, _ => .bl b
  | _, _, .int i, _ => .int i
  | _, _, .str x, _ => .str x
  | _, _, .tuple s r, h => .tup s (RDs.dp r h)
  | _, _, .list s r, h => .lst s.seq (RDs.dp r h)
  | _, _, .dict _ _ _, h => by simp [PyData.canLay0] at h
theorem RDs.dp : ∀ {vs : List V} {ds : List D}, RDs K Z H vs ds → PyData.canLayAll0 ds = true → DpAll K H vs ds
  | _, _, .nil, _ => .nil
  | _, _, .cons r t, h => by
    simp only [PyData.canLayAll0, Bool.and_eq_true] at h
    exact .cons (RD.dp r h.1) (RDs.dp t h.2)
end
end
/-! ### the ghost: what is frozen, where the cells lie -/
structure G where
  Z : Addr → Prop
  rho : List Addr
def RVal (K : PySem.W.Frag) (g : G) (H : Hp) (v : V) : Val → Prop
  | .dat d => RD K g.Z H v d
  | .loc n => ∃ a, g.rho[n]? = some a ∧ v = .ref a
inductive RVals (K : PySem.W.Frag) (g : G) (H : Hp) : List V → List Val → Prop
  | nil : RVals K g H [] []
  | cons {v : V} {vs : List V} {x : Val} {xs : List Val} : RVal K g H v x → RVals K g H vs xs → RVals K g H (v :: vs) (x :: xs)
inductive RKV (K : PySem.W.Frag) (g : G) (H : Hp) : List (Key × V) → List (Str × Val) → Prop
  | nil : RKV K g H [] []
  | cons {k : Str} {v : V} {vs : List (Key × V)} {x : Val} {xs : List (Str × Val)} : RVal K g H v x → RKV K g H vs xs → RKV K g H ((.inr k, v) :: vs) ((k, x) :: xs)
def CellIs (K : PySem.W.Frag) (g : G) (H : Hp) (a : Addr) : Cell → Prop
  | .lst xs => ∃ vs, H a = some (.lst vs) ∧ RDs K g.Z H vs xs
  | .dic kvs => ∃ kv', H a = some (.dK kv') ∧ RKV K g H kv' kvs
structure Ok (K : PySem.W.Frag) (g : G) (H : Hp) (st : Store) : Prop where
  zr : ∀ a, g.Z a → a ∉ g.rho
  zs : ∀ a, g.Z a → H a ≠ none
  len : g.rho.length = st.length
  nd : g.rho.Nodup
  cell : ∀ (n : Nat) a c, g.rho[n]? = some a → st[n]? = some c → CellIs K g H a c
structure Step (g : G) (H : Hp) (g' : G) (H' : Hp) : Prop where
  z : ∀ a, g.Z a → g'.Z a
  zn : ∀ a, g'.Z a → g.Z a ∨ H a = none
  r : ∃ more, g'.rho = g.rho ++ more ∧ ∀ a ∈ more, H a = none
  keep : ∀ a o, H a = some o → a ∉ g.rho → H' a = some o
  gone : ∀ a, H' a = none → H a = none
section
variable {K : PySem.W.Frag} {g g1 g2 : G} {H H1 H2 : Hp} {st st1 : Store} {a : Addr} {v : V} {d : D}
theorem Step.refl : Step g H g H := ⟨fun _ h => h, fun _ h => .inl h, ⟨[], by simp, by simp⟩, fun _ _ h _ => h, fun _ h => h⟩
theorem Step.trans (a : Step g H g1 H1) (b : Step g1 H1 g2 H2) : Step g H g2 H2 := by
  obtain ⟨m1, e1, f1⟩ := a.r
  obtain ⟨m2, e2, f2⟩ := b.r
  refine ⟨fun c h => b.z c (a.z c h), fun c h => ?_, ⟨m1 ++ m2, by rw [e2, e1, List.append_assoc], fun c h => ?_⟩, fun c o h n => ?_, fun c h => a.gone c (b.gone c h)⟩
  · rcases b.zn c h with q | q
    · exact a.zn c q
    · exact .inr (a.gone c q)
  · rcases List.mem_append.mp h with q | q
    · exact f1 c q
    · exact a.gone c (f2 c q)
  · refine b.keep c o (a.keep c o h n) fun q => ?_
    rw [e1] at q
    rcases List.mem_append.mp q with q | q
    · exact n q
    · rw [f1 c q] at h
      cases h
theorem Ok.some (o : Ok K g H st) (h : a ∈ g.rho) : (∃ vs, H a = some (.lst vs)) ∨ ∃ kv, H a = some (.dK kv) := by
  obtain ⟨n, hn⟩ := List.mem_iff_getElem?.mp h
  have hl : n < g.rho.length := (List.getElem?_eq_some_iff.mp hn).1
  have hs : n < st.length := by rw [← o.len]; exact hl
  have q := o.cell n a st[n] hn (List.getElem?_eq_getElem hs)
  cases hc : st[n] with
  | lst xs =>
    rw [hc] at q
    obtain ⟨vs, e, _⟩ := q
    exact .inl ⟨vs, e⟩
  | dic kvs =>
    rw [hc] at q
    obtain ⟨kv, e, _⟩ := q
    exact .inr ⟨kv, e⟩
theorem Ok.notIn (o : Ok K g H st) (h : H a = none) : a ∉ g.rho := fun q => by
  rcases o.some q with ⟨_, e⟩ | ⟨_, e⟩ <;> (rw [h] at e; cases e)
theorem Ok.rd {u : HO} (o : Ok K g H st) (h : Rd H a u) (hu : ¬ (∃ vs, u = .lst vs) ∧ ¬ ∃ kv, u = .dK kv) : a ∉ g.rho := fun q => by
  rcases o.some q with ⟨vs, e⟩ | ⟨kv, e⟩ <;> rcases h with h | ⟨ob, h⟩ <;> rw [h] at e <;> cases e
  · exact hu.1 ⟨_, rfl⟩
  · exact hu.2 ⟨_, rfl⟩
theorem Step.rd {u : HO} (s : Step g H g1 H1) (h : Rd H a u) (n : a ∉ g.rho) : Rd H1 a u := by
  rcases h with h | ⟨o, h⟩
  · exact .inl (s.keep _ _ h n)
  · exact .inr ⟨o, s.keep _ _ h n⟩
theorem Step.holds (s : Step g H g1 H1) (o : Ok K g H st) : Holds g.Z g1.Z H H1 :=
  ⟨fun a xs h => s.rd h (o.rd h ⟨fun ⟨_, q⟩ => (by cases q), fun ⟨_, q⟩ => (by cases q)⟩), s.z, fun a u z h => s.rd h (o.zr a z)⟩
theorem RVal.step (s : Step g H g1 H1) (o : Ok K g H st) {x : Val} (h : RVal K g H v x) : RVal K g1 H1 v x := by
  cases x with
  | dat d => exact RD.holds (s.holds o) h
  | loc n =>
    obtain ⟨a, e, q⟩ := h
    obtain ⟨m, em, _⟩ := s.r
    exact ⟨a, by rw [em, List.getElem?_append_left (List.getElem?_eq_some_iff.mp e).1]; exact e, q⟩
theorem RVals.step (s : Step g H g1 H1) (o : Ok K g H st) : ∀ {vs : List V} {xs : List Val}, RVals K g H vs xs → RVals K g1 H1 vs xs
  | _, _, .nil => .nil
  | _, _, .cons r t => .cons (r.step s o) (RVals.step s o t)
theorem RVals.length : ∀ {vs : List V} {xs : List Val}, RVals K g H vs xs → vs.length = xs.length
  | _, _, .nil => rfl
  | _, _, .cons _ t => congrArg Nat.succ t.length
theorem RVals.get : ∀ {vs : List V} {xs : List Val} {i : Nat} {x : Val}, RVals K g H vs xs → xs[i]? = some x → ∃ v, vs[i]? = some v ∧ RVal K g H v x
  | _, _, _, _, .nil, z => by simp at z
  | _, _, 0, _, .cons r _, e => by
    simp at e
    subst e
    exact ⟨_, rfl, r⟩
  | _, _, i + 1, _, .cons _ t, e => by
    obtain ⟨v, h1, h2⟩ := RVals.get (i := i) t (by simpa using e)
    exact ⟨v, by simpa using h1, h2⟩
theorem RKV.step (s : Step g H g1 H1) (o : Ok K g H st) : ∀ {vs : List (Key × V)} {xs : List (Str × Val)}, RKV K g H vs xs → RKV K g1 H1 vs xs
  | _, _, .nil => .nil
  | _, _, .cons r t => .cons (r.step s o) (RKV.step s o t)
/-- a list or dict at a that is nobody's but ours -/
def OwnAt (K : PySem.W.Frag) (g : G) (H : Hp) (a : Addr) : D → Prop
  | .list xs => ∃ vs, H a = some (.lst vs) ∧ RDs K g.Z H vs xs ∧ ¬ g.Z a ∧ a ∉ g.rho
  | .dict ds => ∃ kvs, H a = some (.dK kvs) ∧ RKs K g.Z H kvs ds ∧ ¬ g.Z a ∧ a ∉ g.rho
  | _ => False
theorem OwnAt.ne (h : OwnAt K g H a d) : H a ≠ none := by
  cases d <;> try exact h.elim
  all_goals
    obtain ⟨vs, e, _⟩ := h
    rw [e]
    exact fun q => by cases q
theorem OwnAt.nz (h : OwnAt K g H a d) : ¬ g.Z a ∧ a ∉ g.rho := by
  cases d <;> try exact h.elim
  all_goals
    obtain ⟨vs, e, _, q⟩ := h
    exact q
theorem Step.nz (s : Step g H g1 H1) (h : ¬ g.Z a) (n : H a ≠ none) : ¬ g1.Z a := fun q => (s.zn a q).elim h n
theorem Step.nr (s : Step g H g1 H1) (h : a ∉ g.rho) (n : H a ≠ none) : a ∉ g1.rho := fun q => by
  obtain ⟨m, e, f⟩ := s.r
  rw [e] at q
  rcases List.mem_append.mp q with q | q
  · exact h q
  · exact n (f a q)
theorem OwnAt.step (s : Step g H g1 H1) (o : Ok K g H st) (h : OwnAt K g H a d) : OwnAt K g1 H1 a d := by
  have ne := h.ne
  cases d <;> try exact h.elim
  · obtain ⟨vs, e, r, nz, nr⟩ := h
    exact ⟨vs, s.keep _ _ e nr, RDs.holds (s.holds o) r, s.nz nz ne, s.nr nr ne⟩
  · obtain ⟨vs, e, r, nz, nr⟩ := h
    exact ⟨vs, s.keep _ _ e nr, RKs.holds (s.holds o) r, s.nz nz ne, s.nr nr ne⟩
/-- what is only looked at -/
def RT (K : PySem.W.Frag) (g : G) (H : Hp) (v : V) (d : D) : Prop := RD K g.Z H v d ∨ ∃ a, v = .ref a ∧ OwnAt K g H a d
theorem RT.step (s : Step g H g1 H1) (o : Ok K g H st) (h : RT K g H v d) : RT K g1 H1 v d := by
  rcases h with h | ⟨a, e, h⟩
  · exact .inl (RD.holds (s.holds o) h)
  · exact .inr ⟨a, e, h.step s o⟩
/-- a slot's value -/
def SlotOk (K : PySem.W.Frag) (g : G) (H : Hp) (x : Option V) : Slot → Prop
  | .un => True
  | .val v => ∃ w, x = some w ∧ RVal K g H w v
  | .own d => ∃ a, x = some (.ref a) ∧ OwnAt K g H a d
structure EnvOk (K : PySem.W.Frag) (g : G) (H : Hp) (σ : L2.St) (env : Env) : Prop where
  len : env.length = σ.length
  at_ : ∀ (i : Nat) s x, env[i]? = some s → σ[i]? = some x → SlotOk K g H x s
  apart : ∀ (i j : Nat) d d' a, env[i]? = some (.own d) → env[j]? = some (.own d') → σ[i]? = some (some (.ref a)) → σ[j]? = some (some (.ref a)) → i = j
theorem SlotOk.step (s : Step g H g1 H1) (o : Ok K g H st) {x : Option V} {sl : Slot} (h : SlotOk K g H x sl) : SlotOk K g1 H1 x sl := by
  cases sl with
  | un => trivial
  | val v =>
    obtain ⟨w, e, r⟩ := h
    exact ⟨w, e, r.step s o⟩
  | own d =>
    obtain ⟨a, e, r⟩ := h
    exact ⟨a, e, r.step s o⟩
theorem EnvOk.step {σ : L2.St} {env : Env} (s : Step g H g1 H1) (o : Ok K g H st) (h : EnvOk K g H σ env) : EnvOk K g1 H1 σ env :=
  ⟨h.len, fun i sl x e1 e2 => (h.at_ i sl x e1 e2).step s o, h.apart⟩
theorem EnvOk.slot {σ : L2.St} {env : Env} {i : Nat} {s : Slot} (h : EnvOk K g H σ env) (e : env[i]? = some s) : ∃ x, σ[i]? = some x ∧ SlotOk K g H x s := by
  have hi : i < env.length := (List.getElem?_eq_some_iff.mp e).1
  have hs : i < σ.length := by rw [← h.len]; exact hi
  exact ⟨σ[i], List.getElem?_eq_getElem hs, h.at_ i s _ e (List.getElem?_eq_getElem hs)⟩
/-- what an expression comes to -/
def ROut (K : PySem.W.Frag) (pk : Bool) (g : G) (H H0 : Hp) (v : V) : RV → Prop
  | ⟨true, .dat d⟩ => ∃ a, v = .ref a ∧ H0 a = none ∧ OwnAt K g H a d
  | ⟨false, .dat d⟩ => if pk = true then RT K g H v d else RD K g.Z H v d
  | ⟨_, .loc n⟩ => RVal K g H v (.loc n)
theorem ROut.rt {pk : Bool} {H0 : Hp} {x : RV} (h : ROut K pk g H H0 v x) (e : x.v = .dat d) : RT K g H v d := by
  obtain ⟨fr, y⟩ := x
  simp only at e
  subst e
  cases fr with
  | true =>
    obtain ⟨a, e, _, q⟩ := h
    exact .inr ⟨a, e, q⟩
  | false =>
    cases pk with
    | true => exact h
    | false => exact .inl h
/-- a new list or dict is frozen -/
def G.add (g : G) (a : Addr) : G := ⟨fun b => g.Z b ∨ b = a, g.rho⟩
theorem Step.add (s : Step g H g1 H1) (h : H a = none) : Step g H (g1.add a) H1 :=
  ⟨fun b q => .inl (s.z b q), fun b q => q.elim (s.zn b) fun e => .inr (e ▸ h), s.r, s.keep, s.gone⟩
theorem holds_add : Holds g.Z (g.add a).Z H H := ⟨fun _ _ h => h, fun _ h => .inl h, fun _ _ _ h => h⟩
theorem rval_add {x : Val} (h : RVal K g H v x) : RVal K (g.add a) H v x := by
  cases x with
  | dat d => exact RD.holds holds_add h
  | loc n => exact h
theorem rkv_add : ∀ {vs : List (Key × V)} {xs : List (Str × Val)}, RKV K g H vs xs → RKV K (g.add a) H vs xs
  | _, _, .nil => .nil
  | _, _, .cons r t => .cons (rval_add r) (rkv_add t)
theorem Ok.add (o : Ok K g H st) (h : a ∉ g.rho) (hn : H a ≠ none) : Ok K (g.add a) H st :=
  ⟨fun b q => q.elim (o.zr b) fun e => e ▸ h, fun b q => q.elim (o.zs b) fun e => e ▸ hn, o.len, o.nd, fun n b c e1 e2 => by
    have q := o.cell n b c e1 e2
    cases c with
    | lst xs =>
      obtain ⟨vs, e, r⟩ := q
      exact ⟨vs, e, RDs.holds holds_add r⟩
    | dic kvs =>
      obtain ⟨kv, e, r⟩ := q
      exact ⟨kv, e, rkv_add r⟩⟩
theorem OwnAt.frozen (h : OwnAt K g H a d) : RD K (g.add a).Z H (.ref a) d := by
  cases d <;> try exact h.elim
  · obtain ⟨vs, e, r, _⟩ := h
    exact .list (.inl ⟨.inr rfl, .inl e⟩) (RDs.holds holds_add r)
  · obtain ⟨vs, e, r, _⟩ := h
    exact .dict (.inr rfl) (.inl e) (RKs.holds holds_add r)
/-- from a result to a datum that all may have: the ghost grows -/
theorem ROut.frozen {H0 : Hp} {x : RV} {g0 : G} (s : Step g0 H0 g H) (o : Ok K g H st) (h : ROut K false g H H0 v x) (e : x.v = .dat d) : ∃ g', Step g0 H0 g' H ∧ Ok K g' H st ∧ RD K g'.Z H v d ∧ Holds g.Z g'.Z H H ∧ g'.rho = g.rho := by
  obtain ⟨fr, y⟩ := x
  simp only at e
  subst e
  cases fr with
  | true =>
    obtain ⟨a, rfl, n, q⟩ := h
    exact ⟨g.add a, s.add n, o.add q.nz.2 q.ne, q.frozen, holds_add, rfl⟩
  | false => exact ⟨g, s, o, h, ⟨fun _ _ h => h, fun _ h => h, fun _ _ _ h => h⟩, rfl⟩
/-- .. of any kind -/
theorem ROut.frozenV {H0 : Hp} {x : RV} {g0 : G} (s : Step g0 H0 g H) (o : Ok K g H st) (h : ROut K false g H H0 v x) : ∃ g', Step g0 H0 g' H ∧ Ok K g' H st ∧ RVal K g' H v x.v := by
  obtain ⟨fr, y⟩ := x
  cases y with
  | dat d =>
    obtain ⟨g', s', o', r, _⟩ := h.frozen s o rfl
    exact ⟨g', s', o', r⟩
  | loc n => exact ⟨g, s, o, by cases fr <;> exact h⟩
/-- a new object that is tracked -/
theorem Step.new {u : HO} (h : H a = none) : Step g H g (upd H a u) :=
  ⟨fun _ q => q, fun _ q => .inl q, ⟨[], by simp, by simp⟩, fun b o e _ => by rw [upd_ne (ne_of_none e h)]; exact e, fun b e => by
    by_cases hb : b = a
    · exact hb ▸ h
    · rw [upd_ne hb] at e
      exact e⟩
theorem Ok.step (o : Ok K g H st) (s : Step g H g H1) (hc : ∀ a ∈ g.rho, H1 a = H a) : Ok K g H1 st :=
  ⟨o.zr, fun b z e => o.zs b z (s.gone b e), o.len, o.nd, fun n b c e1 e2 => by
    have q := o.cell n b c e1 e2
    have eb := hc b (List.mem_of_getElem? e1)
    cases c with
    | lst xs =>
      obtain ⟨vs, e, r⟩ := q
      exact ⟨vs, eb.trans e, RDs.holds (s.holds o) r⟩
    | dic kvs =>
      obtain ⟨kv, e, r⟩ := q
      exact ⟨kv, eb.trans e, r.step s o⟩⟩
theorem Ok.new {u : HO} (o : Ok K g H st) (h : H a = none) : Ok K g (upd H a u) st := o.step (.new h) fun b hb => upd_ne fun e => o.notIn h (e ▸ hb)
theorem RD.new_tup {xs : List V} {ds : List D} (o : Ok K g H st) (h : H a = Option.none) (r : RDs K g.Z H xs ds) : RD K g.Z (upd H a (.tup xs)) (.ref a) (.tuple ds) :=
  .tuple (.inl (.inl upd_same)) (RDs.holds ((Step.new (g := g) h).holds o) r)
theorem OwnAt.new_lst {xs : List V} {ds : List D} (o : Ok K g H st) (h : H a = none) (r : RDs K g.Z H xs ds) : OwnAt K g (upd H a (.lst xs)) a (.list ds) :=
  ⟨xs, upd_same, RDs.holds ((Step.new (g := g) h).holds o) r, fun z => o.zs a z h, o.notIn h⟩
end
end MP
/-! Operations by values: what the small language reckons is what the model does. -/
namespace MP
open PySem PyProof.Rows L2 PySem.Spec
end MP
namespace L2
open PySem PySem.Spec PyProof.Rows
theorem tuple_mulW1 (l : Addr) (items : Array Value) (n : Nat) (dd : Option Addr) (sl : Array (Option Value)) (x : Int) (u : Tok) (c0 : (decide (x < -(2 ^ 63)) || decide (x ≥ 2 ^ 63)) = false) (c1 : (items.isEmpty || x == 1) = true) :
    Meets (Builtin.«tuple.__mul__» ⟨[.ref l, .int x u], []⟩) (fun _ R s => s.heap.get? l = some { cls := .type "tuple", dict := dd, data := .seq items n, slots := sl } ∧
      R (.ok (.ret (Value.ref l))) s) :=
  .of_wp fun prog w A R s h => by
    obtain ⟨hp, g, d, tk, os⟩ := s
    obtain ⟨hl, h⟩ := h
    have f1 := AutoSeq1.idx_int
    wp_walk using wpAny_loadPart' hl
    repeat (first
      | (refine wpAny_ite_false (decide_eq_false (by rw [c0]; exact Bool.false_ne_true)) ?_; wp_walk using wpAny_loadPart' hl)
      | (refine wpAny_ite_true (decide_eq_true c1) ?_; wp_walk using wpAny_loadPart' hl))
    exact ⟨_, rfl, h⟩
theorem op_repT1 {X : Cx} : OpR X (binaryOp .Mult) (fun x y H Q => ∃ l k xs, x = .ref l ∧ y = .int k ∧ SqT X.K H l xs ∧ (xs = [] ∨ k = 1) ∧ k.natAbs < 2 ^ 62 ∧ Q (.ref l) H) := by
  intro pins s σ H x y v u Q I rx ry h
  obtain ⟨l, k, xs, rfl, rfl, hT, h1, h2, q⟩ := h
  cases rx
  obtain ⟨t, rfl⟩ := ry
  obtain ⟨its, r, ⟨⟨cls, dd, data, sl⟩, ho, hc, n, hd⟩, hs⟩ := I.tuple hT
  simp only at hc hd
  subst hc hd
  have c0 : (decide (k < -(2 ^ 63)) || decide (k ≥ 2 ^ 63)) = false := by
    rw [decide_eq_false (by omega), decide_eq_false (by omega)] <;> rfl
  have c1 : (its.toArray.isEmpty || k == 1) = true := by
    rcases h1 with e | e
    · have hle : its.length = xs.length := r.length.symm
      rw [e] at hle
      rw [List.eq_nil_of_length_eq_zero hle]
      rfl
    · rw [e]
      simp
  refine wpAny_binaryOp_repeat_ref (T := "tuple") (U := "int") (by decide) ⟨_, ho, rfl⟩ (fun s' => typeIs_int s' k t) noFill_tuple_mul F.fills_int_mul F.slot_int_rmul repeat_tuple F.slot_int_index.lookup
    (call_meets F.slot_int_rmul (typeIs_int s k t) F.entry_int_rmul (F.args_int_rmul_2 _ _) (int_rmul_tuple k t l its.toArray n dd sl)
      ⟨ho, rfl, ⟨_, ho, rfl⟩, call_meets F.slot_tuple_mul ⟨_, ho, rfl⟩ F.entry_tuple_mul (F.args_tuple_mul_2 _ _) (tuple_mulW1 l its.toArray n dd sl k t c0 c1) ⟨ho, ?_⟩⟩)
  exact ⟨.ref l, H, I, rfl, q⟩
end L2
namespace MP
open PySem PyProof.Rows L2 PySem.Spec
/-- what a step's end must bring -/
def Fin (K : PySem.W.Frag) (pk : Bool) (g : G) (H : Hp) (st : Store) (x : RV) (Q : VK) : Prop :=
  ∀ g' v H', Step g H g' H' → Ok K g' H' st → ROut K pk g' H' H v x → Q v H'
/-- two values into an operation of the model -/
def WO (X : Cx) (f : Value → Value → Sem Value) (x y : V) (H : Hp) (Q : VK) : Prop :=
  ∀ (pins : List (Addr × Obj)) (s : Shared) (σ : L2.St) (v u : Value), Inv X pins σ H s → RelV x v → RelV y u → wpAny (model X.prog X.w) X.A (f v u) (EP X pins σ Q) X.xe s
def WC (X : Cx) (f : Value) (xs : List V) (H : Hp) (Q : VK) : Prop :=
  ∀ (pins : List (Addr × Obj)) (s : Shared) (σ : L2.St) (us : List Value), Inv X pins σ H s → Vals xs us → wpAny (model X.prog X.w) X.A (call f us) (EP X pins σ Q) X.xe s
section
variable {X : Cx} {K : PySem.W.Frag} {pk : Bool} {g : G} {H : Hp} {st : Store} {Q : VK} {x y : V} {d e : D}
theorem WO.of {f : Value → Value → Sem Value} {r : R2} (h : OpR X f r) (q : r x y H Q) : WO X f x y H Q := fun pins s σ v u I rx ry => h pins s σ H x y v u Q I rx ry q
theorem WC.of {f : Value} {xs : List V} {r : List V → Hp → VK → Prop} (h : CallR X f r) (q : r xs H Q) : WC X f xs H Q := fun pins s σ us I rx => h pins s σ H xs us Q I rx q
theorem Fin.plain (o : Ok K g H st) (h : Fin K pk g H st (MP.plain d) Q) {v : V} (r : RD K g.Z H v d) : Q v H :=
  h g v H .refl o (by
    cases pk with
    | true => exact .inl r
    | false => exact r)
theorem Fin.lst (o : Ok K g H st) {ds : List D} (h : Fin K pk g H st (MP.fresh (.list ds)) Q) {vs : List V} (r : RDs K g.Z H vs ds) {p : Addr} (n : H p = none) : Q (.ref p) (upd H p (.lst vs)) :=
  h g (.ref p) _ (.new n) (o.new n) ⟨p, rfl, n, .new_lst o n r⟩
theorem Fin.tup (o : Ok K g H st) {ds : List D} (h : Fin K pk g H st (MP.plain (.tuple ds)) Q) {vs : List V} (r : RDs K g.Z H vs ds) {p : Addr} (n : H p = none) : Q (.ref p) (upd H p (.tup vs)) :=
  h g (.ref p) _ (.new n) (o.new n) (by
    have q := RD.new_tup o n r
    cases pk with
    | true => exact .inl q
    | false => exact q)
theorem RT.int {i : Int} (h : RT K g H x (.int i)) : x = .int i := by
  rcases h with h | ⟨a, _, h⟩
  · cases h
    rfl
  · exact h.elim
theorem RT.str {i : Str} (h : RT K g H x (.str i)) : x = .str i := by
  rcases h with h | ⟨a, _, h⟩
  · cases h
    rfl
  · exact h.elim
theorem RT.bool {i : Bool} (h : RT K g H x (.bool i)) : x = .bl i := by
  rcases h with h | ⟨a, _, h⟩
  · cases h
    rfl
  · exact h.elim
theorem RT.none (h : RT K g H x .none) : x = .non := by
  rcases h with h | ⟨a, _, h⟩
  · cases h
    rfl
  · exact h.elim
theorem RT.list {ds : List D} (h : RT K g H x (.list ds)) : ∃ a vs, x = .ref a ∧ SqL K H a vs ∧ RDs K g.Z H vs ds := by
  rcases h with h | ⟨a, e, vs, h1, h2, _⟩
  · cases h with
    | list s r => exact ⟨_, _, rfl, s.seq, r⟩
  · exact ⟨a, vs, e, .inl (.inl h1), h2⟩
theorem RT.tuple {ds : List D} (h : RT K g H x (.tuple ds)) : ∃ a vs, x = .ref a ∧ SqT K H a vs ∧ RDs K g.Z H vs ds ∧ RD K g.Z H x (.tuple ds) := by
  rcases h with h | ⟨a, _, h⟩
  · cases h with
    | tuple s r => exact ⟨_, _, rfl, s, r, .tuple s r⟩
  · exact h.elim
theorem RT.seq {ds : List D} (h : RT K g H x d) (e : seqOf d = some ds) : ∃ a vs, x = .ref a ∧ (SqL K H a vs ∨ SqT K H a vs) ∧ RDs K g.Z H vs ds := by
  cases d <;> simp only [seqOf] at e <;> try cases e
  · obtain ⟨a, vs, h1, h2, h3⟩ := h.list
    exact ⟨a, vs, h1, .inl h2, h3⟩
  · obtain ⟨a, vs, h1, h2, h3, _⟩ := h.tuple
    exact ⟨a, vs, h1, .inr h2, h3⟩
theorem RT.dp (h : RT K g H x d) (c : d.canLay0 = true) : Dp K H x d := by
  rcases h with h | ⟨a, rfl, h⟩
  · exact h.dp c
  · cases d <;> try exact h.elim
    · obtain ⟨vs, e, r, _⟩ := h
      exact .lst (.inl (.inl e)) (RDs.dp r c)
    · simp [PyData.canLay0] at c
/-! ### operators -/
def opS : Op2 → Operator
  | .add => .Add | .sub => .Sub | .mul => .Mult | .fdiv => .FloorDiv | .mod => .Mod | .pow => .Pow
theorem wo_cat {xs ys : List V} {a b : Addr} (ha : SqL X.K H a xs) (hb : SqL X.K H b ys) (hz : xs.length + ys.length ≤ sizeLine) (q : ∀ p, H p = none → Q (.ref p) (upd H p (.lst (xs ++ ys)))) : WO X (binaryOp .Add) (.ref a) (.ref b) H Q := by
  intro pins s σ v u I rx ry
  cases rx
  cases ry
  obtain ⟨l1, r1, ⟨⟨c1, d1, t1, k1⟩, n1, o1, rfl, _, e1⟩, _⟩ := I.list ha
  obtain ⟨l2, r2, ⟨⟨c2, d2, t2, k2⟩, n2, o2, rfl, _, e2⟩, _⟩ := I.list hb
  simp only at e1 e2
  subst e1 e2
  have h1 := r1.length
  have h2 := r2.length
  have e : l1.toArray ++ l2.toArray = (l1 ++ l2).toArray := by simp
  refine concat_meets ⟨_, o1, rfl⟩ ⟨_, o2, rfl⟩ noFill_list_add seq_list_add PySem.F.slot_list_add PySem.F.entry_list_add (PySem.F.args_list_add_2 _ _)
    (list_addW a b l1.toArray l2.toArray n1 n2 d1 d2 k1 k2 (by rw [List.size_toArray, List.size_toArray]; omega)) ⟨o1, o2, ?_⟩
  rw [e]
  exact ⟨.ref _, _, I.lnew (t' := s.toks) (r1.append r2) (by rw [List.length_append]; omega), rfl, q _ I.fresh⟩
theorem wo_fdiv {i j : Int} (hj : divOk j = true) (q : Q (.int (i.fdiv j)) H) : WO X (binaryOp .FloorDiv) (.int i) (.int j) H Q := by
  intro pins s σ v u I rx ry
  obtain ⟨t, rfl⟩ := rx
  obtain ⟨t', rfl⟩ := ry
  simp only [divOk, Bool.and_eq_true, decide_eq_true_eq] at hj
  exact floordiv_int hj.1 ⟨.int _, H, I.tok _, ⟨_, rfl⟩, q⟩ (.inl (PyProof.noPylong_of_log2 hj.2))
theorem wo_mul {i j : Int} (hj : mulOk i j = true) (q : Q (.int (i * j)) H) : WO X (binaryOp .Mult) (.int i) (.int j) H Q := by
  simp only [mulOk, Bool.or_eq_true, decide_eq_true_eq] at hj
  rcases hj with (hj | hj) | hj
  · exact WO.of op_mul ⟨i, j, rfl, rfl, .inl ⟨by omega, by omega⟩, q⟩
  · exact WO.of op_mul ⟨i, j, rfl, rfl, .inr ⟨by omega, by omega⟩, q⟩
  · exact WO.of op_mulW ⟨i, j, rfl, rfl, hj, q⟩
theorem int_rmul_listW (a : Int) (t : Tok) (l : Addr) (items : Array Value) (n : Nat) (dd : Option Addr) (sl : Array (Option Value)) :
    Meets (Builtin.«int.__rmul__» ⟨[.int a t, .ref l], []⟩) (fun _ R s => s.heap.get? l = some { cls := .type "list", dict := dd, data := .seq items n, slots := sl } ∧ R (.ok (.ret Value.notImplemented)) s) :=
  .of_wp fun prog w A R s h => by
    obtain ⟨hp, g, d, tk, os⟩ := s
    obtain ⟨hl, h⟩ := h
    wp_walk using wpAny_loadPart' hl
    exact ⟨_, rfl, h⟩
theorem list_mulW (l : Addr) (items : Array Value) (n : Nat) (dd : Option Addr) (sl : Array (Option Value)) (x : Int) (u : Tok) (hc0 : ¬(!Builtin.List.listFitsIndex x) = true) (hc1 : ¬items.size * x.toNat > (2 ^ 63 - 1) / 8) (hc2 : ¬Builtin.List.listTooLong (items.size * x.toNat) = true)
    (hsz : (List.foldl (fun x1 x2 => x1 ++ x2) #[] (List.replicate (if items.isEmpty = true then 0 else x.toNat) items)).size ≤ sizeLine) :
    Meets (Builtin.«list.__mul__» ⟨[.ref l, .int x u], []⟩) (fun _ R s => s.heap.get? l = some { cls := .type "list", dict := dd, data := .seq items n, slots := sl } ∧
      R (.ok (.ret (Value.ref s.heap.objs.size))) { s with heap := s.heap.push { cls := Value.type "list", data := Data.seq (List.foldl (fun x1 x2 => x1 ++ x2) #[] (List.replicate (if items.isEmpty = true then 0 else x.toNat) items)) }, toks := s.toks }) :=
  .of_wp fun prog w A R s h => by
    obtain ⟨hp, g, d, tk, os⟩ := s
    obtain ⟨hl, h⟩ := h
    wp_walk using wpAny_loadPart' hl
    refine wpAny_ite_false (decide_eq_false (Nat.not_lt.mpr hsz)) ?_
    wp_walk using wpAny_loadPart' hl
    exact ⟨_, rfl, h⟩
theorem wo_repL {a : Addr} {xs : List V} {k : Int} (ha : SqL X.K H a xs) (h0 : xs ≠ []) (h1 : 2 ≤ k) (h2 : k ≤ 1000) (hz : xs.length ≤ 1000) (q : ∀ p, H p = none → Q (.ref p) (upd H p (.lst (List.replicate k.toNat xs).flatten))) : WO X (binaryOp .Mult) (.ref a) (.int k) H Q := by
  intro pins s σ v u I rx ry
  cases rx
  obtain ⟨t, rfl⟩ := ry
  obtain ⟨its, r, ⟨⟨cls, dd, data, sl⟩, n, ho, hc, _, hd⟩, _⟩ := I.list ha
  simp only at hc hd
  subst hc hd
  have hle : its.length = xs.length := r.length.symm
  have hn : its ≠ [] := fun e => h0 (by
    rw [e] at hle
    exact List.eq_nil_of_length_eq_zero hle.symm)
  have hi : its.toArray.isEmpty = false := by
    cases its with
    | nil => exact absurd rfl hn
    | cons a b => rfl
  have a1 : k.toNat * xs.length ≤ 1000 * 1000 := Nat.mul_le_mul (by omega) hz
  have flen : (List.replicate k.toNat its).flatten.length ≤ sizeLine := by
    rw [PyProof.Rows.lm_len_rep_flat, hle, sizeLine_eq]
    omega
  have hlen : its.toArray.size * k.toNat ≤ sizeLine := by
    rw [List.size_toArray, hle, Nat.mul_comm, sizeLine_eq]
    omega
  have hcap : ¬ its.toArray.size * k.toNat > (2 ^ 63 - 1) / 8 := by
    have : (sizeLine : Nat) ≤ (2 ^ 63 - 1) / 8 := by decide
    omega
  have hfit : ¬ (!Builtin.List.listFitsIndex k) = true := by
    rw [fitsIndex_both (by omega) (by omega)]
    exact Bool.false_ne_true
  have hlong : ¬ Builtin.List.listTooLong (its.toArray.size * k.toNat) = true := by
    rw [notLongL hlen]
    exact Bool.false_ne_true
  have hnew : List.foldl (fun x1 x2 => x1 ++ x2) #[] (List.replicate (if its.toArray.isEmpty = true then 0 else k.toNat) its.toArray) = (List.replicate k.toNat its).flatten.toArray := by
    rw [hi, if_neg Bool.false_ne_true, size_rep]
  refine wpAny_binaryOp_repeat_ref (T := "list") (U := "int") (by decide) ⟨_, ho, rfl⟩ (fun s' => typeIs_int s' k t) noFill_list_mul F.fills_int_mul F.slot_int_rmul repeat_list F.slot_int_index.lookup
    (call_meets F.slot_int_rmul (typeIs_int s k t) F.entry_int_rmul (F.args_int_rmul_2 _ _) (int_rmul_listW k t a its.toArray n dd sl)
      ⟨ho, rfl, ⟨_, ho, rfl⟩, call_meets F.slot_list_mul ⟨_, ho, rfl⟩ F.entry_list_mul (F.args_list_mul_2 _ _) (list_mulW a its.toArray n dd sl k t hfit hcap hlong (by rw [hnew, List.size_toArray]; exact flen)) ⟨ho, ?_⟩⟩)
  rw [hnew]
  exact ⟨.ref _, _, I.lnew (t' := s.toks) (r.rep k.toNat) (by rw [PyProof.Rows.lm_len_rep_flat, sizeLine_eq]; omega), rfl, q _ I.fresh⟩
theorem bin_ok {o : Op2} {b : Bool} {r : D} (hx : RT K g H x d) (hy : RT K g H y e) (eK : X.K = K) (ok : Ok K g H st) (h : bin o d e = some (b, r)) (q : Fin K pk g H st ⟨b, .dat r⟩ Q) : WO X (binaryOp (opS o)) x y H Q := by
  subst eK
  cases o
  case add =>
    cases d <;> cases e <;> simp only [bin] at h <;> try cases h
    · have e1 := hx.int
      have e2 := hy.int
      subst e1 e2
      exact WO.of op_add ⟨_, _, rfl, rfl, q.plain ok (.int _)⟩
    · have e1 := hx.str
      have e2 := hy.str
      subst e1 e2
      cases hz : fits _ <;> rw [hz] at h <;> cases h
      exact WO.of op_add_str ⟨_, _, rfl, rfl, of_decide_eq_true hz, q.plain ok (.str _)⟩
    · obtain ⟨a, vs, rfl, s1, r1⟩ := hx.list
      obtain ⟨b, us, rfl, s2, r2⟩ := hy.list
      cases hz : fits _ <;> rw [hz] at h <;> cases h
      have hz := of_decide_eq_true hz
      rw [← r1.length, ← r2.length] at hz
      exact wo_cat s1 s2 hz fun p n => q.lst ok (r1.append r2) n
    · obtain ⟨a, vs, rfl, s1, r1, w1⟩ := hx.tuple
      obtain ⟨b, us, rfl, s2, r2, w2⟩ := hy.tuple
      cases hz : fits _ <;> rw [hz] at h <;> cases h
      have hz := of_decide_eq_true hz
      rw [← r1.length, ← r2.length] at hz
      refine WO.of op_catA ⟨a, b, vs, us, rfl, rfl, s1, s2, hz, fun ev => ?_, fun _ eu => ?_, fun _ _ p n => q.tup ok (r1.append r2) n⟩
      · subst ev
        cases r1
        exact q.plain ok w2
      · subst eu
        cases r2
        exact q.plain ok (by rw [List.append_nil]; exact w1)
  case sub =>
    cases d <;> cases e <;> simp only [bin] at h <;> try cases h
    have e1 := hx.int
    have e2 := hy.int
    subst e1 e2
    exact WO.of op_sub ⟨_, _, rfl, rfl, q.plain ok (.int _)⟩
  case mul =>
    cases d <;> cases e <;> simp only [bin] at h <;> try cases h
    · have e1 := hx.int
      have e2 := hy.int
      subst e1 e2
      cases hz : mulOk _ _ <;> rw [hz] at h <;> cases h
      exact wo_mul hz (q.plain ok (.int _))
    · obtain ⟨a, vs, rfl, s1, r1⟩ := hx.list
      have e2 := hy.int
      subst e2
      cases hz : repOk _ _ <;> rw [hz] at h <;> cases h
      simp only [repOk, Bool.and_eq_true, decide_eq_true_eq] at hz
      obtain ⟨⟨⟨h0, h1⟩, h2⟩, h3⟩ := hz
      refine wo_repL s1 (fun ev => ?_) h1 h2 (by rw [r1.length]; exact h3) fun p n => q.lst ok (r1.replicate (v := .non) (d := .none) _) n
      subst ev
      cases r1
      simp at h0
    · obtain ⟨a, vs, rfl, s1, r1, w1⟩ := hx.tuple
      have e2 := hy.int
      subst e2
      rename_i xs k
      cases hz : repOk xs k
      · rw [hz] at h
        cases h1 : rep1 xs k <;> rw [h1] at h <;> cases h
        simp only [rep1, Bool.and_eq_true, Bool.or_eq_true, decide_eq_true_eq] at h1
        obtain ⟨h1, h2⟩ := h1
        refine WO.of op_repT1 ⟨a, _, vs, rfl, rfl, s1, ?_, h2, q.plain ok w1⟩
        rcases h1 with h1 | h1
        · left
          cases r1 with
          | nil => rfl
          | cons _ _ => simp at h1
        · exact .inr h1
      rw [hz] at h
      cases h
      simp only [repOk, Bool.and_eq_true, decide_eq_true_eq] at hz
      obtain ⟨⟨⟨h0, h1⟩, h2⟩, h3⟩ := hz
      refine WO.of op_repT ⟨a, _, vs, rfl, rfl, s1, fun ev => ?_, h1, h2, by rw [r1.length]; exact h3, fun p n => q.tup ok (r1.replicate (v := .non) (d := .none) _) n⟩
      subst ev
      cases r1
      simp at h0
  case fdiv =>
    cases d <;> cases e <;> simp only [bin] at h <;> try cases h
    have e1 := hx.int
    have e2 := hy.int
    subst e1 e2
    cases hz : divOk _ <;> rw [hz] at h <;> cases h
    exact wo_fdiv hz (q.plain ok (.int _))
  case mod =>
    cases d <;> cases e <;> simp only [bin] at h <;> try cases h
    have e1 := hx.int
    have e2 := hy.int
    subst e1 e2
    rename_i i j
    cases hz : decide (j ≠ 0) <;> rw [hz] at h <;> cases h
    exact WO.of op_modN ⟨_, _, rfl, rfl, of_decide_eq_true hz, q.plain ok (.int _)⟩
  case pow =>
    cases d <;> cases e <;> simp only [bin] at h <;> try cases h
    have e1 := hx.int
    have e2 := hy.int
    subst e1 e2
    cases hz : powOk _ _ <;> rw [hz] at h <;> cases h
    simp only [powOk, Bool.and_eq_true, decide_eq_true_eq] at hz
    exact WO.of op_pow ⟨_, _, rfl, rfl, ⟨hz.1.1, hz.1.2, hz.2⟩, q.plain ok (.int _)⟩
/-! ### comparisons -/
def cpS : Cp → CmpOp
  | .eq => .Eq | .ne => .NotEq | .lt => .Lt | .le => .LtE | .gt => .Gt | .ge => .GtE | .isIn => .In | .notIn => .NotIn | .is => .Is | .isNot => .IsNot
theorem canLay_of {d : D} (h : shp d = true) : d.canLay0 = true := (Bool.and_eq_true_iff.mp h).1
theorem eqD_cases {d e : D} {b : Bool} (h : eqD d e = some b) : (∃ x y, d = .str x ∧ e = .str y ∧ b = decide (x = y)) ∨ (shp d = true ∧ shp e = true ∧ b = PyData.eqv d e) ∨ ∃ xs ys, d = .list xs ∧ e = .list ys ∧ xs.length ≠ ys.length ∧ b = false := by
  by_cases hs : ∃ x y, d = .str x ∧ e = .str y
  · obtain ⟨x, y, rfl, rfl⟩ := hs
    exact .inl ⟨x, y, rfl, rfl, (Option.some.inj h).symm⟩
  · by_cases hl : ∃ xs ys, d = .list xs ∧ e = .list ys ∧ xs.length ≠ ys.length
    · obtain ⟨xs, ys, rfl, rfl, hn⟩ := hl
      have h : (bif decide (xs.length = ys.length) then (bif shp (.list xs) && shp (.list ys) then some (PyData.eqv (.list xs) (.list ys)) else none) else some false) = some b := h
      rw [decide_eq_false hn] at h
      exact .inr (.inr ⟨xs, ys, rfl, rfl, hn, (Option.some.inj h).symm⟩)
    · have h : (bif shp d && shp e then some (PyData.eqv d e) else none) = some b := by
        cases d <;> cases e <;> first
          | exact h
          | exact (hs ⟨_, _, rfl, rfl⟩).elim
          | (rename_i xs ys
             have hn : xs.length = ys.length := Classical.byContradiction fun q => hl ⟨xs, ys, rfl, rfl, q⟩
             have h : (bif decide (xs.length = ys.length) then (bif shp (.list xs) && shp (.list ys) then some (PyData.eqv (.list xs) (.list ys)) else none) else some false) = some b := h
             rw [decide_eq_true hn] at h
             exact h)
      cases hz : shp d && shp e <;> rw [hz] at h <;> cases h
      have hz := Bool.and_eq_true_iff.mp hz
      exact .inr (.inl ⟨hz.1, hz.2, rfl⟩)
theorem wo_eqLen {a b : Addr} {xs ys : List V} (hu : X.A.units < cLine) (ha : SqL X.K H a xs) (hb : SqL X.K H b ys) (hn : xs.length ≠ ys.length) (q : Q (.bl false) H) : WO X (compareOp .Eq) (.ref a) (.ref b) H Q := by
  intro pins s σ v u I rx ry
  cases rx
  cases ry
  obtain ⟨l1, r1, ⟨o1, n1, ho1, hc1, _, hd1⟩, _⟩ := I.list ha
  obtain ⟨l2, r2, ⟨o2, n2, ho2, hc2, _, hd2⟩, _⟩ := I.list hb
  have h1 := r1.length
  have h2 := r2.length
  refine SeqAt.eq_list_lengthsAt ⟨o1, ho1, hc1, n1, hd1⟩ ⟨o2, ho2, hc2, n2, hd2⟩ ?_ hu ⟨.bl _, H, I, rfl, q⟩
  rw [List.size_toArray, List.size_toArray, bne_iff_ne]
  omega
theorem wo_neLen {a b : Addr} {xs ys : List V} (hu : X.A.units < cLine) (ha : SqL X.K H a xs) (hb : SqL X.K H b ys) (hn : xs.length ≠ ys.length) (q : Q (.bl true) H) : WO X (compareOp .NotEq) (.ref a) (.ref b) H Q := by
  intro pins s σ v u I rx ry
  cases rx
  cases ry
  obtain ⟨l1, r1, ⟨o1, n1, ho1, hc1, _, hd1⟩, _⟩ := I.list ha
  obtain ⟨l2, r2, ⟨o2, n2, ho2, hc2, _, hd2⟩, _⟩ := I.list hb
  have h1 := r1.length
  have h2 := r2.length
  refine SeqAt.RcNeAt.lists_lengths ⟨o1, ho1, hc1, n1, hd1⟩ ⟨o2, ho2, hc2, n2, hd2⟩ ?_ hu _ _ _ _ ⟨.bl _, H, I, rfl, q⟩
  rw [List.size_toArray, List.size_toArray, bne_iff_ne]
  omega
theorem cmp_ok {o : Cp} {b : Bool} (hx : RT K g H x d) (hy : RT K g H y e) (eK : X.K = K) (hu : X.A.units + 65 < cLine) (ok : Ok K g H st) (h : cmpD o d e = some b) (q : Q (.bl b) H) : WO X (compareOp (cpS o)) x y H Q := by
  subst eK
  cases o
  case eq =>
    rcases eqD_cases h with ⟨u, v, rfl, rfl, rfl⟩ | ⟨h1, h2, rfl⟩ | ⟨xs, ys, rfl, rfl, hn, rfl⟩
    · have e1 := hx.str
      have e2 := hy.str
      subst e1 e2
      refine WO.of op_eq ⟨rfl, ?_⟩
      have e : decide ((V.str u) = V.str v) = decide (u = v) := by simp
      rw [e]
      exact q
    · exact WO.of (op_eqD (by omega)) ⟨d, e, hx.dp (canLay_of h1), hy.dp (canLay_of h2), h1, h2, q⟩
    · obtain ⟨a, vs, rfl, s1, r1⟩ := hx.list
      obtain ⟨b, us, rfl, s2, r2⟩ := hy.list
      exact wo_eqLen (by omega) s1 s2 (by rw [r1.length, r2.length]; exact hn) q
  case ne =>
    cases h0 : eqD d e with
    | none =>
      simp only [cmpD, h0] at h
      cases h
    | some k =>
      simp only [cmpD, h0] at h
      have h : (!k) = b := Option.some.inj h
      subst h
      rcases eqD_cases h0 with ⟨u, v, rfl, rfl, rfl⟩ | ⟨h1, h2, rfl⟩ | ⟨xs, ys, rfl, rfl, hn, rfl⟩
      · have e1 := hx.str
        have e2 := hy.str
        subst e1 e2
        refine WO.of op_ne ⟨rfl, ?_⟩
        have e : decide ((V.str u) = V.str v) = decide (u = v) := by simp
        first
          | (rw [e]; exact q)
          | (simpa [e] using q)
      · exact WO.of (op_neD (by omega)) ⟨d, e, hx.dp (canLay_of h1), hy.dp (canLay_of h2), h1, h2, q⟩
      · obtain ⟨a, vs, rfl, s1, r1⟩ := hx.list
        obtain ⟨b, us, rfl, s2, r2⟩ := hy.list
        exact wo_neLen (by omega) s1 s2 (by rw [r1.length, r2.length]; exact hn) q
  case lt =>
    cases d <;> cases e <;> simp only [cmpD] at h <;> cases h
    have e1 := hx.int
    have e2 := hy.int
    subst e1 e2
    exact WO.of op_lt ⟨_, _, rfl, rfl, q⟩
  case le =>
    cases d <;> cases e <;> simp only [cmpD] at h <;> cases h
    have e1 := hx.int
    have e2 := hy.int
    subst e1 e2
    exact WO.of op_le ⟨_, _, rfl, rfl, q⟩
  case gt =>
    cases d <;> cases e <;> simp only [cmpD] at h <;> cases h
    have e1 := hx.int
    have e2 := hy.int
    subst e1 e2
    exact WO.of op_gt ⟨_, _, rfl, rfl, q⟩
  case ge =>
    cases d <;> cases e <;> simp only [cmpD] at h <;> cases h
    have e1 := hx.int
    have e2 := hy.int
    subst e1 e2
    exact WO.of op_ge ⟨_, _, rfl, rfl, q⟩
  case isIn =>
    cases e <;> simp only [cmpD] at h <;> try cases h
    · rename_i ys
      cases hz : shp d && shp (.list ys) <;> rw [hz] at h <;> cases h
      have hz := Bool.and_eq_true_iff.mp hz
      exact WO.of (op_inD hu) ⟨d, _, hx.dp (canLay_of hz.1), hy.dp (canLay_of hz.2), hz.1, hz.2, q⟩
    · rename_i ys
      cases hz : shp d && shp (.tuple ys) <;> rw [hz] at h <;> cases h
      have hz := Bool.and_eq_true_iff.mp hz
      intro pins s σ v u I rx ry
      obtain ⟨as, ra⟩ := Dp.reads I d x v (hx.dp (canLay_of hz.1)) rx
      obtain ⟨bs, rb⟩ := Dp.reads I _ y u (hy.dp (canLay_of hz.2)) ry
      exact SeqAt.in_tuple_reads rb ra (canLay_of hz.2) (canLay_of hz.1) (room_in_shaped hz.1 hu) ⟨.bl _, H, I, rfl, q⟩
  case notIn =>
    cases e <;> simp only [cmpD] at h <;> try cases h
    · rename_i ys
      cases hz : shp d && shp (.list ys) <;> rw [hz] at h <;> cases h
      have hz := Bool.and_eq_true_iff.mp hz
      exact WO.of (op_notInD hu) ⟨d, _, hx.dp (canLay_of hz.1), hy.dp (canLay_of hz.2), hz.1, hz.2, q⟩
    · rename_i ys
      cases hz : shp d && shp (.tuple ys) <;> rw [hz] at h <;> cases h
      have hz := Bool.and_eq_true_iff.mp hz
      intro pins s σ v u I rx ry
      obtain ⟨as, ra⟩ := Dp.reads I d x v (hx.dp (canLay_of hz.1)) rx
      obtain ⟨bs, rb⟩ := Dp.reads I _ y u (hy.dp (canLay_of hz.2)) ry
      exact SeqAt.notIn_tuple_reads rb ra (canLay_of hz.2) (canLay_of hz.1) (room_in_shaped hz.1 hu) ⟨.bl _, H, I, rfl, q⟩
  case is =>
    cases e with
    | none =>
      simp only [cmpD] at h
      cases h
      have e2 := hy.none
      subst e2
      refine WO.of op_isN ⟨rfl, ?_⟩
      rw [show decide (x = V.non) = isNone d by
        rcases hx with hx | ⟨a, rfl, hx⟩
        · cases hx <;> simp [isNone]
        · cases d <;> simp [isNone]
          exact hx.elim]
      exact q
    | bool c =>
      cases d <;> simp only [cmpD] at h <;> cases h
      have e1 := hx.bool
      have e2 := hy.bool
      subst e1 e2
      exact WO.of op_is_bl ⟨_, _, rfl, rfl, q⟩
    | _ => cases d <;> simp [cmpD] at h
  case isNot =>
    cases e with
    | none =>
      simp only [cmpD] at h
      cases h
      have e2 := hy.none
      subst e2
      refine WO.of op_notN ⟨rfl, ?_⟩
      rw [show decide (x = V.non) = isNone d by
        rcases hx with hx | ⟨a, rfl, hx⟩
        · cases hx <;> simp [isNone]
        · cases d <;> simp [isNone]
          exact hx.elim]
      exact q
    | bool c =>
      cases d <;> simp only [cmpD] at h <;> cases h
      have e1 := hx.bool
      have e2 := hy.bool
      subst e1 e2
      exact WO.of op_isnot_bl ⟨_, _, rfl, rfl, q⟩
    | _ => cases d <;> simp [cmpD] at h
/-! ### items, slices -/
theorem RDs.atI {Z : Addr → Prop} {vs : List V} {ds : List D} {k : Int} {d : D} (r : RDs K Z H vs ds) (h : ixD ds k = some d) : ∃ v, L2.atI vs k = some v ∧ RD K Z H v d := by
  unfold ixD L2.atI at h
  unfold L2.atI
  rw [r.length]
  cases hk : ixN ds.length k with
  | none =>
    rw [hk] at h
    cases h
  | some j =>
    rw [hk] at h
    exact r.get h
theorem RDs.cut {Z : Addr → Prop} {vs : List V} {ds : List D} (lo hi : Option Int) (r : RDs K Z H vs ds) : RDs K Z H (L2.cutV vs lo hi) (cutD ds lo hi) := by
  unfold L2.cutV cutD
  rw [r.length]
  exact (r.drop _).take _
/-- an item of a list or tuple -/
theorem ix_rd {ds : List D} {k : Int} {r : D} (hx : RT K g H x d) (hs : seqOf d = some ds) (h : ixD ds k = some r) (eK : X.K = K) (ok : Ok K g H st) (q : Fin K pk g H st (plain r) Q) : rIx X.K x (.int k) H Q := by
  subst eK
  obtain ⟨a, vs, rfl, s, w⟩ := hx.seq hs
  obtain ⟨v, e, rv⟩ := w.atI h
  rcases s with s | s
  · exact .inl ⟨a, vs, k, v, rfl, rfl, s, e, q.plain ok rv⟩
  · exact .inr (.inl ⟨a, vs, k, v, rfl, rfl, s, e, q.plain ok rv⟩)
def rSlD (K : PySem.W.Frag) : V → Option Int → Option Int → Hp → VK → Prop := fun x lo hi H Q => rSlL K x lo hi H Q ∨ rSlA K x lo hi H Q
theorem sl_data : SlR X (rSlD X.K) := sl_list.or sl_tupA
theorem cutD_whole {ds : List D} {lo hi : Option Int} (h : HT.sIx ds.length 0 lo = 0 ∧ HT.sIx ds.length ds.length hi = ds.length) : cutD ds lo hi = ds := by
  unfold cutD
  rw [h.1, h.2, List.drop_zero, Nat.sub_zero, List.take_length]
theorem slice_rd {lo hi : Option Int} {b : Bool} {r : D} (hx : RT K g H x d) (h : sliceD d lo hi = some (b, r)) (eK : X.K = K) (ok : Ok K g H st) (q : Fin K pk g H st ⟨b, .dat r⟩ Q) : rSlD X.K x lo hi H Q := by
  subst eK
  cases d <;> simp only [sliceD] at h <;> cases h
  · obtain ⟨a, vs, rfl, s, w⟩ := hx.list
    exact .inl ⟨a, vs, rfl, s, fun p n => q.lst ok (w.cut lo hi) n⟩
  · obtain ⟨a, vs, rfl, s, w, w1⟩ := hx.tuple
    refine .inr ⟨a, vs, rfl, s, fun z => ?_, fun _ p n => q.tup ok (w.cut lo hi) n⟩
    rw [w.length] at z
    exact q.plain ok (by rw [cutD_whole z]; exact w1)
/-! ### built-in functions -/
theorem args_gcd4 (a b c d : Value) : argsOk "math.gcd" ⟨[a, b, c, d], []⟩ := by
  unfold argsOk
  kernel_rfl
theorem run_gcd4 (a : Int) (t : Tok) (b : Int) (u : Tok) (c : Int) (v : Tok) (d : Int) (w : Tok) :
    Gives (Builtin.«math.gcd» ⟨[.int a t, .int b u, .int c v, .int d w], []⟩) (.int ((((Nat.gcd 0 a.natAbs).gcd b.natAbs).gcd c.natAbs).gcd d.natAbs : Nat)) :=
  .of_wp fun M A E s Q h => by
    obtain ⟨hp, g, d, tk, os⟩ := s
    wp_walk
    exact ⟨_, rfl, h⟩
def rGcd4 : List V → Hp → VK → Prop := fun vs H Q => ∃ a b c d : Int, vs = [.int a, .int b, .int c, .int d] ∧ Q (.int (Nat.gcd (Nat.gcd (Nat.gcd a.natAbs b.natAbs) c.natAbs) d.natAbs : Nat)) H
theorem cr_gcd4 {X : Cx} : CallR X (.builtin "math.gcd") rGcd4 := by
  intro pins s σ H vs us Q I r h
  obtain ⟨a, b, c, d, rfl, q⟩ := h
  cases r with
  | cons r1 r =>
    cases r with
    | cons r2 r =>
      cases r with
      | cons r3 r =>
        cases r with
        | cons r4 r =>
          cases r
          obtain ⟨t1, rfl⟩ := r1
          obtain ⟨t2, rfl⟩ := r2
          obtain ⟨t3, rfl⟩ := r3
          obtain ⟨t4, rfl⟩ := r4
          have g := run_gcd4 a t1 b t2 c t3 d t4
          rw [Nat.gcd_zero_left] at g
          exact PySem.call_function_meets PySem.W.MGF.kind_gcd PySem.W.MGF.plain_gcd PySem.W.MGF.entry_gcd (args_gcd4 _ _ _ _) g.meets ⟨.int _, H, I.tok _, ⟨_, rfl⟩, q⟩
def bltV : Blt → Value
  | .len => .builtin "len" | .abs => .builtin "abs" | .int => .type "int" | .tuple => .type "tuple" | .list => .type "list" | .sum => .builtin "sum" | .min => .builtin "min" | .max => .builtin "max"
  | .any => .builtin "any" | .all => .builtin "all" | .repr => .builtin "repr" | .gcd => .builtin "math.gcd" | .sorted => .builtin "sorted" | .str => .type "str"
inductive RTs (K : PySem.W.Frag) (g : G) (H : Hp) : List V → List D → Prop
  | nil : RTs K g H [] []
  | cons {v : V} {vs : List V} {d : D} {ds : List D} : RT K g H v d → RTs K g H vs ds → RTs K g H (v :: vs) (d :: ds)
theorem RTs.step {g1 : G} {H1 : Hp} (s : Step g H g1 H1) (o : Ok K g H st) : ∀ {vs : List V} {ds : List D}, RTs K g H vs ds → RTs K g1 H1 vs ds
  | _, _, .nil => .nil
  | _, _, .cons r t => .cons (r.step s o) (RTs.step s o t)
theorem RDs.bools {Z : Addr → Prop} : ∀ {vs : List V} {ds : List D} {bs : List Bool}, RDs K Z H vs ds → boolsOf ds = some bs → vs = bs.map V.bl
  | _, _, _, .nil, e => by
    cases e
    rfl
  | _, _, _, .cons r t, e => by
    rename_i d ds
    cases d <;> simp only [boolsOf] at e <;> try cases e
    rename_i b
    cases hb : boolsOf ds with
    | none =>
      rw [hb] at e
      cases e
    | some c =>
      rw [hb] at e
      cases e
      cases r
      rw [List.map_cons, ← RDs.bools t hb]
theorem RDs.ints {Z : Addr → Prop} : ∀ {vs : List V} {ds : List D} {is : List Int}, RDs K Z H vs ds → intsOf ds = some is → vs = is.map V.int
  | _, _, _, .nil, e => by
    cases e
    rfl
  | _, _, _, .cons r t, e => by
    rename_i d ds
    cases d <;> simp only [intsOf] at e <;> try cases e
    rename_i b
    cases hb : intsOf ds with
    | none =>
      rw [hb] at e
      cases e
    | some c =>
      rw [hb] at e
      cases e
      cases r
      rw [List.map_cons, ← RDs.ints t hb]
theorem RDs.ofInts {Z : Addr → Prop} : ∀ (is : List Int), RDs K Z H (is.map V.int) (is.map PyData.int)
  | [] => .nil
  | _ :: is => .cons (.int _) (RDs.ofInts is)
theorem minI_le : ∀ (r : List Int) (a : Int), minI a r ∈ a :: r ∧ ∀ y ∈ a :: r, minI a r ≤ y
  | [], a => ⟨List.mem_cons_self, fun y h => by
    have := List.mem_singleton.mp h
    subst this
    exact Int.le_refl _⟩
  | b :: r, a => by
    obtain ⟨h1, h2⟩ := minI_le r (if b < a then b else a)
    have e : minI a (b :: r) = minI (if b < a then b else a) r := rfl
    rw [e]
    refine ⟨?_, fun y hy => ?_⟩
    · rcases List.mem_cons.mp h1 with q | q
      · rw [q]
        split
        · exact List.mem_cons_of_mem _ List.mem_cons_self
        · exact List.mem_cons_self
      · exact List.mem_cons_of_mem _ (List.mem_cons_of_mem _ q)
    · have h3 := h2 _ List.mem_cons_self
      have h4 : (if b < a then b else a) ≤ a := by split <;> omega
      have h5 : (if b < a then b else a) ≤ b := by split <;> omega
      rcases List.mem_cons.mp hy with rfl | hy
      · omega
      · rcases List.mem_cons.mp hy with rfl | hy
        · omega
        · exact h2 y (List.mem_cons_of_mem _ hy)
theorem maxI_le : ∀ (r : List Int) (a : Int), maxI a r ∈ a :: r ∧ ∀ y ∈ a :: r, y ≤ maxI a r
  | [], a => ⟨List.mem_cons_self, fun y h => by
    have := List.mem_singleton.mp h
    subst this
    exact Int.le_refl _⟩
  | b :: r, a => by
    obtain ⟨h1, h2⟩ := maxI_le r (if a < b then b else a)
    have e : maxI a (b :: r) = maxI (if a < b then b else a) r := rfl
    rw [e]
    refine ⟨?_, fun y hy => ?_⟩
    · rcases List.mem_cons.mp h1 with q | q
      · rw [q]
        split
        · exact List.mem_cons_of_mem _ List.mem_cons_self
        · exact List.mem_cons_self
      · exact List.mem_cons_of_mem _ (List.mem_cons_of_mem _ q)
    · have h3 := h2 _ List.mem_cons_self
      have h4 : a ≤ (if a < b then b else a) := by split <;> omega
      have h5 : b ≤ (if a < b then b else a) := by split <;> omega
      rcases List.mem_cons.mp hy with rfl | hy
      · omega
      · rcases List.mem_cons.mp hy with rfl | hy
        · omega
        · exact h2 y (List.mem_cons_of_mem _ hy)
theorem nu2min (i j : Int) : nuMin2 (.int i) (.int j) = some (.int (if j < i then j else i)) := by
  show some (if decide (j < i) = true then V.int j else V.int i) = _
  by_cases h : j < i
  · rw [decide_eq_true h, if_pos rfl, if_pos h]
  · rw [decide_eq_false h, if_neg Bool.false_ne_true, if_neg h]
theorem nu2max (i j : Int) : nuMax2 (.int i) (.int j) = some (.int (if i < j then j else i)) := by
  show some (if decide (i < j) = true then V.int j else V.int i) = _
  by_cases h : i < j
  · rw [decide_eq_true h, if_pos rfl, if_pos h]
  · rw [decide_eq_false h, if_neg Bool.false_ne_true, if_neg h]
theorem nu3min (i j k : Int) : nuMin3 (.int i) (.int j) (.int k) = some (.int (if k < (if j < i then j else i) then k else (if j < i then j else i))) := by
  unfold nuMin3
  rw [nu2min]
  exact nu2min _ _
theorem nu3max (i j k : Int) : nuMax3 (.int i) (.int j) (.int k) = some (.int (if (if i < j then j else i) < k then k else (if i < j then j else i))) := by
  unfold nuMax3
  rw [nu2max]
  exact nu2max _ _
theorem sort_uniq {ns ms : List Int} (p : ms.Perm ns) (s : ms.Pairwise (· ≤ ·)) : ms = ns.mergeSort fun a b => decide (a ≤ b) := by
  have h := List.pairwise_mergeSort (le := fun a b : Int => decide (a ≤ b)) (fun a b c h1 h2 => by simp at *; omega) (fun a b => by simp; omega) ns
  refine List.Perm.eq_of_pairwise (le := fun a b => a ≤ b) (fun a b _ _ h1 h2 => Int.le_antisymm h1 h2) s (h.imp fun q => of_decide_eq_true q) (p.trans (List.mergeSort_perm ns _).symm)
mutual
theorem RD.reads {pins : List (Addr × Obj)} {s : Shared} {σ : L2.St} {Z : Addr → Prop} (I : Inv X pins σ H s) : ∀ {v : V} {d : D} {u : Value}, RD X.K Z H v d → d.hasDict = false → RelV v u → ∃ as, Reads s.heap u d as
  | _, _, _, .none, _, r => by
    cases r
    exact ⟨_, Reads.none⟩
  | _, _, _, .bool b, _, r => by
    cases r
    exact ⟨_, Reads.bool b⟩
  | _, _, _, .int i, _, r => by
    obtain ⟨t, rfl⟩ := r
    exact ⟨_, Reads.int i t⟩
  | _, _, _, .str i, _, r => by
    obtain ⟨t, rfl⟩ := r
    exact ⟨_, Reads.str i t⟩
  | _, _, _, .tuple hs w, hd, r => by
    cases r
    obtain ⟨its, rv, ⟨o, ho, hc, n, hda⟩, _⟩ := I.tuple hs
    obtain ⟨as, hr⟩ := RDs.reads I w hd rv
    exact ⟨_, Reads.tuple ho hc hda hr⟩
  | _, _, _, .list hs w, hd, r => by
    cases r
    obtain ⟨its, rv, ⟨o, n, ho, hc, _, hda⟩, _⟩ := I.list hs.seq
    obtain ⟨as, hr⟩ := RDs.reads I w hd rv
    exact ⟨_, Reads.list ho hc hda hr⟩
  | _, _, _, .dict _ _ _, hd, _ => by simp [PyData.hasDict] at hd
theorem RDs.reads {pins : List (Addr × Obj)} {s : Shared} {σ : L2.St} {Z : Addr → Prop} (I : Inv X pins σ H s) : ∀ {vs : List V} {ds : List D} {us : List Value}, RDs X.K Z H vs ds → PyData.hasDictAll ds = false → Vals vs us → ∃ as, ReadsAll s.heap us ds as
  | _, _, _, .nil, _, r => by
    cases r
    exact ⟨_, ReadsAll.nil⟩
  | _, _, _, .cons w t, hd, r => by
    simp only [PyData.hasDictAll, Bool.or_eq_false_iff] at hd
    cases r with
    | cons r1 r2 =>
      obtain ⟨as, h1⟩ := RD.reads I w hd.1 r1
      obtain ⟨bs, h2⟩ := RDs.reads I t hd.2 r2
      exact ⟨_, ReadsAll.cons h1 h2⟩
end
theorem RT.reads {pins : List (Addr × Obj)} {s : Shared} {σ : L2.St} {u : Value} (I : Inv X pins σ H s) (h : RT X.K g H x d) (hd : d.hasDict = false) (r : RelV x u) : ∃ as, Reads s.heap u d as := by
  rcases h with h | ⟨a, rfl, h⟩
  · exact h.reads I hd r
  · cases d <;> try exact h.elim
    · obtain ⟨vs, e, w, _⟩ := h
      cases r
      obtain ⟨its, rv, ⟨o, n, ho, hc, _, hda⟩, _⟩ := I.list (.inl (.inl e))
      obtain ⟨as, hr⟩ := RDs.reads I w hd rv
      exact ⟨_, Reads.list ho hc hda hr⟩
    · simp [PyData.hasDict] at hd
/-- an empty dict -/
theorem reads_dict0 {pins : List (Addr × Obj)} {s : Shared} {σ : L2.St} {a : Addr} (I : Inv X pins σ H s) (sd : Rd H a (.dK [])) : ∃ as, Reads s.heap (.ref a) (.dict []) as ∧ sysModules ∉ as := by
  have ob : ObjOk X.prog X.w H s.heap a (.dK []) := by
    rcases sd with sd | ⟨o, sd⟩
    · exact I.hok _ _ sd
    · exact (I.hok _ _ sd).2
  obtain ⟨_, hb, vs, kv, o, es, ep, ho, hx, hda, _, hp, _⟩ := ob
  cases kv
  have e : es.toList = [] := by
    have := hp
    cases q : es.toList with
    | nil => rfl
    | cons _ _ =>
      rw [q] at hp
      cases hp
  refine ⟨[a], Reads.dict (as := []) (bs := []) ho hx.1 hda ?_ ?_, fun m => ?_⟩
  · rw [e]
    exact .nil
  · rw [e]
    exact .nil
  · have := List.mem_singleton.mp m
    subst this
    simp at hb
mutual
theorem RD.reads2 {pins : List (Addr × Obj)} {s : Shared} {σ : L2.St} {Z : Addr → Prop} (I : Inv X pins σ H s) : ∀ {v : V} {d : D} {u : Value}, RD X.K Z H v d → dOk d = true → RelV v u → ∃ as, Reads s.heap u d as ∧ sysModules ∉ as
  | _, _, _, .none, _, r => by
    cases r
    exact ⟨_, Reads.none, List.not_mem_nil⟩
  | _, _, _, .bool b, _, r => by
    cases r
    exact ⟨_, Reads.bool b, List.not_mem_nil⟩
  | _, _, _, .int i, _, r => by
    obtain ⟨t, rfl⟩ := r
    exact ⟨_, Reads.int i t, List.not_mem_nil⟩
  | _, _, _, .str i, _, r => by
    obtain ⟨t, rfl⟩ := r
    exact ⟨_, Reads.str i t, List.not_mem_nil⟩
  | _, _, _, .tuple hs w, hd, r => by
    cases r
    obtain ⟨its, rv, ⟨o, ho, hc, n, hda⟩, _⟩ := I.tuple hs
    obtain ⟨as, hr, hn⟩ := RDs.reads2 I w hd rv
    exact ⟨_, Reads.tuple ho hc hda hr, hn⟩
  | _, _, _, .list hs w, hd, r => by simp [dOk] at hd
  | _, _, _, .dict (a := a) z sd w, hd, r => by
    cases r
    cases w with
    | cons _ _ => simp [dOk] at hd
    | nil =>
      have ob : ObjOk X.prog X.w H s.heap a (.dK []) := by
        rcases sd with sd | ⟨o, sd⟩
        · exact I.hok _ _ sd
        · exact (I.hok _ _ sd).2
      obtain ⟨_, hb, vs, kv, o, es, ep, ho, hx, hda, _, hp, _⟩ := ob
      cases kv
      have e : es.toList = [] := by
        have := hp
        cases q : es.toList with
        | nil => rfl
        | cons _ _ =>
          rw [q] at hp
          cases hp
      refine ⟨[a], Reads.dict (as := []) (bs := []) ho hx.1 hda ?_ ?_, fun m => ?_⟩
      · rw [e]
        exact .nil
      · rw [e]
        exact .nil
      · have := List.mem_singleton.mp m
        subst this
        simp at hb
theorem RDs.reads2 {pins : List (Addr × Obj)} {s : Shared} {σ : L2.St} {Z : Addr → Prop} (I : Inv X pins σ H s) : ∀ {v : List V} {d : List D} {u : List Value}, RDs X.K Z H v d → dOks d = true → Vals v u → ∃ as, ReadsAll s.heap u d as ∧ sysModules ∉ as
  | _, _, _, .nil, _, r => by
    cases r
    exact ⟨_, ReadsAll.nil, List.not_mem_nil⟩
  | _, _, _, .cons w t, hd, r => by
    obtain ⟨h1, h2⟩ := Bool.and_eq_true_iff.mp (show (dOk _ && dOks _) = true from hd)
    cases r with
    | cons r1 r2 =>
      obtain ⟨as, a1, a2⟩ := RD.reads2 I w h1 r1
      obtain ⟨bs, b1, b2⟩ := RDs.reads2 I t h2 r2
      exact ⟨_, ReadsAll.cons a1 b1, fun m => (List.mem_append.mp m).elim a2 b2⟩
end
theorem RT.reads2 {pins : List (Addr × Obj)} {s : Shared} {σ : L2.St} {u : Value} (I : Inv X pins σ H s) (h : RT X.K g H x d) (hd : d.hasDict = false ∨ dOk d = true) (r : RelV x u) : ∃ as, Reads s.heap u d as ∧ (d.hasDict = true → sysModules ∉ as) := by
  rcases hd with hd | hd
  · obtain ⟨as, w⟩ := h.reads I hd r
    exact ⟨as, w, PyData.noDict_hsm hd⟩
  · rcases h with h | ⟨a, rfl, h⟩
    · obtain ⟨as, w, n⟩ := h.reads2 I hd r
      exact ⟨as, w, fun _ => n⟩
    · cases d <;> try exact h.elim
      · simp [dOk] at hd
      · obtain ⟨kvs, e, w, _⟩ := h
        cases w with
        | cons _ _ => simp [dOk] at hd
        | nil =>
          cases r
          obtain ⟨as, h1, h2⟩ := reads_dict0 I (.inl e)
          exact ⟨as, h1, fun _ => h2⟩
theorem wc_repr (hg : X.A.guards = some []) (hu : X.A.units + 150 < cLine) (hx : RT K g H x d) (eK : X.K = K) (h : showOk d = true) (q : Q (.str d.shown) H) : WC X (.builtin "repr") [x] H Q := by
  subst eK
  simp only [showOk, Bool.and_eq_true, Bool.or_eq_true, decide_eq_true_eq, Bool.not_eq_true'] at h
  obtain ⟨⟨⟨h1, hl⟩, h3⟩, h4⟩ := h
  have h2 : d.shown.length ≤ sizeLine := of_decide_eq_true hl
  intro pins s σ us I r
  obtain ⟨u, eu, ru⟩ := vals1 r
  subst eu
  cases d with
  | none =>
    have e := hx.none
    subst e
    cases ru
    exact PySem.P.repr_of_none ⟨.str _, H, I.tok _, ⟨_, rfl⟩, q⟩
  | bool b =>
    have e := hx.bool
    subst e
    cases ru
    exact PySem.P.repr_of_bool ⟨.str _, H, I.tok _, ⟨_, rfl⟩, q⟩
  | int i =>
    have e := hx.int
    subst e
    obtain ⟨t, rfl⟩ := ru
    simp only [PyData.showable, decide_eq_true_eq] at h3
    exact PySem.P.repr_of_int h3 ⟨.str _, H, I.tok _, ⟨_, rfl⟩, q⟩
  | str z =>
    have e := hx.str
    subst e
    obtain ⟨t, rfl⟩ := ru
    exact PySem.P.repr_of_str ⟨.str _, H, I.tok _, ⟨_, rfl⟩, by simpa only [PyData.shown] using q⟩ (by simpa only [PyData.shown] using h2)
  | list ds =>
    obtain ⟨as, w, hm⟩ := hx.reads2 I h4 ru
    obtain ⟨a, vs, rfl, _⟩ := hx.list
    cases ru
    exact repr_of_reads' w h3 hm hg (by omega) (fun _ _ e => e) (fun h' u tk hk => ⟨.str _, H, I.kept hk, ⟨_, rfl⟩, q⟩) h2
  | tuple ds =>
    obtain ⟨as, w, hm⟩ := hx.reads2 I h4 ru
    obtain ⟨a, vs, rfl, _⟩ := hx.tuple
    cases ru
    exact repr_of_reads' w h3 hm hg (by omega) (fun _ _ e => e) (fun h' u tk hk => ⟨.str _, H, I.kept hk, ⟨_, rfl⟩, q⟩) h2
  | dict ds =>
    obtain ⟨as, w, hm⟩ := hx.reads2 I h4 ru
    rcases hx with hx | ⟨a, rfl, hx⟩
    · cases hx with
      | dict z s r =>
        cases ru
        exact repr_of_reads' w h3 hm hg (by omega) (fun _ _ e => e) (fun h' u tk hk => ⟨.str _, H, I.kept hk, ⟨_, rfl⟩, q⟩) h2
    · cases ru
      exact repr_of_reads' w h3 hm hg (by omega) (fun _ _ e => e) (fun h' u tk hk => ⟨.str _, H, I.kept hk, ⟨_, rfl⟩, q⟩) h2
theorem blt_ok {f : Blt} {xs : List V} {ds : List D} {b : Bool} {r : D} (hg : X.A.guards = some []) (hu : X.A.units + 150 < cLine) (hc : X.calm = true) (hx : RTs K g H xs ds) (eK : X.K = K) (ok : Ok K g H st) (h : bltF f ds = some (b, r)) (q : Fin K pk g H st ⟨b, .dat r⟩ Q) : WC X (bltV f) xs H Q := by
  subst eK
  cases hx with
  | nil => cases f <;> simp [bltF] at h
  | cons h1 t =>
    cases t with
    | nil =>
      rename_i v d
      cases f
      case len =>
        cases d <;> simp only [bltF] at h <;> try cases h
        · have e := h1.str
          subst e
          cases hz : fits _ <;> rw [hz] at h <;> cases h
          exact WC.of call_len_str ⟨_, rfl, of_decide_eq_true hz, q.plain ok (.int _)⟩
        · obtain ⟨a, vs, rfl, s, w⟩ := h1.list
          exact WC.of call_len_seq ⟨a, vs, rfl, .inl s, by rw [w.length]; exact q.plain ok (.int _)⟩
        · obtain ⟨a, vs, rfl, s, w, _⟩ := h1.tuple
          exact WC.of call_len_seq ⟨a, vs, rfl, .inr s, by rw [w.length]; exact q.plain ok (.int _)⟩
      case abs =>
        cases d <;> simp only [bltF] at h <;> try cases h
        have e := h1.int
        subst e
        rename_i i
        refine WC.of call_abs ⟨_, rfl, ?_⟩
        rw [show (if i < 0 then -i else i) = ((i.natAbs : Nat) : Int) by split <;> omega]
        exact q.plain ok (.int _)
      case int =>
        cases d <;> simp only [bltF] at h <;> try cases h
        · have e := h1.bool
          subst e
          exact WC.of call_int1 (.inr ⟨_, rfl, q.plain ok (.int _)⟩)
        · have e := h1.int
          subst e
          exact WC.of call_int1 (.inl ⟨_, rfl, q.plain ok (.int _)⟩)
      case tuple =>
        cases d <;> simp only [bltF] at h <;> try cases h
        · obtain ⟨a, vs, rfl, s, w⟩ := h1.list
          exact WC.of call_tuple_of ⟨a, vs, rfl, .inl ⟨s, fun l n => q.tup ok w n⟩⟩
        · obtain ⟨a, vs, rfl, s, w, w1⟩ := h1.tuple
          exact WC.of call_tuple_of ⟨a, vs, rfl, .inr ⟨s, q.plain ok w1⟩⟩
      case list =>
        cases d <;> simp only [bltF] at h <;> try cases h
        · obtain ⟨a, vs, rfl, s, w⟩ := h1.list
          exact WC.of call_list_of ⟨a, vs, rfl, .inl s, fun l n => q.lst ok w n⟩
        · obtain ⟨a, vs, rfl, s, w, w1⟩ := h1.tuple
          exact WC.of call_list_of ⟨a, vs, rfl, .inr s, fun l n => q.lst ok w n⟩
      case str =>
        cases d <;> simp only [bltF] at h <;> try cases h
        have e := h1.int
        subst e
        rename_i i
        cases hz : decide (i.natAbs.log2 < 1920) <;> rw [hz] at h <;> cases h
        exact WC.of call_str_int ⟨_, rfl, of_decide_eq_true hz, q.plain ok (.str _)⟩
      case repr =>
        simp only [bltF] at h
        cases hz : showOk d <;> rw [hz] at h <;> cases h
        exact wc_repr hg hu h1 rfl hz (q.plain ok (.str _))
      case any =>
        cases d <;> simp only [bltF] at h <;> try cases h
        obtain ⟨a, vs, rfl, s, w⟩ := h1.list
        rename_i ds
        cases hb : boolsOf ds with
        | none =>
          rw [hb] at h
          cases h
        | some c =>
          rw [hb] at h
          cases h
          exact WC.of (cr_any hc) ⟨a, c, rfl, by rw [← w.bools hb]; exact s, q.plain ok (.bool _)⟩
      case all =>
        cases d <;> simp only [bltF] at h <;> try cases h
        obtain ⟨a, vs, rfl, s, w⟩ := h1.list
        rename_i ds
        cases hb : boolsOf ds with
        | none =>
          rw [hb] at h
          cases h
        | some c =>
          rw [hb] at h
          cases h
          exact WC.of (cr_all hc) ⟨a, c, rfl, by rw [← w.bools hb]; exact s, q.plain ok (.bool _)⟩
      case min =>
        cases d <;> simp only [bltF] at h <;> try cases h
        obtain ⟨a, vs, rfl, s, w⟩ := h1.list
        rename_i ds
        rcases hb : intsOf ds with _ | (_ | ⟨c, cs⟩) <;> rw [hb] at h <;> cases h
        obtain ⟨m1, m2⟩ := minI_le cs c
        refine WC.of (cr_min hc) ⟨a, c :: cs, rfl, by rw [← w.ints hb]; exact s, Nat.succ_pos _, fun m h1 h2 => ?_⟩
        have e : m = minI c cs := Int.le_antisymm (h2 _ m1) (m2 _ h1)
        rw [e]
        exact q.plain ok (.int _)
      case max =>
        cases d <;> simp only [bltF] at h <;> try cases h
        obtain ⟨a, vs, rfl, s, w⟩ := h1.list
        rename_i ds
        rcases hb : intsOf ds with _ | (_ | ⟨c, cs⟩) <;> rw [hb] at h <;> cases h
        obtain ⟨m1, m2⟩ := maxI_le cs c
        refine WC.of (cr_max hc) ⟨a, c :: cs, rfl, by rw [← w.ints hb]; exact s, Nat.succ_pos _, fun m h1 h2 => ?_⟩
        have e : m = maxI c cs := Int.le_antisymm (m2 _ h1) (h2 _ m1)
        rw [e]
        exact q.plain ok (.int _)
      case sum =>
        cases d <;> simp only [bltF] at h <;> try cases h
        obtain ⟨a, vs, rfl, s, w⟩ := h1.list
        rename_i ds
        rcases hb : intsOf ds with _ | cs <;> rw [hb] at h <;> cases h
        exact WC.of (cr_sum hc) ⟨a, cs, rfl, by rw [← w.ints hb]; exact s, q.plain ok (.int _)⟩
      case sorted =>
        cases d <;> simp only [bltF] at h <;> try cases h
        obtain ⟨a, vs, rfl, s, w⟩ := h1.list
        rename_i ds
        rcases hb : intsOf ds with _ | cs <;> rw [hb] at h <;> cases h
        refine WC.of cr_sortedI ⟨a, cs, rfl, by rw [← w.ints hb]; exact s, fun ms p hp hs hn => ?_⟩
        rw [sort_uniq hp hs]
        exact q.lst ok (RDs.ofInts _) hn
      all_goals (cases d <;> simp [bltF] at h)
    | cons h2 t =>
      cases t with
      | nil =>
        rename_i v d w e
        cases f
        case min =>
          cases d <;> cases e <;> simp only [bltF] at h <;> try cases h
          have e1 := h1.int
          have e2 := h2.int
          subst e1 e2
          exact WC.of (call_min2 hc) ⟨_, _, rfl, q.plain ok (.int _)⟩
        case max =>
          cases d <;> cases e <;> simp only [bltF] at h <;> try cases h
          have e1 := h1.int
          have e2 := h2.int
          subst e1 e2
          exact WC.of (call_max2 hc) ⟨_, _, rfl, q.plain ok (.int _)⟩
        case gcd =>
          cases d <;> cases e <;> simp only [bltF] at h <;> try cases h
          have e1 := h1.int
          have e2 := h2.int
          subst e1 e2
          exact WC.of cr_gcd ⟨_, _, rfl, q.plain ok (.int _)⟩
        all_goals (cases d <;> cases e <;> simp [bltF] at h)
      | cons h3 t =>
        rename_i v d w e z k us es
        cases t with
        | nil =>
          cases f
          case min =>
            cases d <;> cases e <;> cases us <;> simp only [bltF] at h <;> try cases h
            have e1 := h1.int
            have e2 := h2.int
            have e3 := h3.int
            subst e1 e2 e3
            exact WC.of (call_min3Nu hc) ⟨_, _, _, _, rfl, nu3min _ _ _, q.plain ok (.int _)⟩
          case max =>
            cases d <;> cases e <;> cases us <;> simp only [bltF] at h <;> try cases h
            have e1 := h1.int
            have e2 := h2.int
            have e3 := h3.int
            subst e1 e2 e3
            exact WC.of (call_max3Nu hc) ⟨_, _, _, _, rfl, nu3max _ _ _, q.plain ok (.int _)⟩
          all_goals simp [bltF] at h
        | cons h4 t =>
          cases t with
          | cons h5 t => cases f <;> simp [bltF] at h
          | nil =>
            rename_i v4 d4
            cases f
            case gcd =>
              cases d <;> cases e <;> cases us <;> cases d4 <;> simp only [bltF] at h <;> try cases h
              have e1 := h1.int
              have e2 := h2.int
              have e3 := h3.int
              have e4 := h4.int
              subst e1 e2 e3 e4
              exact WC.of cr_gcd4 ⟨_, _, _, _, rfl, q.plain ok (.int _)⟩
            all_goals simp [bltF] at h
end
end MP
/-! What holds behind an expression: wishes, contexts, promises of defs. -/
namespace MP
open PySem PyProof.Rows L2 PySem.Spec
/-! ### the weakest readings -/
def WE (X : Cx) (e : Expr) : TE := fun σ H Q => ∀ (pins : List (Addr × Obj)) (s : Shared), Inv X pins σ H s → wpAny (model X.prog X.w) X.A (eval e X.env) (EP X pins σ Q) X.xe s
def WT (X : Cx) (e : Expr) : TT := fun σ H Q => ∀ (pins : List (Addr × Obj)) (s : Shared), Inv X pins σ H s → wpAny (model X.prog X.w) X.A (isTrue e X.env (eval e X.env)) (TP X pins σ Q) X.xe s
def WW (X : Cx) (e : Expr) : TT := fun σ H Q => ∀ (whole : Sem Value) (pins : List (Addr × Obj)) (s : Shared), Inv X pins σ H s → wpAny (model X.prog X.w) X.A (isTrue e X.env whole) (TP X pins σ Q) X.xe s
def WA (X : Cx) (es : List Expr) : TA := fun σ H Q => ∀ (pos : Pos) (pins : List (Addr × Obj)) (s : Shared), Inv X pins σ H s → wpAny (model X.prog X.w) X.A (spliced (backTo pos (starEach es X.env))) (AP X pins σ Q) X.xe s
def WP (X : Cx) (e : Option Expr) : TO := fun σ H Q => ∀ (pins : List (Addr × Obj)) (s : Shared), Inv X pins σ H s → wpAny (model X.prog X.w) X.A (evalPart e X.env) (fun u s' => ∃ o H', Inv X pins σ H' s' ∧ IsPart u o ∧ Q o H') X.xe s
def WI (X : Cx) (tg iter : Expr) : TI := fun σ H R => ∀ (pins : List (Addr × Obj)) (s : Shared), Inv X pins σ H s → wpAny (model X.prog X.w) X.A (eval iter X.env) (fun v s1 => wpAny (model X.prog X.w) X.A (pyIter v) (PIE X pins σ tg R) X.xe s1) X.xe s
def WS (X : Cx) (st : Stmt) : TS := fun D σ H => ∀ (pins : List (Addr × Obj)) (s : Shared), Inv X pins σ H s → wpAny (model X.prog X.w) X.A (exec st X.env) (SP X pins D) X.xe s
def WSs (X : Cx) (st : List Stmt) : TS := fun D σ H => ∀ (pins : List (Addr × Obj)) (s : Shared), Inv X pins σ H s → wpAny (model X.prog X.w) X.A (execs st X.env) (SP X pins D) X.xe s
section
variable {X : Cx} {e : Expr}
theorem pe_we : PE X e (WE X e) := ⟨fun pins s σ H Q I h => h pins s I⟩
theorem pt_wt : PT X e (WT X e) := ⟨fun pins s σ H Q I h => h pins s I⟩
theorem pw_ww : PW X e (WW X e) := ⟨fun w pins s σ H Q I h => h w pins s I⟩
theorem pa_wa {es : List Expr} : PA X es (WA X es) := ⟨fun pos pins s σ H Q I h => h pos pins s I⟩
theorem po_wp {o : Option Expr} : PO X o (WP X o) := ⟨fun pins s σ H Q I h => h pins s I⟩
theorem pi_wi {tg : Expr} : PI X tg e (WI X tg e) := ⟨fun pins s σ H Q I h => h pins s I⟩
theorem ps_ws {st : Stmt} : PS X st (WS X st) := ⟨fun pins s σ H D I h => h pins s I⟩
theorem pss_wss {st : List Stmt} : PSs X st (WSs X st) := ⟨fun pins s σ H D I h => h pins s I⟩
theorem WE.of {t : TE} {σ : L2.St} {H : Hp} {Q : VK} (h : PE X e t) (q : t σ H Q) : WE X e σ H Q := fun pins s I => h.run pins s σ H Q I q
theorem WT.of {t : TT} {σ : L2.St} {H : Hp} {Q : Bool → Hp → Prop} (h : PT X e t) (q : t σ H Q) : WT X e σ H Q := fun pins s I => h.run pins s σ H Q I q
theorem WW.of {t : TT} {σ : L2.St} {H : Hp} {Q : Bool → Hp → Prop} (h : PW X e t) (q : t σ H Q) : WW X e σ H Q := fun w pins s I => h.run w pins s σ H Q I q
theorem WA.of {es : List Expr} {t : TA} {σ : L2.St} {H : Hp} {Q : List V → Hp → Prop} (h : PA X es t) (q : t σ H Q) : WA X es σ H Q := fun pos pins s I => h.run pos pins s σ H Q I q
theorem WP.of {o : Option Expr} {t : TO} {σ : L2.St} {H : Hp} {Q : Option Int → Hp → Prop} (h : PO X o t) (q : t σ H Q) : WP X o σ H Q := fun pins s I => h.run pins s σ H Q I q
theorem WI.of {tg : Expr} {t : TI} {σ : L2.St} {H : Hp} {R : L2.It → Hp → Prop} (h : PI X tg e t) (q : t σ H R) : WI X tg e σ H R := fun pins s I => h.run pins s σ H R I q
theorem WS.of {st : Stmt} {t : TS} {σ : L2.St} {H : Hp} {D : Ends} (h : PS X st t) (q : t D σ H) : WS X st D σ H := fun pins s I => h.run pins s σ H D I q
theorem WSs.of {st : List Stmt} {t : TS} {σ : L2.St} {H : Hp} {D : Ends} (h : PSs X st t) (q : t D σ H) : WSs X st D σ H := fun pins s I => h.run pins s σ H D I q
theorem WE.mono {σ : L2.St} {H : Hp} {Q Q' : VK} (h : WE X e σ H Q) (q : ∀ v H', Q v H' → Q' v H') : WE X e σ H Q' := fun pins s I => thn (h pins s I) fun u s' ⟨v, H', J, r, w⟩ => ⟨v, H', J, r, q v H' w⟩
def wop (X : Cx) (f : Value → Value → Sem Value) : R2 := fun x y H Q => WO X f x y H Q
theorem op_wo {f : Value → Value → Sem Value} : OpR X f (wop X f) := fun pins s σ H x y v u Q I rx ry h => h pins s σ v u I rx ry
def wcr (X : Cx) (f : Value) : List V → Hp → VK → Prop := fun xs H Q => WC X f xs H Q
theorem cr_wc {f : Value} : CallR X f (wcr X f) := fun pins s σ H xs us Q I r h => h pins s σ us I r
end
/-! ### what must follow -/
/-- how an error lies: its class, its own dict -/
def ExcIs (K : PySem.W.Frag) (mg : Str → Option Value) (g : G) (H : Hp) (c : Str) (ds : List (Str × D)) (cls : Value) (d : Option Addr) : Prop :=
  mg c = some cls ∧ match ds with
    | [] => d = none
    | _ :: _ => ∃ dd fs, d = some dd ∧ H dd = some (.xd fs) ∧ fs.map (·.1) = ds.map (·.1) ∧ RDs K g.Z H (fs.map (·.2)) (ds.map (·.2))
def Post {α β : Type} (K : PySem.W.Frag) (mg : Str → Option Value) (W : Value → Option Addr → Hp → Prop) (Rl : Hp → G → Hp → β → α → Prop) (g : G) (H : Hp) (r : R α) (Q : β → Hp → Prop) : Prop := match r with
  | .ok x st => ∀ g' v H', Step g H g' H' → Ok K g' H' st → Rl H g' H' v x → Q v H'
  | .exc c ds st => ∀ g' cls d H', Step g H g' H' → Ok K g' H' st → ExcIs K mg g' H' c ds cls d → W cls d H'
  | .no => False
/-- a relation that looks at the beginning only for what is new -/
def Based {α β : Type} (Rl : Hp → G → Hp → β → α → Prop) : Prop := ∀ H0 H1 g H v x, (∀ a, H1 a = none → H0 a = none) → Rl H1 g H v x → Rl H0 g H v x
abbrev relE (K : PySem.W.Frag) (pk : Bool) : Hp → G → Hp → V → RV → Prop := fun H0 g H v x => ROut K pk g H H0 v x
abbrev relEq {α : Type} : Hp → G → Hp → α → α → Prop := fun _ _ _ v x => v = x
abbrev relV (K : PySem.W.Frag) : Hp → G → Hp → List V → List Val → Prop := fun _ g H v x => RVals K g H v x
abbrev relD (K : PySem.W.Frag) : Hp → G → Hp → List V → List D → Prop := fun _ g H v x => RDs K g.Z H v x
abbrev relT (K : PySem.W.Frag) : Hp → G → Hp → List V → List D → Prop := fun _ g H v x => RTs K g H v x
section
variable {K : PySem.W.Frag} {mg : Str → Option Value} {W : Value → Option Addr → Hp → Prop} {g g1 : G} {H H1 H2 : Hp} {st st1 : Store}
theorem based_e {pk : Bool} : Based (relE K pk) := fun H0 H1 g H v x h r => by
  obtain ⟨fr, y⟩ := x
  cases y with
  | loc n => cases fr <;> exact r
  | dat d =>
    cases fr with
    | false => exact r
    | true =>
      obtain ⟨a, e, n, q⟩ := r
      exact ⟨a, e, h a n, q⟩
theorem based_eq {α : Type} : Based (relEq (α := α)) := fun _ _ _ _ _ _ _ r => r
theorem based_v : Based (relV K) := fun _ _ _ _ _ _ _ r => r
theorem based_d : Based (relD K) := fun _ _ _ _ _ _ _ r => r
theorem based_t : Based (relT K) := fun _ _ _ _ _ _ _ r => r
variable {α β γ δ : Type} {Rl : Hp → G → Hp → β → α → Prop} {Rm : Hp → G → Hp → δ → γ → Prop}
theorem Post.later {r : R α} {Q : β → Hp → Prop} (b : Based Rl) (s : Step g H g1 H1) (h : Post K mg W Rl g H r Q) : Post K mg W Rl g1 H1 r Q := by
  cases r with
  | ok x st => exact fun g' v H' s' o q => h g' v H' (s.trans s') o (b _ _ _ _ _ _ s.gone q)
  | exc c ds st => exact fun g' cls d H' s' o q => h g' cls d H' (s.trans s') o q
  | no => exact h
/-- one after another -/
theorem Post.bind {r : R α} {f : α → Store → R γ} {Q : δ → Hp → Prop} {Q1 : β → Hp → Prop} (b : Based Rm) (h : Post K mg W Rm g H (r.bind f) Q)
    (k : ∀ x st g1 v H1, Step g H g1 H1 → Ok K g1 H1 st → Rl H g1 H1 v x → Post K mg W Rm g1 H1 (f x st) Q → Q1 v H1) : Post K mg W Rl g H r Q1 := by
  cases r with
  | ok x st => exact fun g' v H' s o q => k x st g' v H' s o q (h.later b s)
  | exc c ds st => exact h
  | no => exact h
theorem Post.dat {x : RV} {f : D → Store → R γ} {Q : δ → Hp → Prop} (h : Post K mg W Rm g H ((datOf x st).bind f) Q) : ∃ d, x.v = .dat d ∧ Post K mg W Rm g H (f d st) Q := by
  obtain ⟨fr, y⟩ := x
  cases y with
  | dat d => exact ⟨d, rfl, h⟩
  | loc n => exact h.elim
theorem Post.int {x : RV} {f : Int → Store → R γ} {Q : δ → Hp → Prop} (h : Post K mg W Rm g H ((intOf x st).bind f) Q) : ∃ d, x.v = .dat (.int d) ∧ Post K mg W Rm g H (f d st) Q := by
  obtain ⟨fr, y⟩ := x
  cases y with
  | dat d =>
    cases d <;> try exact h.elim
    exact ⟨_, rfl, h⟩
  | loc n => exact h.elim
theorem Post.bool {x : RV} {f : Bool → Store → R γ} {Q : δ → Hp → Prop} (h : Post K mg W Rm g H ((boolOf x st).bind f) Q) : ∃ d, x.v = .dat (.bool d) ∧ Post K mg W Rm g H (f d st) Q := by
  obtain ⟨fr, y⟩ := x
  cases y with
  | dat d =>
    cases d <;> try exact h.elim
    exact ⟨_, rfl, h⟩
  | loc n => exact h.elim
theorem Post.opt {x : Option α} {f : α → Store → R γ} {Q : δ → Hp → Prop} (h : Post K mg W Rm g H ((rOpt x st).bind f) Q) : ∃ d, x = some d ∧ Post K mg W Rm g H (f d st) Q := by
  cases x with
  | some d => exact ⟨d, rfl, h⟩
  | none => exact h.elim
theorem Post.opt' {x : Option α} {Q : β → Hp → Prop} (h : Post K mg W Rl g H (rOpt x st) Q) : ∃ d, x = some d ∧ Post K mg W Rl g H (.ok d st) Q := by
  cases x with
  | some d => exact ⟨d, rfl, h⟩
  | none => exact h.elim
theorem Post.bd {pk : Bool} {x : Option (Bool × D)} {Q : VK} (h : Post K mg W (relE K pk) g H (ofBD x st) Q) : ∃ b d, x = some (b, d) ∧ Fin K pk g H st ⟨b, .dat d⟩ Q := by
  cases x with
  | some d => exact ⟨d.1, d.2, rfl, h⟩
  | none => exact h.elim
theorem Post.bb {pk : Bool} {x : Option Bool} {Q : VK} (h : Post K mg W (relE K pk) g H (ofB x st) Q) : ∃ b, x = some b ∧ Fin K pk g H st (plain (.bool b)) Q := by
  cases x with
  | some d => exact ⟨d, rfl, h⟩
  | none => exact h.elim
theorem Post.cond {c : Bool} {x : R α} {Q : β → Hp → Prop} (h : Post K mg W Rl g H (bif c then x else .no) Q) : c = true ∧ Post K mg W Rl g H x Q := by
  cases c with
  | true => exact ⟨rfl, h⟩
  | false => exact h.elim
end
/-! ### contexts -/
structure CtxOk (X : Cx) (W : WX) (N : List Str) (sc : Scope) (lv : Nat) : Prop where
  eN : X.N = N
  nd : N.Nodup
  kind : sc.kind = .function
  calm : X.calm = true
  guards : X.A.guards = some []
  room : Room lv X.A
  takes : Takes X W
  passes : PassesOwn (model X.prog X.w) X.A X.env X.xe
  look : ∀ x k, sc.names.lookup x = some k → X.env.scope.names.lookup x = some k ∨ (k = .free ∧ X.env.scope.names.lookup x = some .cell)
  fn : ∀ x, sc.names.lookup x = some .cell → X.fn x = true
def isVis (sc : Scope) (x : Str) : Bool := match sc.names.lookup x with
  | some .local => true
  | some .cell => true
  | some .free => true
  | _ => false
def isLoc (sc : Scope) (x : Str) : Bool := match sc.names.lookup x with
  | some .local => true
  | some .cell => true
  | _ => false
def isGl (sc : Scope) (x : Str) : Bool := match sc.names.lookup x with
  | some .globalImplicit => true
  | _ => false
def okName (x : Str) : Bool := !(x == ("__debug__" : Str)) && !(x == ("__classdict__" : Str)) && !(x == ("__name__" : Str))
section
variable {X : Cx} {W : WX} {N : List Str} {sc : Scope} {lv : Nat} {x : Str}
theorem CtxOk.vis (c : CtxOk X W N sc lv) (h : isVis sc x = true) : Vis X.env.scope x := by
  unfold isVis at h
  split at h
  · rename_i e
    rcases c.look x _ e with q | ⟨q, _⟩
    · exact .inl q
    · cases q
  · rename_i e
    rcases c.look x _ e with q | ⟨q, _⟩
    · exact .inr (.inl q)
    · cases q
  · rename_i e
    rcases c.look x _ e with q | ⟨_, q⟩
    · exact .inr (.inr q)
    · exact .inr (.inl q)
  · cases h
theorem CtxOk.loc (c : CtxOk X W N sc lv) (h : isLoc sc x = true) : Loc X.env.scope x ∧ (X.fn x = true ∨ X.env.scope.names.lookup x = some .local) := by
  unfold isLoc at h
  split at h
  · rename_i e
    rcases c.look x _ e with q | ⟨q, _⟩
    · exact ⟨.inl q, .inr q⟩
    · cases q
  · rename_i e
    rcases c.look x _ e with q | ⟨q, _⟩
    · exact ⟨.inr q, .inl (c.fn x e)⟩
    · cases q
  · cases h
theorem CtxOk.gl (c : CtxOk X W N sc lv) (h : isGl sc x = true) : Gl X x := by
  unfold isGl at h
  split at h
  · rename_i e
    rcases c.look x _ e with q | ⟨q, _⟩
    · exact q
    · cases q
  · cases h
theorem okName_debug (h : okName x = true) : (x == ("__debug__" : Str)) = false ∧ (x == ("__classdict__" : Str)) = false ∧ x ≠ "__name__" := by
  unfold okName at h
  simp only [Bool.and_eq_true, Bool.not_eq_true', beq_eq_false_iff_ne, ne_eq] at h
  exact ⟨beq_eq_false_iff_ne.mpr h.1.1, beq_eq_false_iff_ne.mpr h.1.2, h.2⟩
theorem lookup_relabel {env : PySem.Env} : ∀ {names : List (Str × NameKind)} {x : Str} {k : NameKind}, names.lookup x = some k →
    (names.map fun (n, k) => if (k == NameKind.free && env.scope.kind == .function && env.kindOf n == some .cell) then (n, NameKind.cell) else (n, k)).lookup x = some k ∨
    (k = .free ∧ (names.map fun (n, k) => if (k == NameKind.free && env.scope.kind == .function && env.kindOf n == some .cell) then (n, NameKind.cell) else (n, k)).lookup x = some .cell)
  | [], x, k, h => by simp at h
  | (n, j) :: r, x, k, h => by
    rw [List.map_cons]
    by_cases e : x = n
    · subst e
      rw [List.lookup_cons_self] at h
      cases h
      dsimp only
      split
      · rename_i c
        simp only [Bool.and_eq_true, beq_iff_eq] at c
        exact .inr ⟨c.1.1, List.lookup_cons_self⟩
      · exact .inl List.lookup_cons_self
    · have ne : (x == n) = false := beq_eq_false_iff_ne.mpr e
      rw [List.lookup_cons, ne] at h
      have ih := lookup_relabel (env := env) (names := r) (x := x) (k := k) h
      dsimp only
      split <;> (rw [List.lookup_cons, ne]; exact ih)
end
end MP
/-! Errors of the program's own, made: a class whose own __init__ only says super().__init__ of a text. -/
namespace MP
open PySem PySem.W PySem.Calls PyProof.Rows
/-- the text of __init__ -/
def init0B : List Stmt → Bool
  | [.Expr (.Call (.Attribute (.Call (.Name x _) [] [] _) n p2) [.Constant (.str _) _ _] [] p4) _] => x == "super" && n == "__init__" && p2.endLine == p4.line
  | _ => false
def init0A (a : Arguments) : Bool := (match a.args with | [b] => b.arg == "self" | _ => false) && a.posonlyargs.isEmpty && a.vararg.isNone && a.kwonlyargs.isEmpty && a.kwarg.isNone && a.defaults.isEmpty
def init0S (sc : Scope) : Bool := sc.names.lookup ("self" : Str) == some .local && sc.names.lookup ("super" : Str) == some .globalImplicit && sc.names.lookup ("__class__" : Str) == some .free && sc.kind == .function && !sc.isGenerator && !sc.isCoroutine && sc.names.all fun x => x.2 != .cell
abbrev veL : List Value := [.type "ValueError", .type "Exception", .type "BaseException", .type "object"]
structure Ex0 (prog : Program) (K : Frag) (C : Addr) : Prop where
  cls : ∃ nm q N bs bm sn sub ab col dd k0 k1 k2 k3 k5, K.lookup C = some (excClassObj nm q C N bs bm true sn sub ab col dd k0 k1 k2 k3 k5 "ValueError.__new__") ∧ HandSPX.refsVE bm = true
  exC : subIn K (.ref C) (.type "BaseException") = some true
  veC : subIn K (.ref C) (.type "ValueError") = some true
  tyC : typeIn K (.ref C) = some (.type "type")
  kC : keepIn K (.ref C) = true
  sup : ks_superIn K C C "__init__" = some (some (.builtin "ValueError.__init__"))
  mro : mroIn K C (.ref C) = some true
  exi : excInitIn K C veL "ValueError.__new__" = true
  nsup : nsIn K mainGlobals "super" = some none
  nany : nsIn K cStatics "thirdparty.any" = some none
  htop : (prog.main.scope.names.lookup ("super" : Str)).isSome = false
  fn : ∃ (fI cda cc : Addr) (oc ccl cl dV kV doc pm ct : Value) (od cdd cld an : Option Addr) (osl ccs csl : Array (Option Value)) (vs : Array Value) (file : Str) (tf : Tok) (qual : Str) (args : Arguments) (body : List Stmt) (scope : Scope),
    findIn K (.ref C) "__init__" = some (some (.ref fI)) ∧ typeIn K (.ref fI) = some (.type "function") ∧
    K.lookup fI = some ⟨oc, od, .func (ksFn "__init__" qual args body scope dV kV doc pm an (.ref cda) ct cc), osl⟩ ∧ codeIn K (.ref cda) qual = true ∧
    K.lookup cda = some ⟨ccl, cdd, .fields vs, ccs⟩ ∧ vs[2]? = some (.str file tf) ∧ ((prog.main.file : Str) == file) = true ∧
    K.lookup cc = some ⟨cl, cld, .cell (some (.ref C)), csl⟩ ∧ init0B body = true ∧ init0A args = true ∧ init0S scope = true ∧
    (∀ (s : Shared) (u : Value), BindsTo s (ksFn "__init__" qual args body scope dV kV doc pm an (.ref cda) ct cc) ⟨[u], []⟩ [("self", u)])
section
variable {prog : Program} {w : World} {A : Around} {E : Value → Shared → Prop} {R : Result → Shared → Prop} {s : Shared} {K : Frag} {mg : Str → Option Value} {base : Heap} {C : Addr}
theorem super_node {q : Str} {scope : Scope} {p0 p1 : Pos} {attr : Str} {whole : Sem Value} {fd : FuncData} {ar : Arg} {vs : Array Value} {file : Str} {tf : Tok} {oc ccl cl : Value} {od cdd cld : Option Addr} {osl ccs csl : Array (Option Value)} {cdD : ClassData} {Q : Value → Shared → Prop}
    {h₀ : Heap} {L f cda cc x D : Addr} {m mb : Str → Option Value} {news : List (Addr × Obj)} {ox : Obj} {odx : Option Obj} {stm : List Stmt}
    (F : Fr h₀ L s.heap m) (X₀ : K.In h₀) (N : News h₀ L s.heap news) (Tg : h₀.Ns mainGlobals mg) (Tb : h₀.Ns builtinsNs mb) (Tv : ∀ x : Str, x ≠ "__name__" → mb x = bootBuiltins x)
    (hf : K.lookup f = some ⟨oc, od, .func fd, osl⟩) (hp : (fd.params.posonlyargs ++ fd.params.args).head? = some ar) (hv : m ar.arg = some (.ref x)) (I : InstAt s.heap x ox C odx)
    (hcode : K.lookup cda = some ⟨ccl, cdd, .fields vs, ccs⟩) (hvs : vs[2]? = some (.str file tf)) (hfile : ((prog.main.file : Str) == file) = true)
    (hcell : K.lookup cc = some ⟨cl, cld, .cell (some (.ref D)), csl⟩) (hD : clsIn K D = some cdD) (hsub : mroIn K C (.ref D) = some true) (hsuper : nsIn K mainGlobals "super" = some none)
    (hat : (attr == ("__class__" : Str)) = false) (hks : scope.names.lookup ("super" : Str) = some .globalImplicit) (hkc : scope.names.lookup ("__class__" : Str) = some .free) (hka : scope.names.lookup ar.arg = some .local) (hk : scope.kind = .function)
    (htop : (prog.main.scope.names.lookup ("super" : Str)).isSome = false) (hboot : bootBuiltins "super" = some (.type "super"))
    (h : ∀ so h', Fr h₀ L h' m → News h₀ L h' ((so, ks_superObj D x C) :: news) → (∀ p ∈ news, p.1 < so) → Q (.ref so) { s with heap := h' }) :
    _root_.PySem.wpAt (model prog w) A (.func stm (ksEnv q scope L f (.ref cda) cc)) (attributeBase (.Call (.Name "super" p0) [] [] p1) attr (ksEnv q scope L f (.ref cda) cc) whole) Q E s := by
  have X : K.In s.heap := X₀.keeps F.keep
  obtain ⟨hh, g, d, t, os⟩ := s
  obtain ⟨oD, hD1, hD2⟩ : ∃ oD, hh.get? D = some oD ∧ oD.data = .cls cdD := by
    unfold clsIn at hD
    split at hD
    · rename_i c d cd' sl ho
      cases hD
      exact ⟨_, X _ _ ho, rfl⟩
    · cases hD
  refine ks_wpAt_super_base (env := ksEnv q scope L f (.ref cda) cc) hks hkc hat rfl (X _ _ hf) rfl hp rfl (X _ _ hcode) rfl hvs hfile htop ?_
  refine ks_loadName_global hk hks (loadGlobal_builtin (env := ksEnv q scope L f (.ref cda) cc) (Tg.keeps F.keep) (mg_none_of X₀ Tg hsuper) (Tb.keeps F.keep) ((Tv _ (by decide +kernel)).trans hboot) ⟨rfl, ?_⟩)
  refine wpAny_loadName_free hk hkc rfl ⟨_, X _ _ hcell, rfl⟩ ?_
  refine wpAny_loadName_local hk hka F.ns hv ?_
  refine ks_wpAny_isType_cls hD1 hD2 ⟨rfl, ?_⟩
  refine ks_wpAny_call_super hD1 hD2 I.at_ I.cls (fun c e => ?_) (looks_mroIn X hsub) (fun h' e k => ?_)
  · have := I.no
    unfold notCls at this
    rw [e] at this
    exact Bool.noConfusion this
  · obtain ⟨F', N', l'⟩ := ks_newsPush (s := ⟨hh, g, d, t, os⟩) F N rfl e k
    exact h _ _ F' N' l'
/-- super().__init__(text), the body of an __init__ -/
theorem init0_body {q : Str} {scope : Scope} {p0 p1 p2 p3 p4 p5 : Pos} {j : Nat} {msg : Str} {fd : FuncData} {ar : Arg} {vs : Array Value} {file : Str} {tf : Tok} {oc ccl cl : Value} {od cdd cld : Option Addr} {osl ccs csl : Array (Option Value)} {Q : Flow → Shared → Prop}
    {h₀ : Heap} {L f cda cc x t0 : Addr} {m mb : Str → Option Value} {stm : List Stmt}
    (T : Ex0 prog K C) (F : Fr h₀ L s.heap m) (X₀ : K.In h₀) (N : News h₀ L s.heap [(x, excObj C t0 none .none)]) (Tg : h₀.Ns mainGlobals mg) (Tb : h₀.Ns builtinsNs mb) (Tv : ∀ x : Str, x ≠ "__name__" → mb x = bootBuiltins x)
    (hf : K.lookup f = some ⟨oc, od, .func fd, osl⟩) (hp : (fd.params.posonlyargs ++ fd.params.args).head? = some ar) (hv : m ar.arg = some (.ref x))
    (hcode : K.lookup cda = some ⟨ccl, cdd, .fields vs, ccs⟩) (hvs : vs[2]? = some (.str file tf)) (hfile : ((prog.main.file : Str) == file) = true)
    (hcell : K.lookup cc = some ⟨cl, cld, .cell (some (.ref C)), csl⟩)
    (hks : scope.names.lookup ("super" : Str) = some .globalImplicit) (hkc : scope.names.lookup ("__class__" : Str) = some .free) (hka : scope.names.lookup ar.arg = some .local) (hk : scope.kind = .function)
    (hline : (p2.endLine == p4.line) = true)
    (h : ∀ h' tk t1, Fr h₀ L h' m → h'.get? x = some (excObj C t1 none .none) → Q .next { s with heap := h', toks := tk }) :
    _root_.PySem.wpAt (model prog w) A (.func stm (ksEnv q scope L f (.ref cda) cc)) (execs [.Expr (.Call (.Attribute (.Call (.Name "super" p0) [] [] p1) "__init__" p2) [.Constant (.str msg) j p3] [] p4) p5] (ksEnv q scope L f (.ref cda) cc)) Q E s := by
  obtain ⟨nm, qn, Nn, bs, bm, sn, sub, ab, col, dd, k0, k1, k2, k3, k5, hC, hbm⟩ := T.cls
  have hcl : clsIn K C = some { name := nm, bases := bs, mro := .ref C :: bm, ns := Nn, qualname := qn, hasDict := true, slotNames := sn, subclasses := sub, abstract := ab, collection := col, hasDel := false } := by unfold clsIn; rw [hC] <;> rfl
  have I : InstAt s.heap x (excObj C t0 none .none) C none := InstAt.of_exc0 N List.mem_cons_self
  have hi : interactive (ksEnv q scope L f (.ref cda) cc) = false := by
    unfold interactive
    show (scope.kind == .module && _) = false
    rw [hk]
    rfl
  have he : eval (.Call (.Attribute (.Call (.Name "super" p0) [] [] p1) "__init__" p2) [.Constant (.str msg) j p3] [] p4) (ksEnv q scope L f (.ref cda) cc) = (do
      let ov ← attributeBase (.Call (.Name "super" p0) [] [] p1) "__init__" (ksEnv q scope L f (.ref cda) cc) (eval (.Call (.Name "super" p0) [] [] p1) (ksEnv q scope L f (.ref cda) cc))
      standAt p2.atName
      let (f', first) ← holding [ov] (getMethod ov "__init__" (do return (← importBound (.Call (.Name "super" p0) [] [] p1) (ksEnv q scope L f (.ref cda) cc)).getD true))
      callWith p4 f' first (backTo p4 (starEach [.Constant (.str msg) j p3] (ksEnv q scope L f (.ref cda) cc))) []) := by
    have hform : methodCallForm 1 (backTo p4 (starEach [.Constant (.str msg) j p3] (ksEnv q scope L f (.ref cda) cc))) [] = true := rfl
    have hpos : ∀ o, methodCallPos true o (ksEnv q scope L f (.ref cda) cc) p2 p4 = pure p4 := fun o => by
      unfold methodCallPos
      simp [hline]
    rw [arm_eval_Call]
    show (attributeBase _ _ _ _ >>= fun ov => standAt p2.atName >>= fun _ => methodCall _ _ p2 p4 _ ov 1 _ []) = _
    unfold methodCall
    rw [hform, hpos]
    rfl
  refine ks_wpAt_execs_cons (ks_wpAt_Expr_any (ks_wpAt_MethodCall (super_node F X₀ N Tg Tb Tv hf hp hv I hcode hvs hfile hcell hcl T.mro T.nsup (by decide) hks hkc hka hk T.htop rfl fun so h2 F2 N2 l2 => ?_) he) hi rfl)
  refine kxs_method kxs_ValueError F2 X₀ N2 List.mem_cons_self (InstAt.of_exc0 N2 (List.mem_cons_of_mem _ List.mem_cons_self)) T.nany T.sup T.veC (by decide) fun u h3 F3 N3 l3 => ?_
  refine kxs_callWith1 (i := "ValueError.__init__") (x := x) N3 List.mem_cons_self ?_
  refine Calls.spliced_cons (Calls.Constant_str (k := j) (pos := p3) (Calls.spliced_nil ⟨?_, ?_⟩))
  · exact kxs_at N3 List.mem_cons_self
  · have xu : u ≠ x := fun z => by
      have := l3 _ (List.mem_cons_of_mem _ List.mem_cons_self)
      rw [z] at this
      exact absurd this (Nat.lt_irrefl _)
    have xs : so ≠ x := fun z => by
      have := l2 _ List.mem_cons_self
      rw [z] at this
      exact absurd this (Nat.lt_irrefl _)
    refine kxs_call (t := t0) (dv := none) (c2 := .none) F3 X₀ N3 PySem.F.excBase_ValueError T.exi List.mem_cons_self (.tail xu (.tail xs (.head fun p hp => by cases hp))) (by rw [sizeLine_eq]; exact (by decide : 1 ≤ 16777216)) fun t' h4 F4 N4 l4 => ?_
    exact PySem.wpAt_of_wpAny (wpAny_execs_nil (h h4 _ t' F4 (N4 _ (List.mem_cons_of_mem _ (List.mem_cons_of_mem _ (List.mem_cons_of_mem _ List.mem_cons_self)))).1))
theorem init0_ok (T : Ex0 prog K C) (Md : L2.Mod K mg base) (hb : ∀ b o, base.get? b = some o → s.heap.get? b = some o) {e t0 : Addr} (he : s.heap.get? e = some (HandSPX.excO C t0)) (hne : base.get? e = none) (hroom : A.depth < recursionLimit) {fI : Addr}
    (hfI : findIn K (.ref C) "__init__" = some (some (.ref fI)))
    (hq : ∀ h' tk t1, (∀ b o, b ≠ e → s.heap.get? b = some o → h'.get? b = some o) → h'.get? e = some (HandSPX.excO C t1) → R (.ok (.ret .none)) { s with heap := h', toks := tk }) :
    codeAny (model prog w) A (.call (.ref fI) ⟨[.ref e], []⟩) R s := by
  obtain ⟨fI', cda, cc, oc, ccl, cl, dV, kV, doc, pm, ct, od, cdd, cld, an, osl, ccs, csl, vs, file, tf, qual, args, body, scope, f1, f2, f3, f4, f5, f6, f7, f8, f9, f10, f11, f12⟩ := T.fn
  rw [hfI] at f1
  cases f1
  have X : K.In s.heap := fun a o q => hb _ _ (Md.kin _ _ q)
  have hlim : s.heap.NoLimit := Md.nolimit.keeps hb
  simp only [init0S, Bool.and_eq_true, beq_iff_eq, Bool.not_eq_true'] at f11
  obtain ⟨⟨⟨⟨⟨⟨s1, s2⟩, s3⟩, s4⟩, s5⟩, s6⟩, s7⟩ := f11
  have s7' : ∀ x ∈ scope.names, x.2 ≠ .cell := fun x hx => by
    have := List.all_eq_true.mp s7 x hx
    simpa using this
  -- the text
  obtain ⟨p0, p1, p2, p3, p4, p5, j, msg, rfl, hline⟩ : ∃ p0 p1 p2 p3 p4 p5 j msg, body = [.Expr (.Call (.Attribute (.Call (.Name "super" p0) [] [] p1) "__init__" p2) [.Constant (.str msg) j p3] [] p4) p5] ∧ (p2.endLine == p4.line) = true := by
    unfold init0B at f9
    split at f9
    · rename_i x p0 p1 n p2 msg j p3 p4 p5
      simp only [Bool.and_eq_true, beq_iff_eq] at f9
      obtain ⟨⟨rfl, rfl⟩, f13⟩ := f9
      exact ⟨_, _, _, _, _, _, _, _, rfl, beq_iff_eq.mpr f13⟩
    · cases f9
  simp only [init0A, Bool.and_eq_true] at f10
  obtain ⟨⟨⟨⟨⟨a1, a2⟩, a3⟩, a4⟩, a5⟩, a6⟩ := f10
  obtain ⟨ar, ha, han⟩ : ∃ ar, args.args = [ar] ∧ ar.arg = "self" := by
    rcases h : args.args with _ | ⟨b, _ | ⟨_, _⟩⟩
    · rw [h] at a1
      cases a1
    · rw [h] at a1
      exact ⟨b, rfl, by simpa using a1⟩
    · rw [h] at a1
      cases a1
  have hpos : args.posonlyargs = [] := by simpa using a2
  have hp : (args.posonlyargs ++ args.args).head? = some ar := by rw [ha, hpos]; rfl
  obtain ⟨nm, q, N, bs, bm, sn, sub, ab, col, dd, k0, k1, k2, k3, k5, hC, hbm⟩ := T.cls
  have loc : ∀ y ∈ [(("self" : Str), Value.ref e)], scope.names.lookup y.1 = some .local := fun y hy => by
    have := List.mem_singleton.mp hy
    subst this
    exact s1
  refine ks_codeAny_call_defAt (fd := ksFn "__init__" qual args _ scope dV kV doc pm an (.ref cda) ct cc) (binds := [("self", .ref e)]) hroom (X _ _ f3) rfl hlim (codeRec_of X f4) rfl (f12 _ _) s7' loc (fun h₁ hns hk₁ => ?_) s6 s5 s4
  have X0 : K.In (hideAll s.heap [e]) := fun a o z => hideAll_get [e] (X _ _ z) fun y => by
    have y := List.mem_singleton.mp y
    subst y
    have := Md.kin _ _ z
    rw [hne] at this
    cases this
  have F0 : Fr (hideAll s.heap [e]) s.heap.objs.size h₁ (fun x => [(("self" : Str), Value.ref e)].reverse.lookup x) := ⟨hns, fun b o z => hk₁ b o (of_hideAll _ z), Nat.le_of_eq (hideAll_size _ _)⟩
  have N0 : News (hideAll s.heap [e]) s.heap.objs.size h₁ [(e, excObj C t0 none .none)] := fun p hp => by
    have hp := List.mem_singleton.mp hp
    subst hp
    exact ⟨hk₁ _ _ he, Nat.ne_of_lt (Heap.lt_size he), hideAll_none _ List.mem_cons_self⟩
  have hkeep : ∀ b o, base.get? b = some o → (hideAll s.heap [e]).get? b = some o := fun b o z => hideAll_get [e] (hb _ _ z) fun y => by
    have y := List.mem_singleton.mp y
    subst y
    rw [hne] at z
    cases z
  have glob : (hideAll s.heap [e]).Ns mainGlobals mg := Md.glob.keeps hkeep
  obtain ⟨mb, blt, bval⟩ := Md.blt
  have blt' : (hideAll s.heap [e]).Ns builtinsNs mb := blt.keeps hkeep
  refine init0_body T F0 X0 N0 glob blt' bval f3 hp (by rw [han]; rfl) f5 f6 f7 f8 s2 s3 (by rw [han]; exact s1) s4 hline fun h' tk t1 F4 g4 => ?_
  refine hq h' tk t1 (fun b o hbe z => F4.keep b o (hideAll_get [e] z fun y => hbe (List.mem_singleton.mp y))) g4
theorem made0_ok (T : Ex0 prog K C) (Md : L2.Mod K mg base) (hb : ∀ b o, base.get? b = some o → s.heap.get? b = some o) (hroom : A.depth + 1 < recursionLimit)
    (hq : ∀ h' tk e t1, (∀ b o, s.heap.get? b = some o → h'.get? b = some o) → s.heap.objs.size ≤ e → h'.get? e = some (HandSPX.excO C t1) → R (.ok (.ret (.ref e))) { s with heap := h', toks := tk }) :
    codeAny (model prog w) A (.call (.ref C) ⟨[], []⟩) R s := by
  obtain ⟨nm, q, N, bs, bm, sn, sub, ab, col, dd, k0, k1, k2, k3, k5, hC, hbm⟩ := T.cls
  have T' := T
  obtain ⟨fI, cda, cc, oc, ccl, cl, dV, kV, doc, pm, ct, od, cdd, cld, an, osl, ccs, csl, vs, file, tf, qual, args, body, scope, f1, f2, f3, f4, f5, f6, f7, f8, f9, f10, f11, f12⟩ := T.fn
  obtain ⟨hp, g, dr, tk, os⟩ := s
  have X : K.In hp := fun a o q => hb _ _ (Md.kin _ _ q)
  have k : ∀ b o, hp.get? b = some o → ((hp.push (kdv_tup [])).push (HandSPX.excO C hp.objs.size)).get? b = some o := fun b o e => Heap.get?_push_of_some _ (Heap.get?_push_of_some _ e)
  have hget : ((hp.push (kdv_tup [])).push (HandSPX.excO C hp.objs.size)).get? (hp.objs.size + 1) = some (HandSPX.excO C hp.objs.size) := by heap_get
  have hnx : base.get? (hp.objs.size + 1) = none := by
    cases e : base.get? (hp.objs.size + 1) with
    | none => rfl
    | some o =>
      have z : hp.get? (hp.objs.size + 1) = some o := hb _ _ e
      exact absurd (Nat.lt_of_succ_lt (Heap.lt_size z)) (Nat.lt_irrefl _)
  refine HandSPX.call_own PySem.F.excBase_ValueError (fun X => HandSPX.refsVE_contains X bm hbm) (X _ _ hC) (looks_findIn X f1) (fun self => bind_fn X self f2) (Nat.zero_le _) ?_
  refine init0_ok (s := ⟨(hp.push (kdv_tup [])).push (HandSPX.excO C hp.objs.size), g, dr, tk, os⟩) T' Md (fun b o e => k b o (hb _ _ e)) hget hnx (by show A.depth + 1 < recursionLimit; exact hroom) f1 fun h' tk' t1 k' hx => ?_
  have old : ∀ b o, hp.get? b = some o → h'.get? b = some o := fun b o e => k' b o (Nat.ne_of_lt (Nat.lt_succ_of_lt (Heap.lt_size e))) (k b o e)
  exact ⟨rfl, hq h' tk' (hp.objs.size + 1) t1 old (Nat.le_succ _) hx⟩
end
section
open L2
variable {X : L2.Cx} {C : Addr} {x : Str} {p pos : Pos}
/-- C() -/
theorem pmk0 (T : Ex0 X.prog X.K C) (gC : X.mg x = some (.ref C)) {k : Nat} (hr : Room (k + 1) X.A) (hg : Gl X x) (hd : (x == ("__debug__" : Str)) = false) : PMk X (.Call (.Name x p) [] [] pos) (fun _ H Q => Q (.ref C) none H) := by
  intro pins s σ H Q I h
  refine wpAny_Call_Name_kw (ld_glob I hg gC ?_ hd)
  refine PySem.W.callWith_K0 I.kIn T.kC ?_
  show wpAny _ _ (call (.ref C) []) _ _ _
  obtain ⟨hp, g, dr, tk, os⟩ := s
  refine wpAny_call (made0_ok T I.ok.mod (fun b o q => I.bk b o q) (by have := hr.dp; omega) fun h' tk' e t1 old new hx => ?_)
  show MkP X pins σ Q (.ref e) ⟨h', g, dr, tk', os⟩
  have ne : hp.get? e = none := by
    cases z : hp.get? e with
    | none => rfl
    | some o => exact absurd (Heap.lt_size z) (Nat.not_lt.mpr new)
  exact ⟨e, _, _, ⟨hp, g, dr, tk, os⟩, H, .ref C, none, rfl, I, old, ne, hx, ⟨rfl, rfl⟩, rfl, rfl, I.hok.fresh new, rfl, I.bare, raises_own T.exC T.tyC, h⟩
end
end MP
/-! What the written part must say of an error class, for Ex0. -/
namespace MP
open PySem PySem.W PySem.Calls PyProof.Rows
end MP
/-! enumerate of a tuple. -/
namespace PySem
theorem meets_enumerate_newT {v : Value} {o : Obj} {H : Heap → Prop} (B : Begins v o H) :
    Meets (Builtin.«enumerate.__new__» ⟨[.type "enumerate", v], []⟩) (fun _ R s => H s.heap ∧
      R (.ok (.ret (.ref (s.heap.push o).objs.size))) { s with heap := (s.heap.push o).push { cls := .type "enumerate", data := .fields #[.none, .bool false, .ref s.heap.objs.size, rawInt 0, .none, .none] } }) :=
  .of_wp fun prog w A R s h => by
    obtain ⟨hp, g, d, tk, os⟩ := s; obtain ⟨h1, h⟩ := h
    have hsub := sub_enumerate
    have q1 : ∀ {A' : Around} {E : Value → Shared → Prop} {Q : Value → Shared → Prop}, Q (.ref hp.objs.size) ⟨hp.push o, g, d, tk, os⟩ → wpAny (model prog w) A' (pyIter v) Q E ⟨hp, g, d, tk, os⟩ :=
      fun q => B.iter prog w _ _ ⟨hp, g, d, tk, os⟩ _ h1 q
    wp_walk using q1
    refine wpAny_stack_any fun st => wpAny_pure ?_
    split
    · rename_i c _ _ _ _ _
      cases (c == Value.type "enumerate")
      · wp_walk using q1
        exact ⟨_, rfl, h⟩
      · wp_walk using q1
        exact ⟨_, rfl, h⟩
    · wp_walk using q1
      exact ⟨_, rfl, h⟩
section
variable {prog : Program} {w : World} {A : Around} {E : Value → Shared → Prop} {s : Shared}
theorem call_enumerate_tuple {l : Addr} {items : Array Value} {Q : Value → Shared → Prop} (hL : s.heap.IsTuple l items)
    (h : ∀ h', IsEnum h' (s.heap.objs.size + 1) s.heap.objs.size 0 .none → h'.IsTupleIter s.heap.objs.size l 0 → h'.objs.size = s.heap.objs.size + 2 →
      (∀ b o, s.heap.get? b = some o → h'.get? b = some o) → Q (.ref (s.heap.objs.size + 1)) { s with heap := h' }) :
    wpAny (model prog w) A (call (.type "enumerate") [.ref l]) Q E s := by
  refine callType_new F.called_enumerate (by decide) (F.typeCall_enumerate_1 _) (F.newCall_enumerate_1 _) (fun obj => F.args_object_init_2 obj _) F.entry_enumerate_new
    (meets_enumerate_newT (begins_tuple l items)) ⟨hL, ?_⟩
  have hz : (s.heap.push { cls := .type "tuple_iterator", data := .fields #[.ref l, .int 0 0] }).objs.size = s.heap.objs.size + 1 := Heap.size_push ..
  show _ ∧ _
  rw [hz]
  have he : IsEnum ((s.heap.push { cls := .type "tuple_iterator", data := .fields #[.ref l, .int 0 0] }).push
      { cls := .type "enumerate", data := .fields #[.none, .bool false, .ref s.heap.objs.size, rawInt 0, .none, .none] }) (s.heap.objs.size + 1) s.heap.objs.size 0 .none := by
    have := Heap.get?_push_size (s.heap.push { cls := .type "tuple_iterator", data := .fields #[.ref l, .int 0 0] })
      (o := { cls := .type "enumerate", data := .fields #[.none, .bool false, .ref s.heap.objs.size, rawInt 0, .none, .none] }) rfl
    rw [hz] at this; exact this
  refine ⟨⟨_, he, rfl⟩, h _ he ⟨_, Heap.get?_push_of_some _ (Heap.get?_push_size _ rfl), rfl, rfl⟩ (by rw [Heap.size_push, hz]) fun b o x => Heap.get?_push_of_some _ (Heap.get?_push_of_some _ x)⟩
end
end PySem
namespace L2
open PySem PySem.Spec PyProof.Rows
theorem enum_endT {prog : Program} {w : World} {A : Around} {E : Value → Shared → Prop} {s : Shared} {e it l : Addr} {i : Nat} {c : Int} {items : Array Value} {old : Value} {Q : Option Value → Shared → Prop} (hh : A.handled = none)
    (he : IsEnum s.heap e it c old) (hit : s.heap.IsTupleIter it l i) (hl : s.heap.IsTuple l items) (hx : items[i]? = none)
    (hQ : ∀ h', Heap.ExtBut it s.heap h' → Q none { s with heap := h' }) : wpAny (model prog w) A (pyNext (.ref e)) Q E s := by
  have hT : s.TypeIs (.ref e) "enumerate" := ⟨_, he, rfl⟩
  unfold pyNext
  refine wpAny_bind (wpAny_attempt (wpAny_callSpecial?_slot (name := Str.ofString "__next__") hT F.slot_enumerate_next
    (wpAny_call_entry F.slot_enumerate_next hT F.entry_enumerate_next ?_ (F.args_enumerate_next_1 _))))
  show wpAny _ _ (field (.ref e) 2 >>= _) _ _ _
  refine wpAny_bind (wpAny_field he rfl (x := .ref it) rfl ?_)
  refine wpAny_bind (PySem.wpAny_nextOf_tuple_end hh hit hl hx fun h' x he' hx' => ?_)
  obtain ⟨o, ho, hc⟩ := hx'
  refine wpAny_bind (wpAny_isInstance (T := "StopIteration") (b := true) ⟨o, ho, hc⟩ isSubtype_stop ?_)
  exact wpAny_pure (hQ _ he')
/-- the tuple at a, each item in a new pair -/
def IteT (K : PySem.W.Frag) (a : Addr) : It :=
  ⟨fun i H => ∃ (xs : List V) (x : V), SqT K H a xs ∧ xs[i]? = some x, fun i H v H' => ∃ T x, v = .ref T ∧ H T = none ∧ H' = upd H T (.tup [.int (i : Nat), x]) ∧ ∀ xs, SqT K H a xs → xs[i]? = some x, fun i H => ∃ xs : List V, SqT K H a xs ∧ xs.length ≤ i⟩
theorem apart_tuple {h : Heap} {a e it : Addr} {i : Nat} {c : Int} {items : Array Value} {old : Value} (p : h.IsTuple a items) (hit : h.IsTupleIter it a i) (he : IsEnum h e it c old) : a ≠ it ∧ e ∉ [it, a] ∨ e = it := by
  obtain ⟨o, ho, hc, n, hd⟩ := p
  obtain ⟨o2, ho2, hc2, hd2⟩ := hit
  have he' : h.get? e = some _ := he
  by_cases hne : e = it
  · exact .inr hne
  refine .inl ⟨fun q => ?_, fun q => ?_⟩
  · subst q
    rw [ho] at ho2
    cases ho2
    rw [hc] at hc2
    exact absurd hc2 (by decide)
  · have e' : e = it ∨ e = a := by simpa using q
    rcases e' with q | q
    · exact hne q
    · subst q
      rw [ho] at he'
      cases he'
      have hc : Value.type "enumerate" = Value.type "tuple" := hc
      exact absurd hc (by decide)
theorem turn_enumT {P : Program} {w : World} {K : PySem.W.Frag} {elts : List Expr} {kk : Nat} {tpos : Pos} (a e it : Addr) :
    Turn P w K (.Tuple elts kk tpos) (IteT K a) [e, it] e (fun i h => (∃ old, IsEnum h e it ((i : Nat) : Int) old) ∧ h.IsTupleIter it a i ∧ e ≠ it) where
  mem := by simp
  obj := fun i h st b hb => by
    obtain ⟨⟨old, he⟩, ⟨o, ho, hc, hd⟩, _⟩ := st
    have e' : b = e ∨ b = it := by simpa using hb
    rcases e' with z | z
    · rw [z]; exact ⟨_, he, fun v q => nomatch q⟩
    · rw [z]; exact ⟨o, ho, fun v q => by rw [hd] at q; cases q⟩
  keep := fun i h h' st k => let ⟨⟨old, he⟩, hi, hne⟩ := st; ⟨⟨old, k e (by simp) _ he⟩, hi.at fun o q => k it (by simp) o q, hne⟩
  item := by
    intro X hP hw hK hc i pins s σ H E I hf st hg
    subst hP hw hK
    obtain ⟨⟨old, he⟩, hit, hne⟩ := st
    obtain ⟨xs, x, hq, hx⟩ := hg
    obtain ⟨its, rv, p, hz⟩ := I.tuple hq
    obtain ⟨u, hu, ru⟩ := rv.get hx
    have pt : s.heap.IsTuple a its.toArray := p
    have hel : e < s.heap.objs.size := Heap.lt_size he
    have hil : it < s.heap.objs.size := by obtain ⟨_, q, _⟩ := hit; exact Heap.lt_size q
    obtain ⟨n1, n2⟩ := (apart_tuple pt hit he).resolve_right hne
    have hlt : i < its.length := by
      have q := List.getElem?_eq_some_iff.1 hu
      exact q.1
    refine wpAny_pyNext_enum_itemD (Draws.tuple (A := X.A.in1) (I.ok.hd hc) it a n1 its.toArray) he ⟨hit, pt⟩ (by simpa using hlt) hne n2 fun u' h' tk hu' ho hst hT hsz hk => ?_
    have hu2 : its[i]? = some u' := by simpa using hu'
    rw [hu] at hu2
    cases hu2
    refine ⟨_, rfl, wpAny_letOwnedTupleGo_enum (s := { s with heap := h', toks := tk + 1 }) ho fun h'' he' sb => ?_⟩
    have hT2 : h''.get? s.heap.objs.size = some { cls := .type "tuple", data := .seq #[.int i tk, u] } := (sb.2 _ (Nat.ne_of_gt hel)).trans hT
    have new : ObjOk X.prog X.w (upd H s.heap.objs.size (.tup [.int (i : Nat), x])) h'' s.heap.objs.size (.tup [.int (i : Nat), x]) :=
      ⟨by show 2 ≤ sizeLine; decide, [.int i tk, u], .cons ⟨_, rfl⟩ (.cons ru .nil), ⟨_, hT2, rfl, _, rfl⟩⟩
    have I1 : Inv X pins σ (upd H s.heap.objs.size (.tup [.int (i : Nat), x])) { s with heap := h'', toks := tk + 1 } :=
      I.turnedNew (ch := [e, it]) (fun b ob hb q => (sb.2 b (fun z => hb (by simp [z]))).trans (hk b ob (fun z => hb (by simp [z])) (fun z => hb (by simp [z])) q)) hf (Nat.le_refl _) new
    refine ⟨.ref s.heap.objs.size, _, I1, rfl, ⟨_, x, rfl, I.hok.fresh (Nat.le_refl _), rfl, fun ys hy => by rw [I.tuple_inj hy hq]; exact hx⟩, ⟨⟨u, ?_⟩, hst.1.at fun o q => (sb.2 it (Ne.symm hne)).trans q, hne⟩, fun b hb => ?_⟩
    · have e1 : ((i + 1 : Nat) : Int) = (i : Int) + 1 := by omega
      rw [e1]; exact he'
    · have hb' : b < s.heap.objs.size := by
        have e' : b = e ∨ b = it := by simpa using hb
        rcases e' with z | z
        · rw [z]; exact hel
        · rw [z]; exact hil
      rw [upd_ne (Nat.ne_of_lt hb')]
      exact (hf b hb).1
  done := by
    intro X hP hw hK hc i pins s σ H E I hf st hg
    subst hP hw hK
    obtain ⟨⟨old, he⟩, hit, hne⟩ := st
    obtain ⟨xs, hq, hx⟩ := hg
    obtain ⟨its, rv, p, hz⟩ := I.tuple hq
    obtain ⟨f0, f1, f2, f3, f4, f5⟩ := hf it (by simp)
    have pt : s.heap.IsTuple a its.toArray := p
    have hl := rv.length
    obtain ⟨o, ho, hcl, hd⟩ := id hit
    have n1 : a ≠ it := ((apart_tuple pt hit he).resolve_right hne).1
    exact enum_endT (I.ok.hd hc) he hit pt (by simp; omega) fun h' eb => ⟨rfl, I.turned (t' := s.toks) (fun b o hb q => eb b o hb q) f0 f1 f3 f4 f5⟩
  self := fun A i s Q E st h => let ⟨⟨_, he⟩, _⟩ := st; wpAny_pyIter_enum he h
def iEnumT (K : PySem.W.Frag) (ta : TA) : TI := fun σ H R => ta σ H fun vs H1 => ∃ a xs, vs = [.ref a] ∧ SqT K H1 a xs ∧ R (IteT K a) H1
theorem pi_enumT {X : Cx} {e : Expr} {ta : TA} {p pos tpos : Pos} {elts : List Expr} {kk : Nat} (hg : Gl X "enumerate") (hm : X.mg "enumerate" = none) (ha : PA X [e] ta) (hs : starEach [e] X.env = [(false, eval e X.env)] := by rfl) :
    PI X (.Tuple elts kk tpos) (.Call (.Name "enumerate" p) [e] [] pos) (iEnumT X.K ta) := by
  refine ⟨fun pins s σ H R I h => ?_⟩
  refine Call_ (ld_blt I hg hm boot_enumerate (PyProof.Rows.callWith_type1 (thn (ha.run pos pins s σ H _ I h) fun us s1 ⟨vs, H1, I1, r1, q1⟩ => ?_) hs rfl))
  obtain ⟨a, xs, ex, hq, q⟩ := q1
  subst ex
  cases r1 with
  | cons r rr =>
    cases rr
    cases r
    obtain ⟨its, rv, p', hz⟩ := I1.tuple hq
    refine call_enumerate_tuple (show s1.heap.IsTuple a its.toArray from p') fun h' he hit hsz hk => wpAny_pyIter_enum he ?_
    have I2 : Inv X pins σ H1 { s1 with heap := h' } := I1.kept (t' := s1.toks) hk
    refine ⟨s1.heap.objs.size + 1, [s1.heap.objs.size + 1, s1.heap.objs.size], _, _, H1, rfl, I2, turn_enumT a (s1.heap.objs.size + 1) s1.heap.objs.size, ⟨⟨.none, he⟩, hit, Nat.succ_ne_self _⟩, fun b hb => ?_, q⟩
    have e' : b = s1.heap.objs.size + 1 ∨ b = s1.heap.objs.size := by simpa using hb
    have hle : s1.heap.objs.size ≤ b := by
      rcases e' with z | z
      · rw [z]; exact Nat.le_add_right _ _
      · rw [z]; exact Nat.le_refl _
    exact I1.fpOk hle (I1.hok.fresh hle)
end L2
/-! Which text an expression of the small language stands for. -/
namespace MP
open PySem PyProof.Rows L2 PySem.Spec
/-! ### a def's promise -/
structure FnG (P : Program) (w : World) (K : PySem.W.Frag) (mg : Str → Option Value) (base : Heap) (k : Nat) (f : Addr) (fd : FuncData) (ps : List Str) (sp : Sp) : Prop where
  len : ∀ vs H Q W, sp vs H Q W → vs.length = ps.length
  run : ∀ (A : Around) (outer : List PySem.Env) (s : Shared) (H : Hp) (args : Args) (us : List Value) (vs : List V) (Q : VK) (E : XK), A.guards = some [] → Room k A → Env0 P w K mg base A outer s H → BindsTo s fd args (ps.zip us) →
    Vals vs us → sp vs H Q E → codeAny (model P w) A (.call (.ref f) args) (CR (L2.CX P w) outer P w H s Q E) s
def spOf (K : PySem.W.Frag) (mg : Str → Option Value) (np : Nat) (sem : Fn) : Sp := fun vs H Q E =>
  ∃ g vals st, RVals K g H vs vals ∧ Ok K g H st ∧ vals.length = np ∧ Post K mg E (relE K false) g H (sem vals st) Q
/-- the name x stands for a def that reckons sem, at most lv calls deep -/
structure GlobFn (P : Program) (w : World) (K : PySem.W.Frag) (mg : Str → Option Value) (base : Heap) (lv : Nat) (x : Str) (sem : Fn) : Prop where
  ex : ∃ k f fd ps, k ≤ lv ∧ mg x = some (.ref f) ∧ PySem.W.keepIn K (.ref f) = true ∧ Binds K fd ps [] ∧ FnG P w K mg base k f fd ps (spOf K mg ps.length sem) ∧ ∀ vals st, vals.length ≠ ps.length → sem vals st = .no
def GlobCst (K : PySem.W.Frag) (mg : Str → Option Value) (x : Str) (d : D) : Prop := ∃ u v, mg x = some u ∧ RelV v u ∧ ∀ Z H, RD K Z H v d
inductive Req where
  | fn (x : Str) (sem : Fn)
  | cst (x : Str) (d : D)
  | non (x : Str)
  | bltin (x : Str) (u : Value)
  | exc (x : Str)
  | excIs (x k : Str)
def ReqOk (P : Program) (w : World) (K : PySem.W.Frag) (mg : Str → Option Value) (base : Heap) (lv : Nat) : Req → Prop
  | .fn x sem => GlobFn P w K mg base lv x sem
  | .cst x d => GlobCst K mg x d
  | .non x => mg x = none
  | .bltin x u => mg x = some u
  | .exc x => 1 ≤ lv ∧ ∃ C : Addr, mg x = some (.ref C) ∧ Ex0 P K C ∧ PySem.W.exmOne K (.ref C) (.ref C) = some true
  | .excIs x k => ∃ C D : Addr, mg x = some (.ref C) ∧ mg k = some (.ref D) ∧ ExcC K C ∧ PySem.W.kitOne K (.ref C) (.ref D) = some true ∧ PySem.W.exmOne K (.ref C) (.ref C) = some true
def Blt.req : Blt → Req
  | .gcd => .bltin "gcd" (.builtin "math.gcd")
  | f => .non f.name
section
variable {X : Cx} {W : WX} {N : List Str} {sc : Scope} {lv : Nat} {x : Str} {e : Expr} {es : List Expr} {σ : L2.St} {H : Hp} {Q : VK} {p pos : Pos}
theorem run_fnG {pins : List (Addr × Obj)} {s : Shared} {us : List Value} {vs : List V} {k : Nat} {f : Addr} {fd : FuncData} {ps : List Str} {sp : Sp} {E : XK} (F : FnG X.prog X.w X.K X.mg X.base k f fd ps sp) (hg : X.A.guards = some []) (hr : Room k X.A)
    (hb : Binds X.K fd ps []) (hx : PassesAt (L2.CX X.prog X.w) X σ E) (I : Inv X pins σ H s) (r : Vals vs us) (h : sp vs H Q E) : wpAny (model X.prog X.w) X.A (call (.ref f) us) (EP X pins σ Q) X.xe s := by
  have hl : us.length = ps.length := r.length.symm.trans (F.len _ _ _ _ h)
  have b := hb s us I.kIn (by simpa using hl)
  simp only [List.append_nil] at b
  refine wpAny_call (codeAny_mono (F.run X.A X.stack s H ⟨us, []⟩ us vs Q E hg hr I.env0 b r h) fun r s' hq => ?_)
  cases r with
  | error u => exact hx pins H s u s' I hq
  | ok fl =>
    cases fl with
    | ret u => exact I.after hq
    | next => exact hq.elim
    | brk => exact hq.elim
    | cont => exact hq.elim
/-- no item of a written list is starred -/
def notStar : Expr → Bool
  | .Starred _ _ => false
  | _ => true
theorem starEach_cons {env : PySem.Env} (h : notStar e = true) : starEach (e :: es) env = (false, eval e env) :: starEach es env := by
  cases e <;> first | rfl | cases h
theorem starEach_any {env : PySem.Env} : ∀ {es : List Expr}, (es.all notStar) = true → ((backTo pos (starEach es env)).any fun x => x.1) = false
  | [], _ => rfl
  | e :: es, h => by
    rw [List.all_cons, Bool.and_eq_true] at h
    rw [starEach_cons h.1]
    show (false || (backTo pos (starEach es env)).any fun x => x.1) = false
    rw [starEach_any h.2]
    rfl
theorem we_call {sem : Fn} (c : CtxOk X W N sc lv) (G : GlobFn X.prog X.w X.K X.mg X.base lv x sem) (hg : isGl sc x = true) (hn : okName x = true) (hs : (e :: es).all notStar = true)
    (h : WA X (e :: es) σ H fun vs H1 => ∃ g vals st, RVals X.K g H1 vs vals ∧ Ok X.K g H1 st ∧ Post X.K X.mg (fun cls d H' => W cls d σ H') (relE X.K false) g H1 (sem vals st) Q) : WE X (.Call (.Name x p) (e :: es) [] pos) σ H Q := by
  intro pins s I
  obtain ⟨k, f, fd, ps, hk, hm, kp, hb, F, hl⟩ := G.ex
  refine wpAny_Call_Name_kw (ld_glob I (c.gl hg) hm ?_ (okName_debug hn).1)
  rw [List.all_cons, Bool.and_eq_true] at hs
  refine PySem.W.callWith_K (h₀ := X.base) I.ok.mod.kin kp (thn (h pos pins s I) fun us s1 ⟨vs, H1, I1, r, g, vals, st, rv, ok, q⟩ => ⟨I1.kIn, ?_⟩) (starEach_cons hs.1) (starEach_any hs.2)
  refine run_fnG F c.guards (c.room.mono hk) hb (passAt c.takes σ) I1 r ⟨g, vals, st, rv, ok, ?_, q⟩
  by_cases hv : vals.length = ps.length
  · exact hv
  · rw [hl vals st hv] at q
    exact q.elim
theorem we_call0 {sem : Fn} (c : CtxOk X W N sc lv) (G : GlobFn X.prog X.w X.K X.mg X.base lv x sem) (hg : isGl sc x = true) (hn : okName x = true)
    (h : ∃ g st, Ok X.K g H st ∧ Post X.K X.mg (fun cls d H' => W cls d σ H') (relE X.K false) g H (sem [] st) Q) : WE X (.Call (.Name x p) [] [] pos) σ H Q := by
  intro pins s I
  obtain ⟨k, f, fd, ps, hk, hm, kp, hb, F, hl⟩ := G.ex
  refine wpAny_Call_Name_kw (ld_glob I (c.gl hg) hm ?_ (okName_debug hn).1)
  obtain ⟨g, st, ok, q⟩ := h
  refine PySem.W.callWith_K0 I.kIn kp (run_fnG (us := []) F c.guards (c.room.mono hk) hb (passAt c.takes σ) I .nil ⟨g, [], st, .nil, ok, ?_, q⟩)
  by_cases hv : ([] : List Val).length = ps.length
  · exact hv
  · rw [hl [] st hv] at q
    exact q.elim
theorem we_blt {f : Blt} (c : CtxOk X W N sc lv) (hm : ReqOk X.prog X.w X.K X.mg X.base lv f.req) (hg : isGl sc f.name = true) (hs : (e :: es).all notStar = true)
    (h : WA X (e :: es) σ H fun vs H1 => WC X (bltV f) vs H1 Q) : WE X (.Call (.Name f.name p) (e :: es) [] pos) σ H Q := by
  rw [List.all_cons, Bool.and_eq_true] at hs
  cases f
  case gcd => exact WE.of (pe_callBfun (r := wcr X (.builtin "math.gcd")) cr_wc (c.gl hg) hm pa_wa (by decide) (starEach_cons hs.1) (starEach_any hs.2)) h
  case len => exact WE.of (pe_callB (r := wcr X (.builtin "len")) cr_wc (c.gl hg) hm (by decide +kernel) pa_wa (by decide) (by decide) (starEach_cons hs.1) (starEach_any hs.2)) h
  case abs => exact WE.of (pe_callB (r := wcr X (.builtin "abs")) cr_wc (c.gl hg) hm (by decide +kernel) pa_wa (by decide) (by decide) (starEach_cons hs.1) (starEach_any hs.2)) h
  case int => exact WE.of (pe_callTy (r := wcr X (.type "int")) cr_wc (c.gl hg) hm (by decide +kernel) pa_wa (by decide) (by decide) (starEach_cons hs.1) (starEach_any hs.2)) h
  case tuple => exact WE.of (pe_callTy (r := wcr X (.type "tuple")) cr_wc (c.gl hg) hm (by decide +kernel) pa_wa (by decide) (by decide) (starEach_cons hs.1) (starEach_any hs.2)) h
  case list => exact WE.of (pe_callTy (r := wcr X (.type "list")) cr_wc (c.gl hg) hm (by decide +kernel) pa_wa (by decide) (by decide) (starEach_cons hs.1) (starEach_any hs.2)) h
  case sum => exact WE.of (pe_callB (r := wcr X (.builtin "sum")) cr_wc (c.gl hg) hm (by decide +kernel) pa_wa (by decide) (by decide) (starEach_cons hs.1) (starEach_any hs.2)) h
  case min => exact WE.of (pe_callB (r := wcr X (.builtin "min")) cr_wc (c.gl hg) hm (by decide +kernel) pa_wa (by decide) (by decide) (starEach_cons hs.1) (starEach_any hs.2)) h
  case max => exact WE.of (pe_callB (r := wcr X (.builtin "max")) cr_wc (c.gl hg) hm (by decide +kernel) pa_wa (by decide) (by decide) (starEach_cons hs.1) (starEach_any hs.2)) h
  case any => exact WE.of (pe_callB (r := wcr X (.builtin "any")) cr_wc (c.gl hg) hm (by decide +kernel) pa_wa (by decide) (by decide) (starEach_cons hs.1) (starEach_any hs.2)) h
  case all => exact WE.of (pe_callB (r := wcr X (.builtin "all")) cr_wc (c.gl hg) hm (by decide +kernel) pa_wa (by decide) (by decide) (starEach_cons hs.1) (starEach_any hs.2)) h
  case repr => exact WE.of (pe_callB (r := wcr X (.builtin "repr")) cr_wc (c.gl hg) hm (by decide +kernel) pa_wa (by decide) (by decide) (starEach_cons hs.1) (starEach_any hs.2)) h
  case sorted => exact WE.of (pe_callB (r := wcr X (.builtin "sorted")) cr_wc (c.gl hg) hm (by decide +kernel) pa_wa (by decide) (by decide) (starEach_cons hs.1) (starEach_any hs.2)) h
  case str => exact WE.of (pe_callTy (r := wcr X (.type "str")) cr_wc (c.gl hg) hm (by decide +kernel) pa_wa (by decide) (by decide) (starEach_cons hs.1) (starEach_any hs.2)) h
/-- a starred item of a display -/
theorem wa_star {Q : List V → Hp → Prop} (h : WE X e σ H fun x H1 => ∃ g d ds, RT X.K g H1 x d ∧ seqOf d = some ds ∧ (∀ vs', RDs X.K g.Z H1 vs' ds → WA X es σ H1 fun us H2 => Q (vs' ++ us) H2)) :
    WA X (.Starred e p :: es) σ H Q := by
  intro pos pins s I
  refine PySem.W.items_star (thn (h pins s I) fun v s1 ⟨x, H1, I1, r1, g, d, ds, rt, e1, q⟩ => ?_)
  obtain ⟨a, vs, rfl, sq, rv⟩ := rt.seq e1
  cases r1
  have fin : ∀ {T : String} {o : Obj} {its : List Value} {n : Nat}, (T = "list" ∨ T = "tuple") → s1.heap.get? a = some o → o.cls = .type T → o.data = .seq its.toArray n → its.length ≤ sizeLine → Vals vs its →
      wpAny (model X.prog X.w) X.A (collect (.ref a)) (fun here s₂ => wpAny (model X.prog X.w) X.A (spliced (backTo pos (starEach es X.env))) (fun us s₃ => AP X pins σ Q (here ++ us) s₃) X.xe s₂) X.xe s1 := by
    intro T o its n hT ho hc hd hz rr
    refine wpAny_collect_seq a hT ho hc hd (fun h' hk => ?_) (by simpa using hz)
    refine thn (q vs rv pos pins _ (I1.kept (t' := s1.toks) hk)) fun us s3 ⟨ws, H3, I3, r3, q3⟩ => ?_
    exact ⟨vs ++ ws, H3, I3, by simpa using rr.append r3, q3⟩
  unfold PySem.W.StarOf
  unfold notIterableAtAll
  rcases sq with sq | sq
  · obtain ⟨its, rr, ⟨o, n, ho, hc, _, hd⟩, hz⟩ := I1.list sq
    have hl := rr.length
    exact wpAny_bind (wpAny_specialOf ⟨o, ho, hc⟩ PySem.F.slot_list_iter.lookup (wpAny_pure ⟨rfl, fin (.inl rfl) ho hc hd (by omega) rr⟩))
  · obtain ⟨its, rr, ⟨o, ho, hc, n, hd⟩, hz⟩ := I1.tuple sq
    have hl := rr.length
    exact wpAny_bind (wpAny_specialOf ⟨o, ho, hc⟩ PySem.F.slot_tuple_iter.lookup (wpAny_pure ⟨rfl, fin (.inr rfl) ho hc hd (by omega) rr⟩))
end
end MP
/-! The text of an expression, and that the model does what is reckoned. -/
namespace MP
open PySem PyProof.Rows L2 PySem.Spec
def mLit : Lit → Const → Bool
  | .none, .none => true
  | .bool b, .bool c => decide (b = c)
  | .int i, .int j => decide (i = j)
  | .str x, .str y => decide (x = y)
  | _, _ => false
def plainIx : Expr → Bool
  | .Slice _ _ _ _ => false
  | _ => true
def notSet : Expr → Bool
  | .Set _ _ _ => false
  | _ => true
mutual
def mTg (N : List Str) : Tg → Scope → Expr → Bool
  | .nm i, sc, e => match e with
    | .Name x _ => decide (N[i]? = some x) && isLoc sc x && okName x
    | _ => false
  | .tup ts, sc, e => match e with
    | .Tuple es _ _ => mTgs N ts sc es
    | _ => false
def mTgs (N : List Str) : Tgs → Scope → List Expr → Bool
  | .nil, _, es => match es with
    | [] => true
    | _ => false
  | .cons t ts, sc, es => match es with
    | e :: r => mTg N t sc e && mTgs N ts sc r
    | [] => false
end
def tyName (t : String) : Bool := t == "int" || t == "bool" || t == "str" || t == "tuple" || t == "list" || t == "dict"
def mTyName (t : String) (sc : Scope) : Expr → Bool
  | .Name x _ => decide (x = Str.ofString t) && isGl sc x && okName x && tyName t && decide (bootBuiltins x = some (.type t))
  | _ => false
def mKeys : List Str → List (Option Expr) → Bool
  | [], [] => true
  | k :: ks, some (.Constant (.str x) _ _) :: r => decide (k = x) && mKeys ks r
  | _, _ => false
def dic2 (a x b y : Int) : Expr → Bool
  | .Dict [some (.Constant (.int a') _ _), some (.Constant (.int b') _ _)] [.Constant (.int x') _ _, .Constant (.int y') _ _] _ => decide (a = a') && decide (b = b') && decide (x = x') && decide (y = y')
  | _ => false
def dicN : List (Int × Int) → List (Option Expr) → List Expr → Bool
  | [], [], [] => true
  | (a, x) :: r, some (.Constant (.int a') _ _) :: ks, .Constant (.int x') _ _ :: vs => decide (a = a') && decide (x = x') && dicN r ks vs
  | _, _, _ => false
def cstI (d : Int) : Expr → Bool
  | .Constant (.int d') _ _ => decide (d = d')
  | _ => false
def isTupE : Expr → Bool
  | .Tuple _ _ _ => true
  | _ => false
def plainTest : Expr → Bool
  | .UnaryOp _ _ _ => false
  | .BoolOp _ _ _ => false
  | .IfExp _ _ _ _ => false
  | .Compare _ _ _ _ => false
  | _ => true
/-- no call stands where a method's own object is told -/
def notSuper : Expr → Bool
  | .Call _ _ _ _ => false
  | _ => true
mutual
def mE (N : List Str) : Ex → Scope → Expr → Bool
  | .var i, sc, e => match e with
    | .Name x _ => decide (N[i]? = some x) && isVis sc x && okName x
    | _ => false
  | .cst c, _, e => match e with
    | .Constant k _ _ => mLit c k
    | _ => false
  | .glob y _, sc, e => match e with
    | .Name x _ => decide (y = x) && isGl sc x && okName x
    | _ => false
  | .neg a, sc, e => match e with
    | .UnaryOp o b _ => decide (o = .USub) && mE N a sc b
    | _ => false
  | .not a, sc, e => match e with
    | .UnaryOp o b _ => decide (o = .Not) && mE N a sc b
    | _ => false
  | .bin o a b, sc, e => match e with
    | .BinOp a' o' b' _ => decide (opS o = o') && mE N a sc a' && mE N b sc b'
    | _ => false
  | .cmp o a b, sc, e => match e with
    | .Compare a' os bs _ => (match os, bs with
      | [o'], [b'] => decide (cpS o = o') && mE N a sc a' && mE N b sc b' && notSet b'
      | _, _ => false)
    | _ => false
  | .chain o1 o2 a b c, sc, e => match e with
    | .Compare a' os bs _ => (match os, bs with
      | [p1, p2], [b', c'] => decide (cpS o1 = p1) && decide (cpS o2 = p2) && mE N a sc a' && mE N b sc b' && mE N c sc c' && notSet c'
      | _, _ => false)
    | _ => false
  | .and a b, sc, e => match e with
    | .BoolOp o vs pos => decide (o = .And) && (match vs with
      | [a', b'] => mE N a sc a' && mE N b sc b'
      | a' :: b' :: c' :: r => mE N a sc a' && mE N b sc (.BoolOp .And (b' :: c' :: r) pos)
      | _ => false)
    | _ => false
  | .or a b, sc, e => match e with
    | .BoolOp o vs pos => decide (o = .Or) && (match vs with
      | [a', b'] => mE N a sc a' && mE N b sc b'
      | a' :: b' :: c' :: r => mE N a sc a' && mE N b sc (.BoolOp .Or (b' :: c' :: r) pos)
      | _ => false)
    | _ => false
  | .ite c a b, sc, e => match e with
    | .IfExp c' a' b' _ => mE N c sc c' && mE N a sc a' && mE N b sc b'
    | _ => false
  | .tup es, sc, e => match e with
    | .Tuple es' _ _ => mEs N es sc es'
    | _ => false
  | .lst es, sc, e => match e with
    | .List es' _ => mEs N es sc es'
    | _ => false
  | .ix a b, sc, e => match e with
    | .Subscript a' b' _ => plainIx b' && mE N a sc a' && mE N b sc b'
    | _ => false
  | .slice a lo hi, sc, e => match e with
    | .Subscript a' s _ => (match s with
      | .Slice l h none _ => mE N a sc a' && mO N lo sc l && mO N hi sc h
      | _ => false)
    | _ => false
  | .rev a, sc, e => match e with
    | .Subscript a' (.Slice none none (some (.UnaryOp .USub (.Constant (.int i) _ _) _)) _) _ => decide (i = 1) && mE N a sc a'
    | _ => false
  | .call x _ es, sc, e => match e with
    | .Call f args kws _ => (match f, kws with
      | .Name y _, [] => decide (x = y) && isGl sc x && okName x && args.all notStar && mEs N es sc args
      | _, _ => false)
    | _ => false
  | .blt f es, sc, e => match e with
    | .Call g args kws _ => (match g, kws with
      | .Name y _, [] => decide (f.name = y) && isGl sc y && !args.isEmpty && args.all notStar && mEs N es sc args
      | _, _ => false)
    | _ => false
  | .isi a ts, sc, e => match e with
    | .Call g args kws _ => (match g, kws, args with
      | .Name y _, [], [a', t'] => decide (y = "isinstance") && isGl sc y && mE N a sc a' && notStar a' && (match ts with
        | [t] => mTyName t sc t'
        | _ => false)
      | _, _, _ => false)
    | _ => false
  | .comp elt own tg it ifs, sc, e => match e with
    | .ListComp elt' gs scope _ => (match gs with
      | [⟨tg', it', ifs', n⟩] => decide (n = 0) && blkC N sc scope own && mTg N tg scope tg' && notSet it' && mI N it sc tg' it' && mC N ifs scope ifs' && mE N elt scope elt' && tgIn tg (own.map (·.2))
      | _ => false)
    | _ => false
  | .comp2 elt own tg it ifs own1 tg1 it1 ifs1, sc, e => match e with
    | .ListComp elt' gs scope _ => (match gs with
      | [⟨tg', it', ifs', n⟩, ⟨tg1', it1', ifs1', n1⟩] => decide (n = 0) && decide (n1 = 0) && blkC N sc scope own && mTg N tg scope tg' && notSet it' && notSet it1' && mI N it sc tg' it' && mC N ifs scope ifs' && mTg N tg1 scope tg1' && mI N it1 scope tg1' it1' && mC N ifs1 scope ifs1' && mE N elt scope elt' && tgIn tg (own.map (·.2)) && tgIn tg1 (own1.map (·.2)) && own1.all (fun x => own.any fun y => y.2 == x.2)
      | _ => false)
    | _ => false
  | .dicl ks es, sc, e => match e with
    | .Dict keys values _ => mKeys ks keys && decide (ks.length = values.length) && decide (ks.length ≤ 15) && !ks.isEmpty && decide ks.Nodup && mEs N es sc values
    | _ => false
  | .dic0, _, e => match e with
    | .Dict keys values _ => keys.isEmpty && values.isEmpty
    | _ => false
  | .toloc a, sc, e => plainTest e && mE N a sc e
  | .popl a, sc, e => match e with
    | .Call f args kws pos => (match f, args, kws with
      | .Attribute a' x ap, [], [] => decide (x = "pop") && decide (ap.endLine = pos.line) && notSuper a' && mE N a sc a'
      | _, _, _ => false)
    | _ => false
  | .get2 a x b y d k, sc, e => match e with
    | .Call f args kws pos => (match f, args, kws with
      | .Attribute o m ap, [k', e'], [] => decide (m = "get") && decide (ap.endLine = pos.line) && dic2 a x b y o && decide (a ≠ b) && notStar k' && cstI d e' && mE N k sc k'
      | _, _, _ => false)
    | _ => false
  | .dicn, _, e => match e with
    | .Dict keys values _ => keys.isEmpty && values.isEmpty
    | _ => false
  | .dhas neg k i, sc, e => match e with
    | .Compare k' os bs _ => (match os, bs with
      | [o'], [.Name x _] => decide (o' = bif neg then .NotIn else .In) && mE N k sc k' && decide (N[i]? = some x) && isVis sc x && okName x
      | _, _ => false)
    | _ => false
  | .dget i k, sc, e => match e with
    | .Subscript (.Name x _) k' _ => plainIx k' && mE N k sc k' && decide (N[i]? = some x) && isVis sc x && okName x
    | _ => false
  | .dsort i, sc, e => match e with
    | .Call f args kws _ => (match f, args, kws with
      | .Name y _, [.Name x _], [] => decide (y = "sorted") && isGl sc y && decide (N[i]? = some x) && isVis sc x && okName x
      | _, _, _ => false)
    | _ => false
  | .dixl kvs k, sc, e => match e with
    | .Subscript (.Dict keys values _) k' _ => plainIx k' && mE N k sc k' && dicN kvs keys values && decide (kvs.map (·.1)).Nodup && decide (kvs.length ≤ 15) && !kvs.isEmpty
    | _ => false
  | .revc a, sc, e => match e with
    | .Subscript a' (.Slice none (some (.Constant (.int z) _ _)) (some (.UnaryOp .USub (.Constant (.int i) _ _) _)) _) _ => decide (z = 0) && decide (i = 1) && mE N a sc a'
    | _ => false
  | .lrng1 a, sc, e => match e with
    | .Call f args kws _ => (match f, args, kws with
      | .Name x _, [e2], [] => (match e2 with
       | .Call f2 args2 kws2 _ => (match f2, args2, kws2 with
        | .Name y _, [a'], [] => decide (x = "list") && isGl sc x && decide (y = "range") && isGl sc y && notStar a' && mE N a sc a'
        | _, _, _ => false)
       | _ => false)
      | _, _, _ => false)
    | _ => false
  | .lrng2 a b, sc, e => match e with
    | .Call f args kws _ => (match f, args, kws with
      | .Name x _, [e2], [] => (match e2 with
       | .Call f2 args2 kws2 _ => (match f2, args2, kws2 with
        | .Name y _, [a', b'], [] => decide (x = "list") && isGl sc x && decide (y = "range") && isGl sc y && notStar a' && mE N a sc a' && notStar b' && mE N b sc b'
        | _, _, _ => false)
       | _ => false)
      | _, _, _ => false)
    | _ => false
  | .cntL a k, sc, e => match e with
    | .Call f args kws pos => (match f, args, kws with
      | .Attribute a' x ap, [k'], [] => decide (x = "count") && decide (ap.endLine = pos.line) && notSuper a' && notStar k' && mE N a sc a' && mE N k sc k'
      | _, _, _ => false)
    | _ => false
  | .popi a k, sc, e => match e with
    | .Call f args kws pos => (match f, args, kws with
      | .Attribute a' x ap, [k'], [] => decide (x = "pop") && decide (ap.endLine = pos.line) && notSuper a' && notStar k' && mE N a sc a' && mE N k sc k'
      | _, _, _ => false)
    | _ => false
  | .lenl a, sc, e => match e with
    | .Call f args kws _ => (match f, args, kws with
      | .Name y _, [a'], [] => decide (y = "len") && isGl sc y && notStar a' && mE N a sc a'
      | _, _, _ => false)
    | _ => false
def mEs (N : List Str) : Exs → Scope → List Expr → Bool
  | .nil, _, es => match es with
    | [] => true
    | _ => false
  | .cons e r, sc, es => match es with
    | e' :: r' => notStar e' && mE N e sc e' && mEs N r sc r'
    | [] => false
  | .star e r, sc, es => match es with
    | .Starred e' _ :: r' => mE N e sc e' && mEs N r sc r'
    | _ => false
def mO (N : List Str) : Opt → Scope → Option Expr → Bool
  | .non, _, o => match o with
    | none => true
    | some _ => false
  | .som e, sc, o => match o with
    | some e' => mE N e sc e'
    | none => false
def mC (N : List Str) : Opt → Scope → List Expr → Bool
  | .non, _, o => match o with
    | [] => true
    | _ :: _ => false
  | .som e, sc, o => match o with
    | [e'] => mE N e sc e'
    | _ => false
def mI (N : List Str) : It → Scope → Expr → Expr → Bool
  | .seq e, sc, _, e' => mE N e sc e'
  | .rng1 a, sc, _, e' => match e' with
    | .Call g args kws _ => (match g, kws, args with
      | .Name y _, [], [a'] => decide (y = "range") && isGl sc y && notStar a' && mE N a sc a'
      | _, _, _ => false)
    | _ => false
  | .rng2 a b, sc, _, e' => match e' with
    | .Call g args kws _ => (match g, kws, args with
      | .Name y _, [], [a', b'] => decide (y = "range") && isGl sc y && notStar a' && notStar b' && mE N a sc a' && mE N b sc b'
      | _, _, _ => false)
    | _ => false
  | .rng3 a b c, sc, _, e' => match e' with
    | .Call g args kws _ => (match g, kws, args with
      | .Name y _, [], [a', b', c'] => decide (y = "range") && isGl sc y && notStar a' && notStar b' && notStar c' && mE N a sc a' && mE N b sc b' && mE N c sc c'
      | _, _, _ => false)
    | _ => false
  | .enum a, sc, tg, e' => isTupE tg && (match e' with
    | .Call g args kws _ => (match g, kws, args with
      | .Name y _, [], [a'] => decide (y = "enumerate") && isGl sc y && notStar a' && mE N a sc a'
      | _, _, _ => false)
    | _ => false)
  | .zip a b, sc, tg, e' => isTupE tg && (match e' with
    | .Call g args kws _ => (match g, kws, args with
      | .Name y _, [], [a', b'] => decide (y = "zip") && isGl sc y && notStar a' && notStar b' && mE N a sc a' && mE N b sc b'
      | _, _, _ => false)
    | _ => false)
/-- all slots that a target stores are among some -/
def tgIn : Tg → List Nat → Bool
  | .nm i, vs => vs.contains i
  | .tup ts, vs => tgsIn ts vs
def tgsIn : Tgs → List Nat → Bool
  | .nil, _ => true
  | .cons t ts, vs => tgIn t vs && tgsIn ts vs
end
mutual
/-- what an expression asks of the module's names -/
def rqE : Ex → List Req
  | .var _ => []
  | .cst _ => []
  | .glob x d => [.cst x d]
  | .neg a => rqE a
  | .not a => rqE a
  | .bin _ a b => rqE a ++ rqE b
  | .cmp _ a b => rqE a ++ rqE b
  | .chain _ _ a b c => rqE a ++ rqE b ++ rqE c
  | .and a b => rqE a ++ rqE b
  | .or a b => rqE a ++ rqE b
  | .ite c a b => rqE c ++ rqE a ++ rqE b
  | .tup es => rqEs es
  | .lst es => rqEs es
  | .ix a b => rqE a ++ rqE b
  | .slice a lo hi => rqE a ++ rqO lo ++ rqO hi
  | .rev a => rqE a
  | .call x s es => .fn x s :: rqEs es
  | .blt f es => f.req :: rqEs es
  | .isi a ts => .non "isinstance" :: ts.map (fun t => .non (Str.ofString t)) ++ rqE a
  | .comp e _ _ it ifs => rqI it ++ rqO ifs ++ rqE e
  | .comp2 e _ _ it ifs _ _ it1 ifs1 => rqI it ++ rqO ifs ++ rqI it1 ++ rqO ifs1 ++ rqE e
  | .dicl _ es => rqEs es
  | .dic0 => []
  | .toloc a => rqE a
  | .popl a => rqE a
  | .popi a k => rqE a ++ rqE k
  | .cntL a k => rqE a ++ rqE k
  | .lrng1 a => .non "list" :: .non "range" :: rqE a
  | .lrng2 a b => .non "list" :: .non "range" :: (rqE a ++ rqE b)
  | .get2 _ _ _ _ _ k => rqE k
  | .dicn => []
  | .dhas _ k _ => rqE k
  | .dget _ k => rqE k
  | .dsort _ => [.non "sorted"]
  | .dixl _ k => rqE k
  | .revc a => rqE a
  | .lenl a => .non "len" :: rqE a
def rqEs : Exs → List Req
  | .nil => []
  | .cons e r => rqE e ++ rqEs r
  | .star e r => rqE e ++ rqEs r
def rqO : Opt → List Req
  | .non => []
  | .som e => rqE e
def rqI : It → List Req
  | .seq e => rqE e
  | .rng1 a => .non "range" :: rqE a
  | .rng2 a b => .non "range" :: (rqE a ++ rqE b)
  | .rng3 a b c => .non "range" :: (rqE a ++ rqE b ++ rqE c)
  | .enum e => .non "enumerate" :: rqE e
  | .zip a b => .non "zip" :: (rqE a ++ rqE b)
end
end MP
/-! t[::-1] of a tuple; isinstance of data. -/
namespace MP
open PySem PyProof.Rows L2 PySem.Spec
section
variable {prog : Program} {w : World} {s : Shared} {A : Around} {E : Value → Shared → Prop}
theorem rev_applied {sl : Addr} {vs : Value} {n : Nat} {Q : Int × Int × Nat → Shared → Prop} (hs : s.heap.IsSliceOf sl .none .none vs) (ps : IsPart vs (some (-1))) (h : Q ((n : Int) - 1, -1, n) s) :
    wpAny (model prog w) A (Builtin.Slice.sliceApplied (.ref sl) (pure (Int.ofNat n))) Q E s := by
  obtain ⟨ob, h1, h2, h3⟩ := hs
  unfold Builtin.Slice.sliceApplied
  unfold Builtin.Slice.sliceFields
  refine wpAny_bind (wpAny_bind (wpAny_field h1 h3 (x := .none) rfl (wpAny_bind (wpAny_field h1 h3 (x := .none) rfl (wpAny_bind (wpAny_field h1 h3 (x := vs) rfl (wpAny_pure ?_)))))))
  refine wpAny_bind (HT.slicePart_ ps ?_)
  show wpAny _ _ (if ((-1 : Int) == 0) = true then _ else _) _ _ s
  rw [if_neg (show ¬ ((-1 : Int) == 0) = true by decide)]
  refine wpAny_bind (HT.slicePart_ .none (wpAny_bind (HT.slicePart_ .none (wpAny_bind (wpAny_pure ?_)))))
  show wpAny _ _ (pure ((n : Int) - 1, (-1 : Int), Builtin.Slice.slicePlaces ((n : Int) - 1) (-1) (-1))) _ _ s
  have e : Builtin.Slice.slicePlaces ((n : Int) - 1) (-1) (-1) = n := by
    rw [Builtin.Slice.slicePlaces, if_neg (show ¬ ((-1 : Int) > 0) by decide)]
    by_cases hn : n = 0
    · rw [if_neg (show ¬ ((n : Int) - 1 > -1) by omega)]
      omega
    · rw [if_pos (show (n : Int) - 1 > -1 by omega), show (- -1 : Int) = 1 by decide, Int.ediv_one]
      omega
  rw [e]
  exact wpAny_pure h
theorem revc_applied {sl : Addr} {vs vu : Value} {n : Nat} {Q : Int × Int × Nat → Shared → Prop} (hs : s.heap.IsSliceOf sl .none vu vs) (ps : IsPart vs (some (-1))) (pu : IsPart vu (some 0)) (hn : 1 ≤ n) (h : Q ((n : Int) - 1, -1, n - 1) s) :
    wpAny (model prog w) A (Builtin.Slice.sliceApplied (.ref sl) (pure (Int.ofNat n))) Q E s := by
  obtain ⟨ob, h1, h2, h3⟩ := hs
  unfold Builtin.Slice.sliceApplied
  unfold Builtin.Slice.sliceFields
  refine wpAny_bind (wpAny_bind (wpAny_field h1 h3 (x := .none) rfl (wpAny_bind (wpAny_field h1 h3 (x := vu) rfl (wpAny_bind (wpAny_field h1 h3 (x := vs) rfl (wpAny_pure ?_)))))))
  refine wpAny_bind (HT.slicePart_ ps ?_)
  show wpAny _ _ (if ((-1 : Int) == 0) = true then _ else _) _ _ s
  rw [if_neg (show ¬ ((-1 : Int) == 0) = true by decide)]
  refine wpAny_bind (HT.slicePart_ .none (wpAny_bind (HT.slicePart_ pu (wpAny_bind (wpAny_pure ?_)))))
  have e0 : Builtin.Slice.sliceAdjust none (some 0) (-1) (Int.ofNat n) = ((n : Int) - 1, 0) := by
    unfold Builtin.Slice.sliceAdjust
    simp
    omega
  show wpAny _ _ (pure ((Builtin.Slice.sliceAdjust none (some 0) (-1) (Int.ofNat n)).1, (-1 : Int), Builtin.Slice.slicePlaces (Builtin.Slice.sliceAdjust none (some 0) (-1) (Int.ofNat n)).1 (Builtin.Slice.sliceAdjust none (some 0) (-1) (Int.ofNat n)).2 (-1))) _ _ s
  rw [e0]
  have e : Builtin.Slice.slicePlaces ((n : Int) - 1) 0 (-1) = n - 1 := by
    rw [Builtin.Slice.slicePlaces, if_neg (show ¬ ((-1 : Int) > 0) by decide)]
    by_cases h1 : n = 1
    · rw [if_neg (show ¬ ((n : Int) - 1 > 0) by omega)]
      omega
    · rw [if_pos (show (n : Int) - 1 > 0 by omega), show (- -1 : Int) = 1 by decide, Int.ediv_one]
      omega
  show wpAny _ _ (pure ((n : Int) - 1, (-1 : Int), Builtin.Slice.slicePlaces ((n : Int) - 1) 0 (-1))) _ _ s
  rw [e]
  exact wpAny_pure h
theorem fm_congr {α β : Type} {f g : α → Option β} : ∀ (l : List α), (∀ a ∈ l, f a = g a) → l.filterMap f = l.filterMap g
  | [], _ => rfl
  | a :: l, h => by
    rw [List.filterMap_cons, List.filterMap_cons, h a List.mem_cons_self, fm_congr l fun b hb => h b (List.mem_cons_of_mem _ hb)]
theorem rev_pick (xs : Array Value) : ((List.range xs.size).filterMap fun (k : Nat) => xs[((xs.size : Int) - 1 + (k : Int) * (-1)).toNat]?).toArray = xs.toList.reverse.toArray := by
  have h := PySem.W.krv_pick xs
  rw [← h]
  unfold slicePick
  rw [PySem.W.krv_bounds]
  show _ = ((sliceRange ((xs.size : Int) - 1) (-1) (-1)).filterMap (xs[·]?)).toArray
  rw [PySem.W.krv_sliceRange, List.filterMap_map]
  congr 1
  refine fm_congr _ fun k hk => ?_
  have hk := List.mem_range.mp hk
  show xs[((xs.size : Int) - 1 + (k : Int) * (-1)).toNat]? = xs[xs.size - 1 - k]?
  rw [show ((xs.size : Int) - 1 + (k : Int) * (-1)).toNat = xs.size - 1 - k by omega]
theorem rev_tuple {t sl : Addr} {items : Array Value} {vs : Value} {Q : Value → Shared → Prop} (ht : IsTup s.heap t items) (hs : s.heap.IsSliceOf sl .none .none vs) (ps : IsPart vs (some (-1))) (hz : items.size ≤ sizeLine)
    (h : Q (.ref s.heap.objs.size) { s with heap := s.heap.push { cls := .type "tuple", data := .seq items.toList.reverse.toArray } }) : wpAny (model prog w) A (getItem (.ref t) (.ref sl)) Q E s := by
  have fit : sizeOk (.seq items.toList.reverse.toArray) := by
    show items.toList.reverse.toArray.size ≤ sizeLine
    simpa using hz
  obtain ⟨ob, h1, h2, h3⟩ := id hs
  have hT : s.TypeIs (.ref sl) "slice" := ⟨ob, h1, h2⟩
  unfold getItem
  refine wpAny_holding ?_
  refine wpAny_bind (wpAny_sequenceKey ht.typeIs (by decide) (wpAny_bind ?_))
  refine (wpAny_callSpecial?_slot (name := Str.ofString "__getitem__") ht.typeIs PyProof.Rows.slot_tuple_getitem (wpAny_call_entry PyProof.Rows.slot_tuple_getitem ht.typeIs entry_tuple_getitem ?_ (args_tuple_getitem _ _)))
  change wpAny _ _ (Builtin.Tuple.tupleItemsOf (.ref t) >>= _) _ _ s
  refine wpAny_bind (tupleItemsOf_ ht (wpAny_bind (wpAny_typeOf hT ?_)))
  rw [if_pos (show (Value.type "slice" == Value.type "slice") = true by decide)]
  refine wpAny_bind (rev_applied hs ps ?_)
  show wpAny _ _ (if (((items.size : Int) - 1) == 0 && (-1 : Int) == 1 && items.size == items.size) = true then _ else _) _ _ s
  rw [if_neg (show ¬ (((items.size : Int) - 1) == 0 && (-1 : Int) == 1 && items.size == items.size) = true by simp), rev_pick]
  first
    | exact wpAny_bind (m := Builtin.Tuple.tupleExact _) (wpAny_newObj_type (wpAny_pure ⟨_, rfl, wpAny_pure h⟩) fit)
    | exact wpAny_bind (m := Builtin.Tuple.tupleExact _) (wpAny_newObj_type (wpAny_bind (wpAny_pure (wpAny_pure ⟨_, rfl, wpAny_pure h⟩))) fit)
    | exact wpAny_bind (wpAny_bind (m := Builtin.Tuple.tupleExact _) (wpAny_newObj_type (wpAny_pure (wpAny_pure ⟨_, rfl, wpAny_pure h⟩)) fit))
theorem revc_pick (xs : Array Value) (hn : 1 ≤ xs.size) : ((List.range (xs.size - 1)).filterMap fun (k : Nat) => xs[((xs.size : Int) - 1 + (k : Int) * (-1)).toNat]?).toArray = xs.toList.tail.reverse.toArray := by
  have h := rev_pick xs
  have h : ((List.range xs.size).filterMap fun (k : Nat) => xs[((xs.size : Int) - 1 + (k : Int) * (-1)).toNat]?) = xs.toList.reverse := by
    have := congrArg Array.toList h
    simpa using this
  have e1 : xs.size = (xs.size - 1) + 1 := by omega
  rw [e1, List.range_succ, List.filterMap_append, ← e1] at h
  have e2 : ∃ x ys, xs.toList = x :: ys := by
    rcases q : xs.toList with _ | ⟨x, ys⟩
    · have := congrArg List.length q
      simp at this
      subst this
      simp at hn
    · exact ⟨x, ys, rfl⟩
  obtain ⟨x, ys, e2⟩ := e2
  rw [e2, List.reverse_cons] at h
  have e3 : ([xs.size - 1].filterMap fun (k : Nat) => xs[((xs.size : Int) - 1 + (k : Int) * (-1)).toNat]?) = [x] := by
    have e4 : ((xs.size : Int) - 1 + ((xs.size - 1 : Nat) : Int) * (-1)).toNat = 0 := by omega
    have e5 : xs[0]? = some x := by
      rw [← Array.getElem?_toList, e2]
      rfl
    simp only [List.filterMap_cons, e4, e5, List.filterMap_nil]
  rw [e3] at h
  rw [e2, List.tail_cons, List.append_cancel_right h]
theorem revc_tuple {t sl : Addr} {items : Array Value} {vs vu : Value} {Q : Value → Shared → Prop} (ht : IsTup s.heap t items) (hs : s.heap.IsSliceOf sl .none vu vs) (ps : IsPart vs (some (-1))) (pu : IsPart vu (some 0)) (hn : 1 ≤ items.size) (hz : items.size ≤ sizeLine)
    (h : Q (.ref s.heap.objs.size) { s with heap := s.heap.push { cls := .type "tuple", data := .seq items.toList.tail.reverse.toArray } }) : wpAny (model prog w) A (getItem (.ref t) (.ref sl)) Q E s := by
  have fit : sizeOk (.seq items.toList.tail.reverse.toArray) := by
    show items.toList.tail.reverse.toArray.size ≤ sizeLine
    simp; omega
  obtain ⟨ob, h1, h2, h3⟩ := id hs
  have hT : s.TypeIs (.ref sl) "slice" := ⟨ob, h1, h2⟩
  unfold getItem
  refine wpAny_holding ?_
  refine wpAny_bind (wpAny_sequenceKey ht.typeIs (by decide) (wpAny_bind ?_))
  refine (wpAny_callSpecial?_slot (name := Str.ofString "__getitem__") ht.typeIs PyProof.Rows.slot_tuple_getitem (wpAny_call_entry PyProof.Rows.slot_tuple_getitem ht.typeIs entry_tuple_getitem ?_ (args_tuple_getitem _ _)))
  change wpAny _ _ (Builtin.Tuple.tupleItemsOf (.ref t) >>= _) _ _ s
  refine wpAny_bind (tupleItemsOf_ ht (wpAny_bind (wpAny_typeOf hT ?_)))
  rw [if_pos (show (Value.type "slice" == Value.type "slice") = true by decide)]
  refine wpAny_bind (revc_applied hs ps pu hn ?_)
  show wpAny _ _ (if (((items.size : Int) - 1) == 0 && (-1 : Int) == 1 && items.size - 1 == items.size) = true then _ else _) _ _ s
  rw [if_neg (show ¬ (((items.size : Int) - 1) == 0 && (-1 : Int) == 1 && items.size - 1 == items.size) = true by simp), revc_pick _ hn]
  first
    | exact wpAny_bind (m := Builtin.Tuple.tupleExact _) (wpAny_newObj_type (wpAny_pure ⟨_, rfl, wpAny_pure h⟩) fit)
    | exact wpAny_bind (m := Builtin.Tuple.tupleExact _) (wpAny_newObj_type (wpAny_bind (wpAny_pure (wpAny_pure ⟨_, rfl, wpAny_pure h⟩))) fit)
    | exact wpAny_bind (wpAny_bind (m := Builtin.Tuple.tupleExact _) (wpAny_newObj_type (wpAny_pure (wpAny_pure ⟨_, rfl, wpAny_pure h⟩)) fit))
end
section
variable {X : Cx}
def tRevT (K : PySem.W.Frag) (te : TE) : TE := fun σ H Q => te σ H fun x H1 => ∃ a xs, x = .ref a ∧ SqT K H1 a xs ∧ ∀ p, H1 p = none → Q (.ref p) (upd H1 p (.tup xs.reverse))
theorem pe_revT {e : Expr} {te : TE} {k : Nat} {p1 p2 p3 pos : Pos} (he : PE X e te) : PE X (.Subscript e (.Slice none none (some (.UnaryOp .USub (.Constant (.int 1) k p1) p2)) p3) pos) (tRevT X.K te) := by
  refine ⟨fun pins s σ H Q I h => Subscript_ (thn (he.run pins s σ H _ I h) fun v s1 ⟨x, H1, I1, r1, a, xs, ex, hx, q⟩ => ?_)⟩
  subst ex
  cases r1
  have nn : ∀ (s : Shared) (R : Value → Shared → Prop), R .none s → wpAny (model X.prog X.w) X.A (evalPart none X.env) R X.xe s := fun s R h => by
    rw [evalPart_none]
    exact wpAny_pure h
  refine wpAny_Slice (nn s1 _ (nn s1 _ (thn ((po_some (pe_un un_neg pe_int)).run pins s1 σ H1 (fun j G => j = some (-1) ∧ G = H1) I1 ⟨1, rfl, -1, rfl, rfl, rfl⟩) fun vs s4 ⟨j, H4, I4, ps, ej, eG⟩ => ?_)))
  subst ej eG
  have I5 : Inv X pins σ H4 { s4 with heap := s4.heap.push { cls := .type "slice", data := .fields #[.none, .none, vs] } } := I4.kept (t' := s4.toks) fun b ob q => Heap.get?_push_of_some _ q
  obtain ⟨its, r, ht, hz⟩ := I5.tuple hx
  have hlen := r.length
  show wpAny (model X.prog X.w) X.A (subscriptTail e (.Slice none none (some (.UnaryOp .USub (.Constant (.int 1) k p1) p2)) p3) (.ref a) (.ref s4.heap.objs.size)) (EP X pins σ Q) X.xe _
  refine tail_any (ops := [.ref a, .ref s4.heap.objs.size]) ht.typeIs PyProof.Rows.slot_tuple_getitem.lookup ?_ (by with_unfolding_all rfl)
  refine rev_tuple ht (Heap.IsSliceOf.new _ .none .none vs) ps (by rw [List.size_toArray]; omega) ?_
  refine ⟨.ref _, _, I5.laid (t' := s4.toks) (o := .tup xs.reverse) (fun b ob q => Heap.get?_push_of_some _ q) (Nat.le_refl _) ?_, rfl, q _ (I5.hok.fresh (Nat.le_refl _))⟩
  exact ⟨by rw [List.length_reverse]; exact hz, _, r.reverse, ⟨_, Heap.get?_push_size _ rfl, rfl, _, rfl⟩⟩
def tRevC (K : PySem.W.Frag) (te : TE) : TE := fun σ H Q => te σ H fun x H1 => ∃ a y xs, x = .ref a ∧ SqT K H1 a (y :: xs) ∧ ∀ p, H1 p = none → Q (.ref p) (upd H1 p (.tup xs.reverse))
theorem pe_revC {e : Expr} {te : TE} {k k0 : Nat} {p0 p1 p2 p3 pos : Pos} (he : PE X e te) : PE X (.Subscript e (.Slice none (some (.Constant (.int 0) k0 p0)) (some (.UnaryOp .USub (.Constant (.int 1) k p1) p2)) p3) pos) (tRevC X.K te) := by
  refine ⟨fun pins s σ H Q I h => Subscript_ (thn (he.run pins s σ H _ I h) fun v s1 ⟨x, H1, I1, r1, a, y, xs, ex, hx, q⟩ => ?_)⟩
  subst ex
  cases r1
  have nn : ∀ (s : Shared) (R : Value → Shared → Prop), R .none s → wpAny (model X.prog X.w) X.A (evalPart none X.env) R X.xe s := fun s R h => by
    rw [evalPart_none]
    exact wpAny_pure h
  refine wpAny_Slice (nn s1 _ (thn ((po_some pe_int).run pins s1 σ H1 (fun j G => j = some 0 ∧ G = H1) I1 ⟨0, rfl, rfl, rfl⟩) fun vu s3 ⟨j, H3, I3, pu, ej, eG⟩ => ?_))
  subst ej eG
  refine thn ((po_some (pe_un un_neg pe_int)).run pins s3 σ H3 (fun j G => j = some (-1) ∧ G = H3) I3 ⟨1, rfl, -1, rfl, rfl, rfl⟩) fun vs s4 ⟨j, H4, I4, ps, ej, eG⟩ => ?_
  subst ej eG
  have I5 : Inv X pins σ H4 { s4 with heap := s4.heap.push { cls := .type "slice", data := .fields #[.none, vu, vs] } } := I4.kept (t' := s4.toks) fun b ob q => Heap.get?_push_of_some _ q
  obtain ⟨its, r, ht, hz⟩ := I5.tuple hx
  have hlen := r.length
  show wpAny (model X.prog X.w) X.A (subscriptTail e (.Slice none (some (.Constant (.int 0) k0 p0)) (some (.UnaryOp .USub (.Constant (.int 1) k p1) p2)) p3) (.ref a) (.ref s4.heap.objs.size)) (EP X pins σ Q) X.xe _
  refine tail_any (ops := [.ref a, .ref s4.heap.objs.size]) ht.typeIs PyProof.Rows.slot_tuple_getitem.lookup ?_ (by with_unfolding_all rfl)
  refine revc_tuple ht (Heap.IsSliceOf.new _ .none vu vs) ps pu (by rw [List.size_toArray, ← hlen]; simp) (by rw [List.size_toArray]; omega) ?_
  refine ⟨.ref _, _, I5.laid (t' := s4.toks) (o := .tup xs.reverse) (fun b ob q => Heap.get?_push_of_some _ q) (Nat.le_refl _) ?_, rfl, q _ (I5.hok.fresh (Nat.le_refl _))⟩
  cases r with
  | cons r0 r => exact ⟨by rw [List.length_reverse]; simp at hz; omega, _, Vals.reverse r, ⟨_, Heap.get?_push_size _ rfl, rfl, _, rfl⟩⟩
theorem wc_isi {K : PySem.W.Frag} {g : G} {H : Hp} {x : V} {d : D} {t : String} {Q : VK} (hx : RT K g H x d) (eK : X.K = K) (ht : tyName t = true) (q : Q (.bl (isA d t)) H) : WC X (.builtin "isinstance") [x, .ty t] H Q := by
  subst eK
  have fin : ∀ (T : String), TyX X.K H x (.type T) → kitB T t = some (isA d t) → WC X (.builtin "isinstance") [x, .ty t] H Q := fun T h1 h2 =>
    WC.of call_isi ⟨x, .ty t, .type T, .type t, isA d t, rfl, .ty t, h1, kit_ty h2, q⟩
  have ht : t = "int" ∨ t = "bool" ∨ t = "str" ∨ t = "tuple" ∨ t = "list" ∨ t = "dict" := by
    simp only [tyName, Bool.or_eq_true, beq_iff_eq] at ht
    rcases ht with ((((h | h) | h) | h) | h) | h <;> simp [h]
  cases d with
  | none =>
    have e := hx.none
    subst e
    refine fin "NoneType" (.base .non) ?_
    rcases ht with rfl | rfl | rfl | rfl | rfl | rfl <;> rfl
  | bool b =>
    have e := hx.bool
    subst e
    refine fin "bool" (.base (.bl _)) ?_
    rcases ht with rfl | rfl | rfl | rfl | rfl | rfl <;> rfl
  | int b =>
    have e := hx.int
    subst e
    refine fin "int" (.base (.int _)) ?_
    rcases ht with rfl | rfl | rfl | rfl | rfl | rfl <;> rfl
  | str b =>
    have e := hx.str
    subst e
    refine fin "str" (.base (.str _)) ?_
    rcases ht with rfl | rfl | rfl | rfl | rfl | rfl <;> rfl
  | list ds =>
    obtain ⟨a, vs, rfl, s, _⟩ := hx.list
    refine fin "list" ?_ ?_
    · rcases s with (s | ⟨o, s⟩) | ⟨o, its, n, h1, h2, _⟩
      · exact .base (.lst s)
      · exact .base (.frz s)
      · exact .kList h1 h2
    · rcases ht with rfl | rfl | rfl | rfl | rfl | rfl <;> rfl
  | tuple ds =>
    obtain ⟨a, vs, rfl, s, _⟩ := hx.tuple
    refine fin "tuple" ?_ ?_
    · rcases s with (s | ⟨o, s⟩) | ⟨o, its, n, h1, h2, _⟩
      · exact .base (.tup s)
      · exact .fTuple s
      · exact .kTuple h1 h2
    · rcases ht with rfl | rfl | rfl | rfl | rfl | rfl <;> rfl
  | dict ds =>
    rcases hx with hx | ⟨a, rfl, hx⟩
    · cases hx with
      | dict z s r =>
        refine fin "dict" ?_ ?_
        · rcases s with s | ⟨o, s⟩
          · exact .base (.dK s)
          · exact .fDict s
        · rcases ht with rfl | rfl | rfl | rfl | rfl | rfl <;> rfl
    · obtain ⟨kvs, e, _⟩ := hx
      refine fin "dict" (.base (.dK e)) ?_
      rcases ht with rfl | rfl | rfl | rfl | rfl | rfl <;> rfl
end
end MP
/-! Expressions: the model does what is reckoned. -/
namespace MP
open PySem PyProof.Rows L2 PySem.Spec
def Rqs (X : Cx) (lv : Nat) (l : List Req) : Prop := ∀ r ∈ l, ReqOk X.prog X.w X.K X.mg X.base lv r
theorem Rqs.left {X : Cx} {lv : Nat} {a b : List Req} (h : Rqs X lv (a ++ b)) : Rqs X lv a := fun r hr => h r (List.mem_append_left _ hr)
theorem Rqs.right {X : Cx} {lv : Nat} {a b : List Req} (h : Rqs X lv (a ++ b)) : Rqs X lv b := fun r hr => h r (List.mem_append_right _ hr)
theorem Rqs.tail {X : Cx} {lv : Nat} {a : Req} {b : List Req} (h : Rqs X lv (a :: b)) : Rqs X lv b := fun r hr => h r (List.mem_cons_of_mem _ hr)
theorem Rqs.head {X : Cx} {lv : Nat} {a : Req} {b : List Req} (h : Rqs X lv (a :: b)) : ReqOk X.prog X.w X.K X.mg X.base lv a := h a List.mem_cons_self
/-- where an expression is met -/
structure At (X : Cx) (W : WX) (N : List Str) (sc : Scope) (lv : Nat) (g : G) (H : Hp) (σ : L2.St) (env : Env) (st : Store) : Prop where
  c : CtxOk X W N sc lv
  ok : Ok X.K g H st
  en : EnvOk X.K g H σ env
theorem At.on {X : Cx} {W : WX} {N : List Str} {sc : Scope} {lv : Nat} {g g1 : G} {H H1 : Hp} {σ : L2.St} {env : Env} {st st1 : Store} (a : At X W N sc lv g H σ env st) (s : Step g H g1 H1) (ok : Ok X.K g1 H1 st1) : At X W N sc lv g1 H1 σ env st1 :=
  ⟨a.c, ok, a.en.step s a.ok⟩
abbrev WS_ (W : WX) (σ : L2.St) : Value → Option Addr → Hp → Prop := fun cls d H' => W cls d σ H'
def SimE (m : Ex) : Prop := ∀ {X : Cx} {W : WX} {N : List Str} {sc : Scope} {lv : Nat} {g : G} {H : Hp} {σ : L2.St} {env : Env} {st : Store} (e : Expr) (pk : Bool) (Q : VK), At X W N sc lv g H σ env st → mE N m sc e = true → Rqs X lv (rqE m) →
  Post X.K X.mg (WS_ W σ) (relE X.K pk) g H (evE m pk env st) Q → WE X e σ H Q
def SimT (m : Ex) : Prop := ∀ {X : Cx} {W : WX} {N : List Str} {sc : Scope} {lv : Nat} {g : G} {H : Hp} {σ : L2.St} {env : Env} {st : Store} (e : Expr) (Q : Bool → Hp → Prop), At X W N sc lv g H σ env st → mE N m sc e = true → Rqs X lv (rqE m) →
  Post X.K X.mg (WS_ W σ) relEq g H ((evE m true env st).bind fun x st => boolOf x st) Q → WT X e σ H Q ∧ ((∃ o vs p, e = .BoolOp o vs p) → WW X e σ H Q)
def SimV (m : Exs) : Prop := ∀ {X : Cx} {W : WX} {N : List Str} {sc : Scope} {lv : Nat} {g : G} {H : Hp} {σ : L2.St} {env : Env} {st : Store} (es : List Expr) (Q : List V → Hp → Prop), At X W N sc lv g H σ env st → mEs N m sc es = true → Rqs X lv (rqEs m) →
  Post X.K X.mg (WS_ W σ) (relV X.K) g H (evV m env st) Q → WA X es σ H Q
def SimA (m : Exs) : Prop := ∀ {X : Cx} {W : WX} {N : List Str} {sc : Scope} {lv : Nat} {g : G} {H : Hp} {σ : L2.St} {env : Env} {st : Store} (es : List Expr) (Q : List V → Hp → Prop), At X W N sc lv g H σ env st → mEs N m sc es = true → Rqs X lv (rqEs m) →
  Post X.K X.mg (WS_ W σ) (relD X.K) g H (evA m env st) Q → WA X es σ H Q
def SimP (m : Exs) : Prop := ∀ {X : Cx} {W : WX} {N : List Str} {sc : Scope} {lv : Nat} {g : G} {H : Hp} {σ : L2.St} {env : Env} {st : Store} (es : List Expr) (Q : List V → Hp → Prop), At X W N sc lv g H σ env st → mEs N m sc es = true → Rqs X lv (rqEs m) →
  Post X.K X.mg (WS_ W σ) (relT X.K) g H (evP m env st) Q → WA X es σ H Q
def SimO (m : Opt) : Prop := ∀ {X : Cx} {W : WX} {N : List Str} {sc : Scope} {lv : Nat} {g : G} {H : Hp} {σ : L2.St} {env : Env} {st : Store} (e : Option Expr) (Q : Option Int → Hp → Prop), At X W N sc lv g H σ env st → mO N m sc e = true → Rqs X lv (rqO m) →
  Post X.K X.mg (WS_ W σ) relEq g H (evO m env st) Q → WP X e σ H Q
theorem cond_true {a b : Bool} (h : (a && b) = true) : a = true ∧ b = true := Bool.and_eq_true_iff.mp h
theorem no_false {p : Prop} (h : false = true) : p := by cases h
theorem sim_var {i : Nat} : SimE (.var i) := by
  intro X W N sc lv g H σ env st e pk Q a hm hr h
  cases e <;> try exact no_false hm
  rename_i x pos
  obtain ⟨hm, h3⟩ := cond_true hm
  obtain ⟨h1, h2⟩ := cond_true hm
  have h1 : N[i]? = some x := of_decide_eq_true h1
  have hd := okName_debug h3
  simp only [evE] at h
  cases hs : env[i]? with
  | none => rw [hs] at h; exact h.elim
  | some s =>
    rw [hs] at h
    obtain ⟨y, hy, so⟩ := a.en.slot hs
    cases s with
    | un => exact h.elim
    | val v =>
      obtain ⟨w, rfl, r⟩ := so
      refine WE.of (pe_var (by rw [a.c.eN]; exact h1) (a.c.vis h2) hd.1 hd.2.1) ⟨w, hy, ?_⟩
      refine h g w H .refl a.ok ?_
      cases v with
      | loc n => exact r
      | dat d =>
        cases pk with
        | true => exact .inl r
        | false => exact r
    | own d =>
      obtain ⟨b, rfl, r⟩ := so
      cases pk with
      | false => exact h.elim
      | true =>
        refine WE.of (pe_var (by rw [a.c.eN]; exact h1) (a.c.vis h2) hd.1 hd.2.1) ⟨_, hy, ?_⟩
        exact h g _ H .refl a.ok (.inr ⟨b, rfl, r⟩)
theorem sim_cst {k : Lit} : SimE (.cst k) := by
  intro X W N sc lv g H σ env st e pk Q a hm hr h
  cases e <;> try exact no_false hm
  rename_i v j pos
  have h : Fin X.K pk g H st (plain k.d) Q := h
  cases k <;> cases v <;> try exact no_false hm
  · exact WE.of pe_non (h.plain a.ok .none)
  · cases of_decide_eq_true (show decide (_ = _) = true from hm)
    exact WE.of pe_bl (h.plain a.ok (.bool _))
  · cases of_decide_eq_true (show decide (_ = _) = true from hm)
    exact WE.of pe_int (h.plain a.ok (.int _))
  · cases of_decide_eq_true (show decide (_ = _) = true from hm)
    exact WE.of pe_str (h.plain a.ok (.str _))
theorem sim_glob {x : Str} {d : D} : SimE (.glob x d) := by
  intro X W N sc lv g H σ env st e pk Q a hm hr h
  cases e <;> try exact no_false hm
  rename_i y pos
  obtain ⟨hm, h3⟩ := cond_true hm
  obtain ⟨h1, h2⟩ := cond_true hm
  have h1 : x = y := of_decide_eq_true h1
  subst h1
  obtain ⟨u, v, hu, rv, rd⟩ := hr.head
  have h : Fin X.K pk g H st (plain d) Q := h
  exact WE.of (pe_glob (a.c.gl h2) hu rv (okName_debug h3).1) (h.plain a.ok (rd _ _))
theorem sim_neg {a : Ex} (ha : SimE a) : SimE (.neg a) := by
  intro X W N sc lv g H σ env st e pk Q at_ hm hr h
  cases e <;> try exact no_false hm
  rename_i o b pos
  obtain ⟨h1, h2⟩ := cond_true hm
  have h1 : o = .USub := of_decide_eq_true h1
  subst h1
  refine WE.of (pe_un un_neg pe_we) (ha b true _ at_ h2 hr (h.bind based_e fun x st1 g1 v H1 s1 o1 r1 h1 => ?_))
  obtain ⟨i, ei, h1⟩ := h1.int
  have e2 := (r1.rt ei).int
  subst e2
  have h1 : Fin X.K pk g1 H1 st1 (plain (.int (-i))) Q := h1
  exact ⟨i, rfl, h1.plain o1 (.int _)⟩
theorem sim_not {a : Ex} (ha : SimE a) : SimE (.not a) := by
  intro X W N sc lv g H σ env st e pk Q at_ hm hr h
  cases e <;> try exact no_false hm
  rename_i o b pos
  obtain ⟨h1, h2⟩ := cond_true hm
  have h1 : o = .Not := of_decide_eq_true h1
  subst h1
  refine WE.of (pe_not pe_we) (ha b true _ at_ h2 hr (h.bind based_e fun x st1 g1 v H1 s1 o1 r1 h1 => ?_))
  obtain ⟨i, ei, h1⟩ := h1.bool
  have e2 := (r1.rt ei).bool
  subst e2
  have h1 : Fin X.K pk g1 H1 st1 (plain (.bool (!i))) Q := h1
  exact ⟨i, rfl, h1.plain o1 (.bool _)⟩
theorem sim_bin {o : Op2} {a b : Ex} (ha : SimE a) (hb : SimE b) : SimE (.bin o a b) := by
  intro X W N sc lv g H σ env st e pk Q at_ hm hr h
  cases e <;> try exact no_false hm
  rename_i a' o' b' pos
  obtain ⟨hm, h3⟩ := cond_true hm
  obtain ⟨h1, h2⟩ := cond_true hm
  have h1 : opS o = o' := of_decide_eq_true h1
  subst h1
  refine WE.of (pe_op op_wo pe_we pe_we) (ha a' true _ at_ h2 hr.left (h.bind based_e fun x st1 g1 v H1 s1 o1 r1 h1 => ?_))
  obtain ⟨d, ed, h1⟩ := h1.dat
  refine hb b' true _ (at_.on s1 o1) h3 hr.right (h1.bind based_e fun y st2 g2 v2 H2 s2 o2 r2 h2 => ?_)
  obtain ⟨d2, ed2, h2⟩ := h2.dat
  obtain ⟨fr, r, er, h2⟩ := h2.bd
  exact bin_ok ((r1.rt ed).step s2 o1) (r2.rt ed2) rfl o2 er h2
theorem room_u {lv : Nat} {A : Around} (r : Room lv A) : A.units + 150 < cLine := by
  have := r.un
  omega
theorem sim_cmp {o : Cp} {a b : Ex} (ha : SimE a) (hb : SimE b) : SimE (.cmp o a b) := by
  intro X W N sc lv g H σ env st e pk Q at_ hm hr h
  cases e <;> try exact no_false hm
  rename_i a' os bs pos
  rcases os with _ | ⟨o', _ | ⟨_, _⟩⟩ <;> try exact no_false hm
  rcases bs with _ | ⟨b', _ | ⟨_, _⟩⟩ <;> try exact no_false hm
  obtain ⟨hm, h4⟩ := cond_true hm
  obtain ⟨hm, h3⟩ := cond_true hm
  obtain ⟨h1, h2⟩ := cond_true hm
  have h1 : cpS o = o' := of_decide_eq_true h1
  subst h1
  have hb4 : behindInMarks (cpS o) b' = false := by
    cases b' <;> first | rfl | exact no_false h4
  refine WE.of (pe_cmpR op_wo pe_we pe_we hb4) (ha a' true _ at_ h2 hr.left (h.bind based_e fun x st1 g1 v H1 s1 o1 r1 h1 => ?_))
  obtain ⟨d, ed, h1⟩ := h1.dat
  refine hb b' true _ (at_.on s1 o1) h3 hr.right (h1.bind based_e fun y st2 g2 v2 H2 s2 o2 r2 h2 => ?_)
  obtain ⟨d2, ed2, h2⟩ := h2.dat
  obtain ⟨b, eb, h2⟩ := h2.bb
  refine cmp_ok ((r1.rt ed).step s2 o1) (r2.rt ed2) rfl ?_ o2 eb (h2.plain o2 (.bool _))
  have := room_u at_.c.room
  omega
theorem sim_chain {o1 o2 : Cp} {a b k : Ex} (ha : SimE a) (hb : SimE b) (hk : SimE k) : SimE (.chain o1 o2 a b k) := by
  intro X W N sc lv g H σ env st e pk Q at_ hm hr h
  cases e <;> try exact no_false hm
  rename_i a' os bs pos
  rcases os with _ | ⟨p1, _ | ⟨p2, _ | ⟨_, _⟩⟩⟩ <;> try exact no_false hm
  rcases bs with _ | ⟨b', _ | ⟨c', _ | ⟨_, _⟩⟩⟩ <;> try exact no_false hm
  obtain ⟨hm, h6⟩ := cond_true hm
  obtain ⟨hm, h5⟩ := cond_true hm
  obtain ⟨hm, h4⟩ := cond_true hm
  obtain ⟨hm, h3⟩ := cond_true hm
  obtain ⟨h1, h2⟩ := cond_true hm
  have h1 : cpS o1 = p1 := of_decide_eq_true h1
  have h2 : cpS o2 = p2 := of_decide_eq_true h2
  subst h1 h2
  have hb4 : lastMarks [cpS o1, cpS o2] [b', c'] = false := by
    show behindInMarks (cpS o2) c' = false
    cases c' <;> first | rfl | exact no_false h6
  have hu := room_u at_.c.room
  refine WE.of (pe_chain op_wo op_wo pe_we pe_we pe_we hb4) (ha a' true _ at_ h3 hr.left.left (h.bind based_e fun x st1 g1 v H1 s1 o1 r1 h1 => ?_))
  obtain ⟨d, ed, h1⟩ := h1.dat
  refine hb b' true _ (at_.on s1 o1) h4 hr.left.right (h1.bind based_e fun y st2 g2 v2 H2 s2 o2 r2 h2 => ?_)
  obtain ⟨d2, ed2, h2⟩ := h2.dat
  obtain ⟨b, eb, h2⟩ := h2.opt
  refine cmp_ok ((r1.rt ed).step s2 o1) (r2.rt ed2) rfl (by omega) o2 eb ⟨b, rfl, ?_⟩
  cases b with
  | false =>
    have h2 : Fin X.K pk g2 H2 st2 (plain (.bool false)) Q := h2
    exact h2.plain o2 (.bool _)
  | true =>
    rw [if_pos rfl]
    refine hk c' true _ ((at_.on s1 o1).on s2 o2) h5 hr.right (Post.bind based_e h2 fun z st3 g3 v3 H3 s3 o3 r3 h3 => ?_)
    obtain ⟨d3, ed3, h3⟩ := h3.dat
    obtain ⟨b, eb, h3⟩ := h3.bb
    exact cmp_ok ((r2.rt ed2).step s3 o2) (r3.rt ed3) rfl (by omega) o3 eb (h3.plain o3 (.bool _))
theorem sim_and {a b : Ex} (ha : SimE a) (hb : SimE b) : SimE (.and a b) := by
  intro X W N sc lv g H σ env st e pk Q at_ hm hr h
  cases e <;> try exact no_false hm
  rename_i o vs pos
  obtain ⟨h1, hm⟩ := cond_true hm
  have h1 : o = .And := of_decide_eq_true h1
  subst h1
  have main : ∀ (a' b' : Expr) (r : List Expr), mE N a sc a' = true → (∀ {g1 : G} {H1 : Hp} {st1 : Store} (Q : VK), At X W N sc lv g1 H1 σ env st1 → Post X.K X.mg (WS_ W σ) (relE X.K true) g1 H1 (evE b true env st1) Q → WE X (.BoolOp .And (b' :: r) pos) σ H1 Q) →
      WE X (.BoolOp .And (a' :: b' :: r) pos) σ H Q := by
    intro a' b' r hma hbb
    refine WE.of (pe_and pe_we pe_we) (ha a' true _ at_ hma hr.left (h.bind based_e fun x st1 g1 v H1 s1 o1 r1 h1 => ?_))
    obtain ⟨i, ei, h1⟩ := h1.bool
    have e2 := (r1.rt ei).bool
    subst e2
    refine ⟨i, rfl, ?_⟩
    cases i with
    | false =>
      have h1 : Fin X.K pk g1 H1 st1 (plain (.bool false)) Q := h1
      exact h1.plain o1 (.bool _)
    | true =>
      rw [if_pos rfl]
      refine hbb Q (at_.on s1 o1) (Post.bind based_e h1 fun y st2 g2 v2 H2 s2 o2 r2 h2 => ?_)
      obtain ⟨k, ek, h2⟩ := h2.bool
      have e3 := (r2.rt ek).bool
      subst e3
      have h2 : Fin X.K pk g2 H2 st2 (plain (.bool k)) Q := h2
      exact h2.plain o2 (.bool _)
  rcases vs with _ | ⟨a', _ | ⟨b', _ | ⟨c', r⟩⟩⟩ <;> try exact no_false hm
  · obtain ⟨h2, h3⟩ := cond_true hm
    exact main a' b' [] h2 fun Q at1 h => WE.of (pe_one pe_we) (hb b' true _ at1 h3 hr.right h)
  · obtain ⟨h2, h3⟩ := cond_true hm
    exact main a' b' (c' :: r) h2 fun Q at1 h => hb _ true _ at1 h3 hr.right h
theorem sim_or {a b : Ex} (ha : SimE a) (hb : SimE b) : SimE (.or a b) := by
  intro X W N sc lv g H σ env st e pk Q at_ hm hr h
  cases e <;> try exact no_false hm
  rename_i o vs pos
  obtain ⟨h1, hm⟩ := cond_true hm
  have h1 : o = .Or := of_decide_eq_true h1
  subst h1
  have main : ∀ (a' b' : Expr) (r : List Expr), mE N a sc a' = true → (∀ {g1 : G} {H1 : Hp} {st1 : Store} (Q : VK), At X W N sc lv g1 H1 σ env st1 → Post X.K X.mg (WS_ W σ) (relE X.K true) g1 H1 (evE b true env st1) Q → WE X (.BoolOp .Or (b' :: r) pos) σ H1 Q) →
      WE X (.BoolOp .Or (a' :: b' :: r) pos) σ H Q := by
    intro a' b' r hma hbb
    refine WE.of (pe_or pe_we pe_we) (ha a' true _ at_ hma hr.left (h.bind based_e fun x st1 g1 v H1 s1 o1 r1 h1 => ?_))
    obtain ⟨i, ei, h1⟩ := h1.bool
    have e2 := (r1.rt ei).bool
    subst e2
    refine ⟨i, rfl, ?_⟩
    cases i with
    | true =>
      have h1 : Fin X.K pk g1 H1 st1 (plain (.bool true)) Q := h1
      exact h1.plain o1 (.bool _)
    | false =>
      simp only [if_neg Bool.false_ne_true]
      refine hbb Q (at_.on s1 o1) (Post.bind based_e h1 fun y st2 g2 v2 H2 s2 o2 r2 h2 => ?_)
      obtain ⟨k, ek, h2⟩ := h2.bool
      have e3 := (r2.rt ek).bool
      subst e3
      have h2 : Fin X.K pk g2 H2 st2 (plain (.bool k)) Q := h2
      exact h2.plain o2 (.bool _)
  rcases vs with _ | ⟨a', _ | ⟨b', _ | ⟨c', r⟩⟩⟩ <;> try exact no_false hm
  · obtain ⟨h2, h3⟩ := cond_true hm
    exact main a' b' [] h2 fun Q at1 h => WE.of (pe_one pe_we) (hb b' true _ at1 h3 hr.right h)
  · obtain ⟨h2, h3⟩ := cond_true hm
    exact main a' b' (c' :: r) h2 fun Q at1 h => hb _ true _ at1 h3 hr.right h
theorem sim_ite {c a b : Ex} (hc : SimT c) (ha : SimE a) (hb : SimE b) : SimE (.ite c a b) := by
  intro X W N sc lv g H σ env st e pk Q at_ hm hr h
  cases e <;> try exact no_false hm
  rename_i c' a' b' pos
  obtain ⟨hm, h3⟩ := cond_true hm
  obtain ⟨h1, h2⟩ := cond_true hm
  have h : Post X.K X.mg (WS_ W σ) (relE X.K pk) g H (((evE c true env st).bind fun x st => boolOf x st).bind fun k st => bif k then evE a pk env st else evE b pk env st) Q := by
    have e : evE (.ite c a b) pk env st = (((evE c true env st).bind fun x st => boolOf x st).bind fun k st => bif k then evE a pk env st else evE b pk env st) := by
      simp only [evE]
      cases evE c true env st <;> rfl
    rw [← e]
    exact h
  refine WE.of (pe_ifExp pt_wt pe_we pe_we) ((hc c' _ at_ h1 hr.left.left (Post.bind based_e h fun k st1 g1 v H1 s1 o1 r1 h1 => ?_)).1)
  have r1 : v = k := r1
  subst r1
  cases v with
  | true =>
    rw [if_pos rfl]
    exact ha a' pk _ (at_.on s1 o1) h2 hr.left.right h1
  | false =>
    simp only [if_neg Bool.false_ne_true]
    exact hb b' pk _ (at_.on s1 o1) h3 hr.right h1
theorem sim_tup {es : Exs} (hs : SimA es) : SimE (.tup es) := by
  intro X W N sc lv g H σ env st e pk Q at_ hm hr h
  cases e <;> try exact no_false hm
  rename_i es' k pos
  refine WE.of (pe_tup pa_wa) (hs es' _ at_ hm hr (Post.bind based_e h fun ds st1 g1 vs H1 s1 o1 r1 h1 => ?_))
  obtain ⟨hz, h1⟩ := h1.cond
  have h1 : Fin X.K pk g1 H1 st1 (plain (.tuple ds)) Q := h1
  exact ⟨by rw [r1.length]; exact of_decide_eq_true hz, fun p n => h1.tup o1 r1 n⟩
theorem sim_lst {es : Exs} (hs : SimA es) : SimE (.lst es) := by
  intro X W N sc lv g H σ env st e pk Q at_ hm hr h
  cases e <;> try exact no_false hm
  rename_i es' pos
  refine WE.of (pe_lst pa_wa) (hs es' _ at_ hm hr (Post.bind based_e h fun ds st1 g1 vs H1 s1 o1 r1 h1 => ?_))
  obtain ⟨hz, h1⟩ := h1.cond
  have h1 : Fin X.K pk g1 H1 st1 (fresh (.list ds)) Q := h1
  exact ⟨by rw [r1.length]; exact of_decide_eq_true hz, fun p n => h1.lst o1 r1 n⟩
theorem plainIx_ok {e : Expr} (h : plainIx e = true) : PlainIx e ∧ NoSl e := by
  cases e <;> first | exact no_false h | exact ⟨fun _ _ => rfl, fun _ _ => rfl⟩
theorem RKV.get {K : PySem.W.Frag} {g : G} {H : Hp} {s : Str} {x : Val} : ∀ {kv : List (Key × V)} {kvs : List (Str × Val)}, RKV K g H kv kvs → kvs.lookup s = some x → ∃ v, valV kv (.inr s) = some v ∧ RVal K g H v x
  | _, _, .nil, e => by simp at e
  | _, _, .cons (k := k) (v := v) r t, e => by
    by_cases hk : s = k
    · subst hk
      rw [List.lookup_cons_self] at e
      cases e
      exact ⟨v, valV_pos rfl, r⟩
    · rw [List.lookup_cons, show (s == k) = false from beq_eq_false_iff_ne.mpr hk] at e
      obtain ⟨w, h1, h2⟩ := t.get e
      exact ⟨w, by rw [valV_neg (fun q => hk (Sum.inr.inj q).symm)]; exact h1, h2⟩
theorem sim_ix {a b : Ex} (ha : SimE a) (hb : SimE b) : SimE (.ix a b) := by
  intro X W N sc lv g H σ env st e pk Q at_ hm hr h
  cases e <;> try exact no_false hm
  rename_i a' b' pos
  obtain ⟨hm, h3⟩ := cond_true hm
  obtain ⟨h1, h2⟩ := cond_true hm
  have hp := plainIx_ok h1
  have hu := room_u at_.c.room
  have h : Post X.K X.mg (WS_ W σ) (relE X.K pk) g H ((evE a true env st).bind fun x st => (evE b true env st).bind fun y st => ixV x y st) Q := h
  cases ea : evE a true env st with
  | no =>
    rw [ea] at h
    exact h.elim
  | exc c ds st1 =>
    rw [ea] at h
    refine WE.of (pe_ix ix_seq pe_we pe_we hp.1) (ha a' true _ at_ h2 hr.left ?_)
    rw [ea]
    exact h
  | ok x st1 =>
    rw [ea] at h
    have h : Post X.K X.mg (WS_ W σ) (relE X.K pk) g H ((evE b true env st1).bind fun y st => ixV x y st) Q := h
    obtain ⟨fx, x⟩ := x
    cases x with
    | dat d =>
      refine WE.of (pe_ix ix_seq pe_we pe_we hp.1) (ha a' true _ at_ h2 hr.left ?_)
      rw [ea]
      intro g1 v H1 s1 o1 r1
      refine hb b' true _ (at_.on s1 o1) h3 hr.right (Post.bind based_e (h.later based_e s1) fun y st2 g2 v2 H2 s2 o2 r2 h2 => ?_)
      have rx := (r1.rt rfl).step s2 o1
      obtain ⟨fy, y⟩ := y
      cases y with
      | loc n => cases d <;> exact h2.elim
      | dat e =>
        have re := r2.rt rfl
        have seq : ∀ {ds : List D} {k : Int}, seqOf d = some ds → e = .int k → Post X.K X.mg (WS_ W σ) (relE X.K pk) g2 H2 (match ixD ds k with | some d => .ok (plain d) st2 | none => .no) Q → rIx X.K v v2 H2 Q := by
          intro ds k e1 e2 h3
          subst e2
          have e3 := re.int
          subst e3
          cases hd : ixD ds k with
          | none =>
            rw [hd] at h3
            exact h3.elim
          | some r =>
            rw [hd] at h3
            exact ix_rd rx e1 hd rfl o2 h3
        cases d <;> cases e <;> first | exact h2.elim | exact seq rfl rfl h2
    | loc n =>
      refine WE.of (pe_dget (by omega) pe_we pe_we hp.2) (ha a' true _ at_ h2 hr.left ?_)
      rw [ea]
      intro g1 v H1 s1 o1 r1
      refine hb b' true _ (at_.on s1 o1) h3 hr.right (Post.bind based_e (h.later based_e s1) fun y st2 g2 v2 H2 s2 o2 r2 h2 => ?_)
      have rv : RVal X.K g1 H1 v (.loc n) := by cases fx <;> exact r1
      obtain ⟨p, hp1, rfl⟩ := rv.step s2 o1
      obtain ⟨fy, y⟩ := y
      cases y with
      | loc n => exact h2.elim
      | dat e =>
        cases e <;> try exact h2.elim
        rename_i z
        have e2 := (r2.rt rfl).str
        subst e2
        have h2 : Post X.K X.mg (WS_ W σ) (relE X.K pk) g2 H2 (match st2[n]? with
          | some (.dic kvs) => (match kvs.lookup z with | some v => .ok ⟨false, v⟩ st2 | none => .no)
          | _ => .no) Q := h2
        cases hn : st2[n]? with
        | none =>
          rw [hn] at h2
          exact h2.elim
        | some c =>
          rw [hn] at h2
          cases c with
          | lst xs => exact h2.elim
          | dic kvs =>
            obtain ⟨kv, ek, rk⟩ := o2.cell n p _ hp1 hn
            have h2 : Post X.K X.mg (WS_ W σ) (relE X.K pk) g2 H2 (match kvs.lookup z with | some v => .ok ⟨false, v⟩ st2 | none => .no) Q := h2
            cases hl : kvs.lookup z with
            | none =>
              rw [hl] at h2
              exact h2.elim
            | some y =>
              rw [hl] at h2
              obtain ⟨w, e1, rw1⟩ := rk.get hl
              refine ⟨p, w, rfl, ?_, h2 g2 w H2 .refl o2 ?_⟩
              · have q := DGet.k (k := .inr z) ek
                rw [e1] at q
                exact q
              · cases y with
                | loc n => exact rw1
                | dat d =>
                  cases pk with
                  | true => exact .inl rw1
                  | false => exact rw1
theorem sim_slice {a : Ex} {lo hi : Opt} (ha : SimE a) (hl : SimO lo) (hh : SimO hi) : SimE (.slice a lo hi) := by
  intro X W N sc lv g H σ env st e pk Q at_ hm hr h
  cases e <;> try exact no_false hm
  rename_i a' s pos
  cases s <;> try exact no_false hm
  rename_i l u z p2
  cases z <;> try exact no_false hm
  obtain ⟨hm, h3⟩ := cond_true hm
  obtain ⟨h1, h2⟩ := cond_true hm
  refine WE.of (pe_slice sl_data pe_we po_wp po_wp) (ha a' true _ at_ h1 hr.left.left (h.bind based_e fun x st1 g1 v H1 s1 o1 r1 h1 => ?_))
  obtain ⟨d, ed, h1⟩ := h1.dat
  refine hl l _ (at_.on s1 o1) h2 hr.left.right (Post.bind based_e h1 fun l st2 g2 v2 H2 s2 o2 r2 h2 => ?_)
  have r2 : v2 = l := r2
  subst r2
  refine hh u _ ((at_.on s1 o1).on s2 o2) h3 hr.right (Post.bind based_e h2 fun u st3 g3 v3 H3 s3 o3 r3 h3 => ?_)
  have r3 : v3 = u := r3
  subst r3
  obtain ⟨fr, r, er, h3⟩ := h3.bd
  exact slice_rd (((r1.rt ed).step s2 o1).step s3 o2) er rfl o3 h3
theorem Fin.later {K : PySem.W.Frag} {pk : Bool} {g g1 : G} {H H1 : Hp} {st : Store} {x : RV} {Q : VK} (h : Fin K pk g H st x Q) (s : Step g H g1 H1) : Fin K pk g1 H1 st x Q := fun g' v H' s' o q => h g' v H' (s.trans s') o (based_e _ _ _ _ _ _ s.gone q)
theorem sim_rev {a : Ex} (ha : SimE a) : SimE (.rev a) := by
  intro X W N sc lv g H σ env st e pk Q at_ hm hr h
  cases e <;> try exact no_false hm
  rename_i a' s pos
  cases s <;> try exact no_false hm
  rename_i l u z p2
  cases l <;> cases u <;> cases z <;> try exact no_false hm
  rename_i z
  cases z <;> try exact no_false hm
  rename_i o z p3
  cases o <;> cases z <;> try exact no_false hm
  rename_i k j p4
  cases k <;> try exact no_false hm
  rename_i i
  obtain ⟨h1, h2⟩ := cond_true hm
  have h1 : i = 1 := of_decide_eq_true h1
  subst h1
  have h : Post X.K X.mg (WS_ W σ) (relE X.K pk) g H ((evE a true env st).bind fun x st => (datOf x st).bind fun x st => ofBD (revD x) st) Q := h
  cases ea : evE a true env st with
  | no =>
    rw [ea] at h
    exact h.elim
  | exc c ds st1 =>
    rw [ea] at h
    refine WE.of (pe_revL pe_we) (ha a' true _ at_ h2 hr ?_)
    rw [ea]
    exact h
  | ok x st1 =>
    rw [ea] at h
    obtain ⟨d, ed, h⟩ := Post.dat (x := x) (st := st1) h
    obtain ⟨fr, r, er, h⟩ := h.bd
    cases d <;> simp only [revD] at er <;> try cases er
    · refine WE.of (pe_revL pe_we) (ha a' true _ at_ h2 hr ?_)
      rw [ea]
      intro g1 v H1 s1 o1 r1
      obtain ⟨b, vs, rfl, sq, rd⟩ := (r1.rt ed).list
      have h := h.later s1
      exact ⟨b, vs, rfl, sq, fun p n => h.lst o1 rd.reverse n⟩
    · refine WE.of (pe_revT pe_we) (ha a' true _ at_ h2 hr ?_)
      rw [ea]
      intro g1 v H1 s1 o1 r1
      obtain ⟨b, vs, rfl, sq, rd, _⟩ := (r1.rt ed).tuple
      have h := h.later s1
      exact ⟨b, vs, rfl, sq, fun p n => h.tup o1 rd.reverse n⟩
theorem sim_revc {a : Ex} (ha : SimE a) : SimE (.revc a) := by
  intro X W N sc lv g H σ env st e pk Q at_ hm hr h
  cases e <;> try exact no_false hm
  rename_i a' s pos
  cases s <;> try exact no_false hm
  rename_i l u z p2
  cases l <;> try exact no_false hm
  rcases u with _ | u <;> try exact no_false hm
  cases u <;> try exact no_false hm
  rename_i k0 j0 p0
  cases k0 <;> try exact no_false hm
  rename_i i0
  rcases z with _ | z <;> try exact no_false hm
  cases z <;> try exact no_false hm
  rename_i o z p3
  cases o <;> try exact no_false hm
  cases z <;> try exact no_false hm
  rename_i k j p4
  cases k <;> try exact no_false hm
  rename_i i
  obtain ⟨hm, h2⟩ := cond_true hm
  obtain ⟨h0, h1⟩ := cond_true hm
  have h1 : i = 1 := of_decide_eq_true h1
  have h0 : i0 = 0 := of_decide_eq_true h0
  subst h1 h0
  have h : Post X.K X.mg (WS_ W σ) (relE X.K pk) g H ((evE a true env st).bind fun x st => (datOf x st).bind fun x st => ofBD (revcD x) st) Q := h
  refine WE.of (pe_revC pe_we) (ha a' true _ at_ h2 hr (h.bind based_e fun x st1 g1 v H1 s1 o1 r1 h1 => ?_))
  obtain ⟨d, ed, h1⟩ := h1.dat
  obtain ⟨fr, r, er, h1⟩ := h1.bd
  cases d <;> simp only [revcD] at er <;> try cases er
  rename_i ds
  rcases ds with _ | ⟨d0, ds⟩
  · cases er
  · cases er
    obtain ⟨b, vs, rfl, sq, rd, _⟩ := (r1.rt ed).tuple
    cases rd with
    | cons r0 rd => exact ⟨b, _, _, rfl, sq, fun p n => h1.tup o1 rd.reverse n⟩
theorem sim_call {x : Str} {sem : Fn} {es : Exs} (hs : SimV es) : SimE (.call x sem es) := by
  intro X W N sc lv g H σ env st e pk Q at_ hm hr h
  cases e <;> try exact no_false hm
  rename_i f args kws pos
  cases f <;> cases kws <;> try exact no_false hm
  rename_i y p
  obtain ⟨hm, h5⟩ := cond_true hm
  obtain ⟨hm, h4⟩ := cond_true hm
  obtain ⟨hm, h3⟩ := cond_true hm
  obtain ⟨h1, h2⟩ := cond_true hm
  have h1 : x = y := of_decide_eq_true h1
  subst h1
  have h : Post X.K X.mg (WS_ W σ) (relE X.K pk) g H ((evV es env st).bind fun vs st => sem vs st) Q := h
  have to : ∀ {g1 : G} {H1 : Hp} {r : R RV}, Post X.K X.mg (WS_ W σ) (relE X.K pk) g1 H1 r Q → Post X.K X.mg (WS_ W σ) (relE X.K false) g1 H1 r Q := by
    intro g1 H1 r q
    cases r with
    | no => exact q
    | exc c ds st => exact q
    | ok x st =>
      intro g' v H' s o w
      refine q g' v H' s o ?_
      cases pk with
      | false => exact w
      | true =>
        obtain ⟨fr, y⟩ := x
        cases y with
        | loc n => cases fr <;> exact w
        | dat d =>
          cases fr with
          | true => exact w
          | false => exact .inl w
  cases args with
  | nil =>
    cases es <;> try exact no_false h5
    exact we_call0 at_.c hr.head h2 h3 ⟨g, st, at_.ok, to h⟩
  | cons e1 r =>
    refine we_call at_.c hr.head h2 h3 h4 (hs _ _ at_ h5 hr.tail (Post.bind based_e h fun vals st1 g1 vs H1 s1 o1 r1 h1 => ⟨g1, vals, st1, r1, o1, to h1⟩))
theorem sim_blt {f : Blt} {es : Exs} (hs : SimP es) : SimE (.blt f es) := by
  intro X W N sc lv g H σ env st e pk Q at_ hm hr h
  cases e <;> try exact no_false hm
  rename_i z args kws pos
  cases z <;> cases kws <;> try exact no_false hm
  rename_i y p
  obtain ⟨hm, h5⟩ := cond_true hm
  obtain ⟨hm, h4⟩ := cond_true hm
  obtain ⟨hm, h3⟩ := cond_true hm
  obtain ⟨h1, h2⟩ := cond_true hm
  have h1 : f.name = y := of_decide_eq_true h1
  subst h1
  cases args with
  | nil => exact no_false h3
  | cons e1 r =>
    refine we_blt at_.c hr.head h2 h4 (hs _ _ at_ h5 hr.tail (Post.bind based_e h fun ds st1 g1 vs H1 s1 o1 r1 h1 => ?_))
    obtain ⟨fr, r, er, h1⟩ := h1.bd
    exact blt_ok at_.c.guards (room_u at_.c.room) at_.c.calm r1 rfl o1 er h1
theorem sim_isi {a : Ex} {ts : List String} (ha : SimE a) : SimE (.isi a ts) := by
  intro X W N sc lv g H σ env st e pk Q at_ hm hr h
  cases e <;> try exact no_false hm
  rename_i z args kws pos
  cases z <;> cases kws <;> try exact no_false hm
  rename_i y p
  rcases args with _ | ⟨a', _ | ⟨t', _ | ⟨_, _⟩⟩⟩ <;> try exact no_false hm
  obtain ⟨hm, h5⟩ := cond_true hm
  obtain ⟨hm, h4⟩ := cond_true hm
  obtain ⟨hm, h3⟩ := cond_true hm
  obtain ⟨h1, h2⟩ := cond_true hm
  have h1 : y = "isinstance" := of_decide_eq_true h1
  subst h1
  rcases ts with _ | ⟨t, _ | ⟨_, _⟩⟩ <;> try exact no_false h5
  cases t' <;> try exact no_false h5
  rename_i z q
  obtain ⟨h5, h9⟩ := cond_true h5
  obtain ⟨h5, h8⟩ := cond_true h5
  obtain ⟨h5, h7⟩ := cond_true h5
  obtain ⟨h5, h6⟩ := cond_true h5
  have h5 : z = Str.ofString t := of_decide_eq_true h5
  subst h5
  have hd := okName_debug h7
  have hmt : X.mg (Str.ofString t) = none := hr.tail.left.head
  have rest : PA X [Expr.Name (Str.ofString t) q] (tCons (tC (.ty t)) tNil) := pa_cons (pe_bltn (at_.c.gl h6) hmt (of_decide_eq_true h9) (v := .ty t) rfl hd.2.2 hd.1) pa_nil
  refine WE.of (pe_callB (r := wcr X (.builtin "isinstance")) cr_wc (at_.c.gl h2) hr.head (by decide +kernel) (pa_cons (pe_we (e := a')) rest (starEach_cons h4)) (by decide) (by decide) (starEach_cons h4) (by rfl)) ?_
  refine ha a' true _ at_ h3 (fun r hr' => hr r ?_) (Post.bind based_e h fun x st1 g1 v H1 s1 o1 r1 h1 => ?_)
  · exact List.mem_append_right _ hr'
  · obtain ⟨d, ed, h1⟩ := h1.dat
    have h1 : Fin X.K pk g1 H1 st1 (plain (.bool ([t].any (isA d)))) Q := h1
    refine wc_isi (r1.rt ed) rfl h8 ?_
    have q := h1.plain o1 (.bool _)
    simpa using q
end MP
/-! Arguments, parts, tests. -/
namespace MP
open PySem PyProof.Rows L2 PySem.Spec
section
variable {K : PySem.W.Frag} {mg : Str → Option Value} {W : Value → Option Addr → Hp → Prop} {g g1 : G} {H H1 H2 : Hp} {st st1 : Store}
variable {α β γ δ : Type} {Rl : Hp → G → Hp → β → α → Prop} {Rm : Hp → G → Hp → δ → γ → Prop}
theorem Post.bindF {r : R α} {f : α → Store → R γ} {Q : δ → Hp → Prop} {Q1 : β → Hp → Prop} (b : Based Rm) (h : Post K mg W Rm g H (r.bind f) Q)
    (k : ∀ x st g1 v H1, Step g H g1 H1 → Ok K g1 H1 st → Rl H g1 H1 v x → (∀ g' H', Step g H g' H' → Post K mg W Rm g' H' (f x st) Q) → Q1 v H1) : Post K mg W Rl g H r Q1 := by
  cases r with
  | ok x st => exact fun g' v H' s o q => k x st g' v H' s o q fun g2 H2 s2 => h.later b s2
  | exc c ds st => exact h
  | no => exact h
end
theorem simV_nil : SimV .nil := by
  intro X W N sc lv g H σ env st es Q at_ hm hr h
  cases es <;> try exact no_false hm
  exact WA.of pa_nil (h g [] H .refl at_.ok .nil)
theorem simA_nil : SimA .nil := by
  intro X W N sc lv g H σ env st es Q at_ hm hr h
  cases es <;> try exact no_false hm
  exact WA.of pa_nil (h g [] H .refl at_.ok .nil)
theorem simP_nil : SimP .nil := by
  intro X W N sc lv g H σ env st es Q at_ hm hr h
  cases es <;> try exact no_false hm
  exact WA.of pa_nil (h g [] H .refl at_.ok .nil)
theorem simV_cons {e : Ex} {es : Exs} (he : SimE e) (hs : SimV es) : SimV (.cons e es) := by
  intro X W N sc lv g H σ env st l Q at_ hm hr h
  cases l <;> try exact no_false hm
  rename_i e' r'
  obtain ⟨hm, h3⟩ := cond_true hm
  obtain ⟨h1, h2⟩ := cond_true hm
  refine WA.of (pa_cons pe_we pa_wa (starEach_cons h1)) (he e' false _ at_ h2 hr.left (Post.bindF based_v h fun x st1 g1 v H1 s1 o1 r1 h1 => ?_))
  obtain ⟨g2, s2, o2, r2⟩ := r1.frozenV s1 o1
  refine hs r' _ (at_.on s2 o2) h3 hr.right (Post.bind based_v (h1 g2 H1 s2) fun vs st3 g3 us H3 s3 o3 r3 h3 => ?_)
  exact h3 g3 (v :: us) H3 .refl o3 (.cons (r2.step s3 o2) r3)
theorem simA_cons {e : Ex} {es : Exs} (he : SimE e) (hs : SimA es) : SimA (.cons e es) := by
  intro X W N sc lv g H σ env st l Q at_ hm hr h
  cases l <;> try exact no_false hm
  rename_i e' r'
  obtain ⟨hm, h3⟩ := cond_true hm
  obtain ⟨h1, h2⟩ := cond_true hm
  refine WA.of (pa_cons pe_we pa_wa (starEach_cons h1)) (he e' false _ at_ h2 hr.left (Post.bindF based_d h fun x st1 g1 v H1 s1 o1 r1 h1 => ?_))
  obtain ⟨d, ed, _⟩ := Post.dat (h1 g1 H1 s1)
  obtain ⟨g2, s2, o2, r2, _⟩ := r1.frozen s1 o1 ed
  obtain ⟨d', ed', h1⟩ := Post.dat (h1 g2 H1 s2)
  cases ed.symm.trans ed'
  refine hs r' _ (at_.on s2 o2) h3 hr.right (Post.bind based_d h1 fun vs st3 g3 us H3 s3 o3 r3 h3 => ?_)
  exact h3 g3 (v :: us) H3 .refl o3 (.cons (RD.holds (s3.holds o2) r2) r3)
theorem RDs.step {K : PySem.W.Frag} {g g1 : G} {H H1 : Hp} {st : Store} {vs : List V} {ds : List D} (s : Step g H g1 H1) (o : Ok K g H st) (h : RDs K g.Z H vs ds) : RDs K g1.Z H1 vs ds := RDs.holds (s.holds o) h
theorem simA_star {e : Ex} {es : Exs} (he : SimE e) (hs : SimA es) : SimA (.star e es) := by
  intro X W N sc lv g H σ env st l Q at_ hm hr h
  cases l <;> try exact no_false hm
  rename_i e' r'
  cases e' <;> try exact no_false hm
  rename_i e' p
  obtain ⟨h1, h2⟩ := cond_true hm
  refine wa_star (he e' true _ at_ h1 hr.left (Post.bind based_d h fun x st1 g1 v H1 s1 o1 r1 h1 => ?_))
  obtain ⟨d, ed, h1⟩ := h1.dat
  obtain ⟨ds, es, h1⟩ := h1.opt
  refine ⟨g1, d, ds, r1.rt ed, es, fun vs rv => ?_⟩
  refine hs r' _ (at_.on s1 o1) h2 hr.right (Post.bind based_d h1 fun vs2 st3 g3 us H3 s3 o3 r3 h3 => ?_)
  exact h3 g3 (vs ++ us) H3 .refl o3 ((RDs.step s3 o1 rv).append r3)
theorem simV_star {e : Ex} {es : Exs} : SimV (.star e es) := by
  intro X W N sc lv g H σ env st l Q at_ hm hr h
  exact h.elim
theorem simP_star {e : Ex} {es : Exs} : SimP (.star e es) := by
  intro X W N sc lv g H σ env st l Q at_ hm hr h
  exact h.elim
theorem simP_cons {e : Ex} {es : Exs} (he : SimE e) (hs : SimP es) : SimP (.cons e es) := by
  intro X W N sc lv g H σ env st l Q at_ hm hr h
  cases l <;> try exact no_false hm
  rename_i e' r'
  obtain ⟨hm, h3⟩ := cond_true hm
  obtain ⟨h1, h2⟩ := cond_true hm
  refine WA.of (pa_cons pe_we pa_wa (starEach_cons h1)) (he e' true _ at_ h2 hr.left (Post.bind based_t h fun x st1 g1 v H1 s1 o1 r1 h1 => ?_))
  obtain ⟨d, ed, h1⟩ := h1.dat
  refine hs r' _ (at_.on s1 o1) h3 hr.right (Post.bind based_t h1 fun vs st3 g3 us H3 s3 o3 r3 h3 => ?_)
  exact h3 g3 (v :: us) H3 .refl o3 (.cons ((r1.rt ed).step s3 o1) r3)
theorem simO_non : SimO .non := by
  intro X W N sc lv g H σ env st e Q at_ hm hr h
  cases e <;> try exact no_false hm
  exact WP.of po_none (h g _ H .refl at_.ok rfl)
theorem simO_som {e : Ex} (he : SimE e) : SimO (.som e) := by
  intro X W N sc lv g H σ env st l Q at_ hm hr h
  cases l <;> try exact no_false hm
  rename_i e'
  refine WP.of (po_some pe_we) (he e' true _ at_ hm hr (Post.bind based_eq h fun x st1 g1 v H1 s1 o1 r1 h1 => ?_))
  obtain ⟨i, ei, h1⟩ := h1.int
  have e2 := (r1.rt ei).int
  subst e2
  exact ⟨i, rfl, h1 g1 _ H1 .refl o1 rfl⟩
/-! ### tests -/
/-- a test by its value -/
theorem simT_val {m : Ex} (he : SimE m) {X : Cx} {W : WX} {N : List Str} {sc : Scope} {lv : Nat} {g : G} {H : Hp} {σ : L2.St} {env : Env} {st : Store} {e : Expr} {Q : Bool → Hp → Prop} (at_ : At X W N sc lv g H σ env st) (hm : mE N m sc e = true) (hr : Rqs X lv (rqE m))
    (h : Post X.K X.mg (WS_ W σ) relEq g H ((evE m true env st).bind fun x st => boolOf x st) Q)
    (hw : ∀ whole : Sem Value, PySem.isTrue e X.env whole = (do let v ← whole; standAt e.pos; holding [v] (truthy v))) : WT X e σ H Q := by
  refine WT.of (pt_val pe_we hw) (he e true _ at_ hm hr (Post.bind based_eq h fun x st1 g1 v H1 s1 o1 r1 h1 => ?_))
  have h1 : Post X.K X.mg (WS_ W σ) relEq g1 H1 ((boolOf x st1).bind fun b st => .ok b st) Q := by
    obtain ⟨fr, y⟩ := x
    cases y with
    | loc n => exact h1
    | dat d => cases d <;> exact h1
  obtain ⟨i, ei, h1⟩ := h1.bool
  have e2 := (r1.rt ei).bool
  subst e2
  exact ⟨i, rfl, h1 g1 _ H1 .refl o1 rfl⟩
theorem notBool {e : Expr} {P : Prop} (h : ∀ o vs p, e ≠ .BoolOp o vs p) : (∃ o vs p, e = .BoolOp o vs p) → P := fun ⟨o, vs, p, q⟩ => (h o vs p q).elim
/-- for the forms that have no tests of their own -/
theorem simT_of {m : Ex} (he : SimE m) (hf : ∀ {N : List Str} {sc : Scope} {e : Expr} (env : PySem.Env), mE N m sc e = true → (∀ o vs p, e ≠ .BoolOp o vs p) ∧ ∀ whole : Sem Value, PySem.isTrue e env whole = (do let v ← whole; standAt e.pos; holding [v] (truthy v))) : SimT m := by
  intro X W N sc lv g H σ env st e Q at_ hm hr h
  exact ⟨simT_val he at_ hm hr h (hf X.env hm).2, notBool (hf X.env hm).1⟩
theorem simT_cmp {o : Cp} {a b : Ex} (ha : SimE a) (hb : SimE b) : SimT (.cmp o a b) := by
  intro X W N sc lv g H σ env st e Q at_ hm hr h
  cases e <;> try exact no_false hm
  rename_i a' os bs pos
  refine ⟨?_, notBool fun _ _ _ q => by cases q⟩
  rcases os with _ | ⟨o', _ | ⟨_, _⟩⟩ <;> try exact no_false hm
  rcases bs with _ | ⟨b', _ | ⟨_, _⟩⟩ <;> try exact no_false hm
  obtain ⟨hm, h4⟩ := cond_true hm
  obtain ⟨hm, h3⟩ := cond_true hm
  obtain ⟨h1, h2⟩ := cond_true hm
  have h1 : cpS o = o' := of_decide_eq_true h1
  subst h1
  have hb4 : behindInMarks (cpS o) b' = false := by
    cases b' <;> first | rfl | exact no_false h4
  have h : Post X.K X.mg (WS_ W σ) relEq g H ((evE a true env st).bind fun x st => (datOf x st).bind fun x st => (evE b true env st).bind fun y st => (datOf y st).bind fun y st => (ofB (cmpD o x y) st).bind fun x st => boolOf x st) Q := by
    have e : ((evE (.cmp o a b) true env st).bind fun x st => boolOf x st) = ((evE a true env st).bind fun x st => (datOf x st).bind fun x st => (evE b true env st).bind fun y st => (datOf y st).bind fun y st => (ofB (cmpD o x y) st).bind fun x st => boolOf x st) := by
      simp only [evE]
      cases evE a true env st <;> try rfl
      rename_i x s1
      show ((datOf x s1).bind _).bind _ = (datOf x s1).bind _
      cases datOf x s1 <;> try rfl
      rename_i x s1
      show ((evE b true env s1).bind _).bind _ = (evE b true env s1).bind _
      cases evE b true env s1 <;> try rfl
      rename_i x s1
      show ((datOf x s1).bind _).bind _ = (datOf x s1).bind _
      cases datOf x s1 <;> rfl
    rw [← e]
    exact h
  refine WT.of (pt_cmpR op_wo pe_we pe_we hb4) (ha a' true _ at_ h2 hr.left (h.bind based_eq fun x st1 g1 v H1 s1 o1 r1 h1 => ?_))
  obtain ⟨d, ed, h1⟩ := h1.dat
  refine hb b' true _ (at_.on s1 o1) h3 hr.right (h1.bind based_eq fun y st2 g2 v2 H2 s2 o2 r2 h2 => ?_)
  obtain ⟨d2, ed2, h2⟩ := h2.dat
  cases eb : cmpD o d d2 with
  | none =>
    rw [eb] at h2
    exact h2.elim
  | some b =>
    rw [eb] at h2
    refine cmp_ok ((r1.rt ed).step s2 o1) (r2.rt ed2) rfl ?_ o2 eb ⟨b, rfl, h2 g2 b H2 .refl o2 rfl⟩
    have := room_u at_.c.room
    omega
theorem simT_not {a : Ex} (ha : SimT a) : SimT (.not a) := by
  intro X W N sc lv g H σ env st e Q at_ hm hr h
  cases e <;> try exact no_false hm
  rename_i o b pos
  obtain ⟨h1, h2⟩ := cond_true hm
  have h1 : o = .Not := of_decide_eq_true h1
  subst h1
  have e : ((evE (.not a) true env st).bind fun x st => boolOf x st) = (((evE a true env st).bind fun x st => boolOf x st).bind fun k st => .ok (!k) st) := by
    simp only [evE]
    cases evE a true env st <;> try rfl
    rename_i x s1
    show ((boolOf x s1).bind _).bind _ = (boolOf x s1).bind _
    cases boolOf x s1 <;> rfl
  rw [e] at h
  refine ⟨WT.of (pt_not pt_wt) ((ha b _ at_ h2 hr (Post.bind based_eq h fun k st1 g1 v H1 s1 o1 r1 h1 => ?_)).1), notBool fun _ _ _ q => by cases q⟩
  have r1 : v = k := r1
  subst r1
  exact h1 g1 _ H1 .refl o1 rfl
theorem and_test {a b : Ex} {env : Env} {st : Store} : ((evE (.and a b) true env st).bind fun x st => boolOf x st) =
    (((evE a true env st).bind fun x st => boolOf x st).bind fun k st => bif k then ((evE b true env st).bind fun x st => boolOf x st) else .ok false st) := by
  simp only [evE]
  cases evE a true env st <;> try rfl
  rename_i x s1
  show ((boolOf x s1).bind _).bind _ = (boolOf x s1).bind _
  cases boolOf x s1 <;> try rfl
  rename_i k s1
  cases k with
  | false => rfl
  | true =>
    show ((evE b true env s1).bind _).bind _ = (evE b true env s1).bind _
    cases evE b true env s1 <;> try rfl
    rename_i x s1
    show ((boolOf x s1).bind _).bind _ = boolOf x s1
    cases boolOf x s1 <;> rfl
theorem or_test {a b : Ex} {env : Env} {st : Store} : ((evE (.or a b) true env st).bind fun x st => boolOf x st) =
    (((evE a true env st).bind fun x st => boolOf x st).bind fun k st => bif k then .ok true st else ((evE b true env st).bind fun x st => boolOf x st)) := by
  simp only [evE]
  cases evE a true env st <;> try rfl
  rename_i x s1
  show ((boolOf x s1).bind _).bind _ = (boolOf x s1).bind _
  cases boolOf x s1 <;> try rfl
  rename_i k s1
  cases k with
  | true => rfl
  | false =>
    show ((evE b true env s1).bind _).bind _ = (evE b true env s1).bind _
    cases evE b true env s1 <;> try rfl
    rename_i x s1
    show ((boolOf x s1).bind _).bind _ = boolOf x s1
    cases boolOf x s1 <;> rfl
theorem simT_and {a b : Ex} (ha : SimT a) (hb : SimT b) : SimT (.and a b) := by
  intro X W N sc lv g H σ env st e Q at_ hm hr h
  cases e <;> try exact no_false hm
  rename_i o vs pos
  obtain ⟨h1, hm⟩ := cond_true hm
  have h1 : o = .And := of_decide_eq_true h1
  subst h1
  rw [and_test] at h
  have main : ∀ (a' b' : Expr) (r : List Expr), mE N a sc a' = true → (∀ {g1 : G} {H1 : Hp} {st1 : Store} (Q : Bool → Hp → Prop), At X W N sc lv g1 H1 σ env st1 → Post X.K X.mg (WS_ W σ) relEq g1 H1 ((evE b true env st1).bind fun x st => boolOf x st) Q → WW X (.BoolOp .And (b' :: r) pos) σ H1 Q) →
      WW X (.BoolOp .And (a' :: b' :: r) pos) σ H Q := by
    intro a' b' r hma hbb
    refine WW.of (pw_and pt_wt pw_ww) ((ha a' _ at_ hma hr.left (Post.bind based_eq h fun k st1 g1 v H1 s1 o1 r1 h1 => ?_)).1)
    have r1 : v = k := r1
    subst r1
    cases v with
    | false => exact h1 g1 _ H1 .refl o1 rfl
    | true =>
      rw [if_pos rfl]
      exact hbb Q (at_.on s1 o1) h1
  have fin : WW X (.BoolOp .And vs pos) σ H Q := by
    rcases vs with _ | ⟨a', _ | ⟨b', _ | ⟨c', r⟩⟩⟩ <;> try exact no_false hm
    · obtain ⟨h2, h3⟩ := cond_true hm
      exact main a' b' [] h2 fun Q at1 h => WW.of (pw_and1 pt_wt) ((hb b' _ at1 h3 hr.right h).1)
    · obtain ⟨h2, h3⟩ := cond_true hm
      exact main a' b' (c' :: r) h2 fun Q at1 h => (hb _ _ at1 h3 hr.right h).2 ⟨_, _, _, rfl⟩
  exact ⟨WT.of pw_ww.pt fin, fun _ => fin⟩
theorem simT_or {a b : Ex} (ha : SimT a) (hb : SimT b) : SimT (.or a b) := by
  intro X W N sc lv g H σ env st e Q at_ hm hr h
  cases e <;> try exact no_false hm
  rename_i o vs pos
  obtain ⟨h1, hm⟩ := cond_true hm
  have h1 : o = .Or := of_decide_eq_true h1
  subst h1
  rw [or_test] at h
  have main : ∀ (a' b' : Expr) (r : List Expr), mE N a sc a' = true → (∀ {g1 : G} {H1 : Hp} {st1 : Store} (Q : Bool → Hp → Prop), At X W N sc lv g1 H1 σ env st1 → Post X.K X.mg (WS_ W σ) relEq g1 H1 ((evE b true env st1).bind fun x st => boolOf x st) Q → WW X (.BoolOp .Or (b' :: r) pos) σ H1 Q) →
      WW X (.BoolOp .Or (a' :: b' :: r) pos) σ H Q := by
    intro a' b' r hma hbb
    refine WW.of (pw_or pt_wt pw_ww) ((ha a' _ at_ hma hr.left (Post.bind based_eq h fun k st1 g1 v H1 s1 o1 r1 h1 => ?_)).1)
    have r1 : v = k := r1
    subst r1
    cases v with
    | true => exact h1 g1 _ H1 .refl o1 rfl
    | false =>
      simp only [if_neg Bool.false_ne_true]
      exact hbb Q (at_.on s1 o1) h1
  have fin : WW X (.BoolOp .Or vs pos) σ H Q := by
    rcases vs with _ | ⟨a', _ | ⟨b', _ | ⟨c', r⟩⟩⟩ <;> try exact no_false hm
    · obtain ⟨h2, h3⟩ := cond_true hm
      exact main a' b' [] h2 fun Q at1 h => WW.of (pw_or1 pt_wt) ((hb b' _ at1 h3 hr.right h).1)
    · obtain ⟨h2, h3⟩ := cond_true hm
      exact main a' b' (c' :: r) h2 fun Q at1 h => (hb _ _ at1 h3 hr.right h).2 ⟨_, _, _, rfl⟩
  exact ⟨WT.of pw_ww.pt fin, fun _ => fin⟩
/-- x if c else y as a test -/
theorem pt_iteX {X : Cx} {c a b : Expr} {tc ta tb : TT} {pos : Pos} (hc : PT X c tc) (ha : PT X a ta) (hb : PT X b tb) : PT X (.IfExp c a b pos) (fun σ H Q => tc σ H fun k H1 => if k = true then ta σ H1 Q else tb σ H1 Q) := by
  refine ⟨fun pn s σ H Q I h => ?_⟩
  show wpAny _ _ (isTrue c X.env (eval c X.env) >>= fun k => if k = true then isTrue a X.env (eval a X.env) else isTrue b X.env (eval b X.env)) _ _ s
  refine wpAny_bind (thn (hc.run pn s σ H _ I h) fun k s1 ⟨H1, I1, q⟩ => ?_)
  cases k with
  | true => exact ha.run pn s1 σ H1 Q I1 q
  | false => exact hb.run pn s1 σ H1 Q I1 q
theorem simT_ite {c a b : Ex} (hc : SimT c) (ha : SimT a) (hb : SimT b) : SimT (.ite c a b) := by
  intro X W N sc lv g H σ env st e Q at_ hm hr h
  cases e <;> try exact no_false hm
  rename_i c' a' b' pos
  obtain ⟨hm, h3⟩ := cond_true hm
  obtain ⟨h1, h2⟩ := cond_true hm
  have h : Post X.K X.mg (WS_ W σ) relEq g H (((evE c true env st).bind fun x st => boolOf x st).bind fun k st => bif k then ((evE a true env st).bind fun x st => boolOf x st) else ((evE b true env st).bind fun x st => boolOf x st)) Q := by
    have e : ((evE (.ite c a b) true env st).bind fun x st => boolOf x st) = (((evE c true env st).bind fun x st => boolOf x st).bind fun k st => bif k then ((evE a true env st).bind fun x st => boolOf x st) else ((evE b true env st).bind fun x st => boolOf x st)) := by
      simp only [evE]
      cases evE c true env st <;> try rfl
      rename_i x s1
      show ((boolOf x s1).bind _).bind _ = (boolOf x s1).bind _
      cases boolOf x s1 <;> try rfl
      rename_i k s1
      cases k <;> rfl
    rw [← e]
    exact h
  refine ⟨WT.of (pt_iteX pt_wt pt_wt pt_wt) ((hc c' _ at_ h1 hr.left.left (Post.bind based_eq h fun k st1 g1 v H1 s1 o1 r1 h1 => ?_)).1), notBool fun _ _ _ q => by cases q⟩
  have r1 : v = k := r1
  subst r1
  cases v with
  | true =>
    rw [if_pos rfl]
    exact (ha a' _ (at_.on s1 o1) h2 hr.left.right h1).1
  | false =>
    simp only [if_neg Bool.false_ne_true]
    exact (hb b' _ (at_.on s1 o1) h3 hr.right h1).1
theorem chain_test {o1 o2 : Cp} {a b c : Ex} {env : Env} {st : Store} : ((evE (.chain o1 o2 a b c) true env st).bind fun x st => boolOf x st) =
    ((evE a true env st).bind fun x st => (datOf x st).bind fun x st => (evE b true env st).bind fun y st => (datOf y st).bind fun y st => (rOpt (cmpD o1 x y) st).bind fun k st => bif k then (evE c true env st).bind fun z st => (datOf z st).bind fun z st => rOpt (cmpD o2 y z) st else .ok false st) := by
  simp only [evE]
  cases evE a true env st <;> try rfl
  rename_i x s1
  show ((datOf x s1).bind _).bind _ = (datOf x s1).bind _
  cases datOf x s1 <;> try rfl
  rename_i x s1
  show ((evE b true env s1).bind _).bind _ = (evE b true env s1).bind _
  cases evE b true env s1 <;> try rfl
  rename_i y s1
  show ((datOf y s1).bind _).bind _ = (datOf y s1).bind _
  cases datOf y s1 <;> try rfl
  rename_i y s1
  show ((rOpt (cmpD o1 x y) s1).bind _).bind _ = (rOpt (cmpD o1 x y) s1).bind _
  cases rOpt (cmpD o1 x y) s1 <;> try rfl
  rename_i k s1
  cases k with
  | false => rfl
  | true =>
    show ((evE c true env s1).bind _).bind _ = (evE c true env s1).bind _
    cases evE c true env s1 <;> try rfl
    rename_i z s1
    show ((datOf z s1).bind _).bind _ = (datOf z s1).bind _
    cases datOf z s1 <;> try rfl
    rename_i z s1
    show (ofB (cmpD o2 y z) s1).bind _ = rOpt (cmpD o2 y z) s1
    cases cmpD o2 y z <;> rfl
theorem simT_chain {o1 o2 : Cp} {a b k : Ex} (ha : SimE a) (hb : SimE b) (hk : SimE k) : SimT (.chain o1 o2 a b k) := by
  intro X W N sc lv g H σ env st e Q at_ hm hr h
  cases e <;> try exact no_false hm
  rename_i a' os bs pos
  refine ⟨?_, notBool fun _ _ _ q => by cases q⟩
  rcases os with _ | ⟨p1, _ | ⟨p2, _ | ⟨_, _⟩⟩⟩ <;> try exact no_false hm
  rcases bs with _ | ⟨b', _ | ⟨c', _ | ⟨_, _⟩⟩⟩ <;> try exact no_false hm
  obtain ⟨hm, h6⟩ := cond_true hm
  obtain ⟨hm, h5⟩ := cond_true hm
  obtain ⟨hm, h4⟩ := cond_true hm
  obtain ⟨hm, h3⟩ := cond_true hm
  obtain ⟨h1, h2⟩ := cond_true hm
  have h1 : cpS o1 = p1 := of_decide_eq_true h1
  have h2 : cpS o2 = p2 := of_decide_eq_true h2
  subst h1 h2
  have hb4 : lastMarks [cpS o1, cpS o2] [b', c'] = false := by
    show behindInMarks (cpS o2) c' = false
    cases c' <;> first | rfl | exact no_false h6
  have hu := room_u at_.c.room
  rw [chain_test] at h
  refine WT.of (pt_chain op_wo op_wo pe_we pe_we pe_we hb4) (ha a' true _ at_ h3 hr.left.left (h.bind based_eq fun x st1 g1 v H1 s1 o1 r1 h1 => ?_))
  obtain ⟨d, ed, h1⟩ := h1.dat
  refine hb b' true _ (at_.on s1 o1) h4 hr.left.right (h1.bind based_eq fun y st2 g2 v2 H2 s2 o2 r2 h2 => ?_)
  obtain ⟨d2, ed2, h2⟩ := h2.dat
  obtain ⟨b, eb, h2⟩ := h2.opt
  refine cmp_ok ((r1.rt ed).step s2 o1) (r2.rt ed2) rfl (by omega) o2 eb ⟨b, rfl, ?_⟩
  cases b with
  | false => exact ⟨false, rfl, h2 g2 _ H2 .refl o2 rfl⟩
  | true =>
    rw [if_pos rfl]
    refine hk c' true _ ((at_.on s1 o1).on s2 o2) h5 hr.right (Post.bind based_eq h2 fun z st3 g3 v3 H3 s3 o3 r3 h3 => ?_)
    obtain ⟨d3, ed3, h3⟩ := h3.dat
    obtain ⟨b, eb, h3⟩ := h3.opt'
    exact cmp_ok ((r2.rt ed2).step s3 o2) (r3.rt ed3) rfl (by omega) o3 eb ⟨b, rfl, h3 g3 _ H3 .refl o3 rfl⟩
end MP
/-! Targets, what is walked, comprehensions. -/
namespace MP
open PySem PyProof.Rows L2 PySem.Spec
theorem no_some {α : Type} {p : Prop} {x : α} (h : none = some x) : p := by cases h
/-! ### states that change -/
section
variable {K : PySem.W.Frag} {g g1 g2 : G} {H H1 H2 : Hp} {st st1 : Store} {a : Addr} {v : V} {d : D}
theorem Step.upd_new {u : HO} (s : Step g H g1 H1) (h : H a = none) : Step g H g1 (upd H1 a u) :=
  ⟨s.z, s.zn, s.r, fun b o e n => by rw [upd_ne (ne_of_none e h)]; exact s.keep b o e n, fun b e => by
    by_cases hb : b = a
    · exact hb ▸ h
    · rw [upd_ne hb] at e
      exact s.gone b e⟩
/-- an object of ours is changed -/
theorem holds_own {u : HO} {vs : List V} (ha : H a = some (.lst vs)) (nz : ¬ g.Z a) : Holds g.Z g.Z H (upd H a u) := by
  have ne : ∀ b w, Rd H b w → (b = a → w = .lst vs) := fun b w r e => by
    subst e
    rcases r with r | ⟨o, r⟩ <;> rw [ha] at r <;> cases r
    rfl
  have go : ∀ b w, b ≠ a → Rd H b w → Rd (upd H a u) b w := fun b w n r => by
    rcases r with r | ⟨o, r⟩
    · exact .inl (by rw [upd_ne n]; exact r)
    · exact .inr ⟨o, by rw [upd_ne n]; exact r⟩
  exact ⟨fun b xs r => go b _ (fun e => by cases ne b _ r e) r, fun _ h => h, fun b w z r => go b w (fun e => nz (e ▸ z)) r⟩
theorem holds_ownD {u : HO} {vs : List (Key × V)} (ha : H a = some (.dK vs)) (nz : ¬ g.Z a) : Holds g.Z g.Z H (upd H a u) := by
  have ne : ∀ b w, Rd H b w → (b = a → w = .dK vs) := fun b w r e => by
    subst e
    rcases r with r | ⟨o, r⟩ <;> rw [ha] at r <;> cases r
    rfl
  have go : ∀ b w, b ≠ a → Rd H b w → Rd (upd H a u) b w := fun b w n r => by
    rcases r with r | ⟨o, r⟩
    · exact .inl (by rw [upd_ne n]; exact r)
    · exact .inr ⟨o, by rw [upd_ne n]; exact r⟩
  exact ⟨fun b xs r => go b _ (fun e => by cases ne b _ r e) r, fun _ h => h, fun b w z r => go b w (fun e => nz (e ▸ z)) r⟩
theorem RVal.holds {x : Val} (h : Holds g.Z g.Z H H1) (r : RVal K g H v x) : RVal K g H1 v x := by
  cases x with
  | dat d => exact RD.holds h r
  | loc n => exact r
theorem RKV.holds (h : Holds g.Z g.Z H H1) : ∀ {vs : List (Key × V)} {xs : List (Str × Val)}, RKV K g H vs xs → RKV K g H1 vs xs
  | _, _, .nil => .nil
  | _, _, .cons r t => .cons (r.holds h) (RKV.holds h t)
theorem Ok.own {u : HO} {vs : List V} (o : Ok K g H st) (ha : H a = Option.some (HO.lst vs)) (nz : ¬ g.Z a) (nr : a ∉ g.rho) : Ok K g (upd H a u) st := by
  have hh := holds_own (u := u) ha nz
  refine ⟨o.zr, fun b z e => ?_, o.len, o.nd, fun n b c e1 e2 => ?_⟩
  · by_cases hb : b = a
    · exact nz (hb ▸ z)
    · rw [upd_ne hb] at e
      exact o.zs b z e
  · have q := o.cell n b c e1 e2
    have nb : b ≠ a := fun e => nr (e ▸ List.mem_of_getElem? e1)
    cases c with
    | lst xs =>
      obtain ⟨vs, e, r⟩ := q
      exact ⟨vs, by rw [upd_ne nb]; exact e, RDs.holds hh r⟩
    | dic kvs =>
      obtain ⟨kv, e, r⟩ := q
      exact ⟨kv, by rw [upd_ne nb]; exact e, r.holds hh⟩
theorem Ok.ownD {u : HO} {vs : List (Key × V)} (o : Ok K g H st) (ha : H a = Option.some (HO.dK vs)) (nz : ¬ g.Z a) (nr : a ∉ g.rho) : Ok K g (upd H a u) st := by
  have hh := holds_ownD (u := u) ha nz
  refine ⟨o.zr, fun b z e => ?_, o.len, o.nd, fun n b c e1 e2 => ?_⟩
  · by_cases hb : b = a
    · exact nz (hb ▸ z)
    · rw [upd_ne hb] at e
      exact o.zs b z e
  · have q := o.cell n b c e1 e2
    have nb : b ≠ a := fun e => nr (e ▸ List.mem_of_getElem? e1)
    cases c with
    | lst xs =>
      obtain ⟨vs, e, r⟩ := q
      exact ⟨vs, by rw [upd_ne nb]; exact e, RDs.holds hh r⟩
    | dic kvs =>
      obtain ⟨kv, e, r⟩ := q
      exact ⟨kv, by rw [upd_ne nb]; exact e, r.holds hh⟩
theorem Ok.zne (o : Ok K g H st) (h : H a = none) : ¬ g.Z a := fun z => o.zs a z h
/-! ### slots -/
theorem EnvOk.setVal {σ : L2.St} {env : Env} {x : Val} (i : Nat) (en : EnvOk K g H σ env) (r : RVal K g H v x) : EnvOk K g H (σ.set i (some v)) (List.set env i (.val x)) := by
  refine ⟨by rw [List.length_set, List.length_set]; exact en.len, fun j s y e1 e2 => ?_, fun j k d d' a e1 e2 e3 e4 => ?_⟩
  · by_cases hj : i = j
    · subst hj
      have hi : i < env.length := by
        have q := (List.getElem?_eq_some_iff.mp e1).1
        rwa [List.length_set] at q
      rw [List.getElem?_set_self hi] at e1
      rw [List.getElem?_set_self (by rw [← en.len]; exact hi)] at e2
      cases e1
      cases e2
      exact ⟨v, rfl, r⟩
    · rw [List.getElem?_set_ne hj] at e1 e2
      exact en.at_ j s y e1 e2
  · have other : ∀ {l : Nat} {d : D}, (List.set env i (.val x))[l]? = some (.own d) → env[l]? = some (.own d) ∧ i ≠ l := fun {l d} e => by
      by_cases hl : i = l
      · subst hl
        rw [List.getElem?_set] at e
        split at e
        · split at e <;> cases e
        · rename_i h
          exact absurd rfl h
      · rw [List.getElem?_set_ne hl] at e
        exact ⟨e, hl⟩
    obtain ⟨f1, n1⟩ := other e1
    obtain ⟨f2, n2⟩ := other e2
    rw [List.getElem?_set_ne n1] at e3
    rw [List.getElem?_set_ne n2] at e4
    exact en.apart j k d d' a f1 f2 e3 e4
theorem EnvOk.setUn {σ : L2.St} {env : Env} {x : Option V} (i : Nat) (en : EnvOk K g H σ env) : EnvOk K g H (σ.set i x) (List.set env i .un) := by
  refine ⟨by rw [List.length_set, List.length_set]; exact en.len, fun j s y e1 e2 => ?_, fun j k d d' a e1 e2 e3 e4 => ?_⟩
  · by_cases hj : i = j
    · subst hj
      rw [List.getElem?_set] at e1
      split at e1
      · split at e1 <;> cases e1
        trivial
      · rename_i h
        exact absurd rfl h
    · rw [List.getElem?_set_ne hj] at e1 e2
      exact en.at_ j s y e1 e2
  · have other : ∀ {l : Nat} {d : D}, (List.set env i .un)[l]? = some (.own d) → env[l]? = some (.own d) ∧ i ≠ l := fun {l d} e => by
      by_cases hl : i = l
      · subst hl
        rw [List.getElem?_set] at e
        split at e
        · split at e <;> cases e
        · rename_i h
          exact absurd rfl h
      · rw [List.getElem?_set_ne hl] at e
        exact ⟨e, hl⟩
    obtain ⟨f1, n1⟩ := other e1
    obtain ⟨f2, n2⟩ := other e2
    rw [List.getElem?_set_ne n1] at e3
    rw [List.getElem?_set_ne n2] at e4
    exact en.apart j k d d' a f1 f2 e3 e4
theorem EnvOk.wipe {σ : L2.St} {env : Env} (en : EnvOk K g H σ env) : ∀ vs : List Nat, EnvOk K g H (L2.wipe σ vs) (wipeE env vs)
  | [] => en
  | v :: vs => (EnvOk.wipe en vs).setUn v
theorem set_none_comm {σ : L2.St} {i j : Nat} : (σ.set i none).set j none = (σ.set j none).set i none := by
  by_cases h : i = j
  · rw [h]
  · exact List.set_comm _ _ h
theorem wipe_set_none {σ : L2.St} {i : Nat} : ∀ vs : List Nat, (L2.wipe σ vs).set i none = L2.wipe (σ.set i none) vs
  | [] => rfl
  | v :: vs => by
    show ((L2.wipe σ vs).set v none).set i none = (L2.wipe (σ.set i none) vs).set v none
    rw [set_none_comm, wipe_set_none vs]
theorem wipe_set {σ : L2.St} {i : Nat} {x : Option V} : ∀ {vs : List Nat}, i ∈ vs → L2.wipe (σ.set i x) vs = L2.wipe σ vs
  | v :: vs, h => by
    show (L2.wipe (σ.set i x) vs).set v none = (L2.wipe σ vs).set v none
    by_cases hv : i = v
    · subst hv
      rw [wipe_set_none, wipe_set_none, List.set_set]
    · rw [wipe_set (vs := vs) (by
        rcases List.mem_cons.mp h with z | z
        · exact (hv z).elim
        · exact z)]
end
/-! ### targets -/
def WG (X : Cx) (e : Expr) : TG := fun v σ H Q => ∀ (pins : List (Addr × Obj)) (s : Shared) (u : Value), Inv X pins σ H s → RelV v u → wpAny (model X.prog X.w) X.A (assign e X.env u) (fun _ s' => ∃ σ' H', Inv X pins σ' H' s' ∧ Q σ' H') X.xe s
def WGs (X : Cx) (es : List Expr) : L2.TGs := fun vs σ H Q => ∀ (pins : List (Addr × Obj)) (s : Shared) (us : List Value), Inv X pins σ H s → Vals vs us → wpAny (model X.prog X.w) X.A (assignInOrder ((assignEach es X.env).map (·.2)) us) (fun _ s' => ∃ σ' H', Inv X pins σ' H' s' ∧ Q σ' H') X.xe s
theorem pg_wg {X : Cx} {e : Expr} : PG X e (WG X e) := ⟨fun pins s σ H v u Q I r h => h pins s u I r⟩
theorem pgs_wgs {X : Cx} {es : List Expr} : PGs X es (WGs X es) := ⟨fun pins s σ H v u Q I r h => h pins s u I r⟩
theorem WG.of {X : Cx} {e : Expr} {t : TG} {v : V} {σ : L2.St} {H : Hp} {Q : L2.St → Hp → Prop} (h : PG X e t) (q : t v σ H Q) : WG X e v σ H Q := fun pins s u I r => h.run pins s σ H v u Q I r q
theorem WGs.of {X : Cx} {es : List Expr} {t : L2.TGs} {v : List V} {σ : L2.St} {H : Hp} {Q : L2.St → Hp → Prop} (h : PGs X es t) (q : t v σ H Q) : WGs X es v σ H Q := fun pins s u I r => h.run pins s σ H v u Q I r q
theorem mTgs_each {N : List Str} {sc : Scope} {env : PySem.Env} : ∀ {ts : Tgs} {es : List Expr}, mTgs N ts sc es = true → assignEach es env = es.map fun e => (false, assign e env)
  | .nil, es, h => by
    cases es <;> first | rfl | exact no_false h
  | .cons t ts, es, h => by
    cases es with
    | nil => rfl
    | cons e r =>
      obtain ⟨h1, h2⟩ := cond_true (show (mTg N t sc e && mTgs N ts sc r) = true from h)
      have ih := mTgs_each (env := env) h2
      have hd : assignEach (e :: r) env = (false, assign e env) :: assignEach r env := by
        cases t <;> cases e <;> first | rfl | exact no_false h1
      rw [hd, ih]
      rfl
theorem each_find {env : PySem.Env} : ∀ es : List Expr, List.findIdx? (fun x => x.1) (es.map fun e => (false, assign e env)) = none
  | [] => rfl
  | e :: es => by
    rw [List.map_cons, List.findIdx?_cons, each_find es]
    rfl
section
variable {X : Cx} {W : WX} {N : List Str} {sc : Scope} {lv : Nat} {g : G} {H : Hp} {st : Store}
/-- what a target's store leaves: the slots, up to those that it stores -/
def Stored (K : PySem.W.Frag) (g : G) (H : Hp) (env' : Env) (P : L2.St → Prop) (Q : L2.St → Hp → Prop) : Prop := ∀ σ', EnvOk K g H σ' env' → P σ' → Q σ' H
mutual
theorem tg_ok (c : CtxOk X W N sc lv) (vs0 : List Nat) : ∀ (t : Tg) {e : Expr} {v : V} {d : D} {σ : L2.St} {env env' : Env} {Q : L2.St → Hp → Prop}, mTg N t sc e = true → EnvOk X.K g H σ env → RD X.K g.Z H v d → bindTg t d env = some env' →
    Stored X.K g H env' (fun σ' => tgIn t vs0 = true → L2.wipe σ' vs0 = L2.wipe σ vs0) Q → WG X e v σ H Q
  | .nm i, e, v, d, σ, env, env', Q, hm, en, r, hb, q => by
    cases e <;> try exact no_false hm
    rename_i x pos
    obtain ⟨hm, h3⟩ := cond_true (show (decide (N[i]? = some x) && isLoc sc x && okName x) = true from hm)
    obtain ⟨h1, h2⟩ := cond_true hm
    have h1 : N[i]? = some x := of_decide_eq_true h1
    have hl := c.loc h2
    refine WG.of (pg_name (i := i) (by rw [c.eN]; exact c.nd) (by rw [c.eN]; exact h1) hl.1 hl.2) ?_
    have hb : some (List.set env i (.val (.dat d))) = some env' := hb
    cases hb
    refine q _ (en.setVal (x := .dat d) i r) fun hi => wipe_set ?_
    exact List.contains_iff_mem.mp (show vs0.contains i = true from hi)
  | .tup ts, e, v, d, σ, env, env', Q, hm, en, r, hb, q => by
    cases e <;> try exact no_false hm
    rename_i es k pos
    have hm : mTgs N ts sc es = true := hm
    have he := mTgs_each (env := X.env) hm
    have hlen : (assignEach es X.env).length = es.length := by rw [he, List.length_map]
    have hfi : List.findIdx? (fun x => x.1) (assignEach es X.env) = none := by rw [he]; exact each_find es
    have hn : ∀ {ds : List D}, bindTgs ts ds env = some env' → ds.length = es.length := fun {ds} h => tgs_len ts hm h
    cases d <;> try exact no_some hb
    · cases r with
      | list s w =>
        refine WG.of (pg_lst c.calm pgs_wgs hlen hfi) ⟨_, _, rfl, s.seq, by rw [w.length]; exact hn hb, ?_⟩
        exact tgs_ok c vs0 ts hm en w hb q
    · cases r with
      | tuple s w =>
        refine WG.of (pg_tup c.calm pgs_wgs hlen hfi) ⟨_, _, rfl, s, by rw [w.length]; exact hn hb, ?_⟩
        exact tgs_ok c vs0 ts hm en w hb q
theorem tgs_ok (c : CtxOk X W N sc lv) (vs0 : List Nat) : ∀ (t : Tgs) {es : List Expr} {v : List V} {d : List D} {σ : L2.St} {env env' : Env} {Q : L2.St → Hp → Prop}, mTgs N t sc es = true → EnvOk X.K g H σ env → RDs X.K g.Z H v d → bindTgs t d env = some env' →
    Stored X.K g H env' (fun σ' => tgsIn t vs0 = true → L2.wipe σ' vs0 = L2.wipe σ vs0) Q → WGs X es v σ H Q
  | .nil, es, v, d, σ, env, env', Q, hm, en, r, hb, q => by
    cases es <;> try exact no_false hm
    cases d <;> try exact no_some hb
    cases r
    have hb : some env = some env' := hb
    cases hb
    exact WGs.of pgs_nil ⟨rfl, q σ en fun _ => rfl⟩
  | .cons t ts, es, v, d, σ, env, env', Q, hm, en, r, hb, q => by
    cases es <;> try exact no_false hm
    rename_i e es
    obtain ⟨h1, h2⟩ := cond_true (show (mTg N t sc e && mTgs N ts sc es) = true from hm)
    cases d <;> try exact no_some hb
    rename_i d ds
    cases r with
    | cons r1 r2 =>
      have hb : (match bindTg t d env with | some env' => bindTgs ts ds env' | none => none) = some env' := hb
      cases hb1 : bindTg t d env with
      | none =>
        rw [hb1] at hb
        exact no_some hb
      | some env1 =>
        rw [hb1] at hb
        have hd : assignEach (e :: es) X.env = (false, assign e X.env) :: assignEach es X.env := by
          cases t <;> cases e <;> first | rfl | exact no_false h1
        refine WGs.of (pgs_cons pg_wg pgs_wgs (by rw [hd]; rfl)) ⟨_, _, rfl, tg_ok c vs0 t h1 en r1 hb1 fun σ1 en1 w1 => ?_⟩
        refine tgs_ok c vs0 ts h2 en1 r2 hb fun σ2 en2 w2 => ?_
        refine q σ2 en2 fun hi => ?_
        obtain ⟨i1, i2⟩ := cond_true (show (tgIn t vs0 && tgsIn ts vs0) = true from hi)
        exact (w2 i2).trans (w1 i1)
theorem tgs_len : ∀ (t : Tgs) {es : List Expr} {d : List D} {env env' : Env}, mTgs N t sc es = true → bindTgs t d env = some env' → d.length = es.length
  | .nil, es, d, env, env', hm, hb => by
    cases es <;> try exact no_false hm
    cases d <;> try exact no_some hb
    rfl
  | .cons t ts, es, d, env, env', hm, hb => by
    cases es <;> try exact no_false hm
    rename_i e es
    obtain ⟨h1, h2⟩ := cond_true (show (mTg N t sc e && mTgs N ts sc es) = true from hm)
    cases d <;> try exact no_some hb
    rename_i d ds
    have hb : (match bindTg t d env with | some env' => bindTgs ts ds env' | none => none) = some env' := hb
    cases hb1 : bindTg t d env with
    | none =>
      rw [hb1] at hb
      exact nomatch hb
    | some env1 =>
      rw [hb1] at hb
      exact congrArg Nat.succ (tgs_len ts h2 hb)
end
end
end MP
/-! What is walked; comprehensions. -/
namespace MP
open PySem PyProof.Rows L2 PySem.Spec RZ
/-- an iterator of the layer brings some items, one by one -/
structure Pres (K : PySem.W.Frag) (g : G) (H : Hp) (J : L2.It) (items : List D) : Prop where
  go : ∀ (g' : G) (H' : Hp) (i : Nat), Holds g.Z g'.Z H H' → i < items.length → J.go i H'
  yld : ∀ (g' : G) (H' : Hp) (st' : Store) (i : Nat) (x : V) (H'' : Hp), Holds g.Z g'.Z H H' → Ok K g' H' st' → J.yld i H' x H'' → i < items.length → ∃ d, items[i]? = some d ∧ Step g' H' g' H'' ∧ Ok K g' H'' st' ∧ RD K g'.Z H'' x d
  stop : ∀ (g' : G) (H' : Hp), Holds g.Z g'.Z H H' → J.stop items.length H'
abbrev relI (K : PySem.W.Frag) : Hp → G → Hp → L2.It → List D → Prop := fun _ g H J items => Pres K g H J items
theorem based_i {K : PySem.W.Frag} : Based (relI K) := fun _ _ _ _ _ _ _ r => r
theorem Holds.refl {Z : Addr → Prop} {H : Hp} : Holds Z Z H H := ⟨fun _ _ h => h, fun _ h => h, fun _ _ _ h => h⟩
theorem Holds.trans {Z Z1 Z2 : Addr → Prop} {H H1 H2 : Hp} (a : Holds Z Z1 H H1) (b : Holds Z1 Z2 H1 H2) : Holds Z Z2 H H2 :=
  ⟨fun c xs h => b.tup c xs (a.tup c xs h), fun c h => b.z c (a.z c h), fun c u z h => b.obj c u (a.z c z) (a.obj c u z h)⟩
theorem SqZ.holds {K : PySem.W.Frag} {Z Z' : Addr → Prop} {H H' : Hp} {a : Addr} {vs : List V} (h : Holds Z Z' H H') (s : SqZ K Z H a vs) : SqZ K Z' H' a vs := s.imp (fun ⟨z, q⟩ => ⟨h.z _ z, h.obj _ _ z q⟩) id
theorem pres_list {K : PySem.W.Frag} {g : G} {H : Hp} {a : Addr} {vs : List V} {ds : List D} (s : SqZ K g.Z H a vs) (r : RDs K g.Z H vs ds) : Pres K g H (Itl K a) ds where
  go := fun g' H' i h hi => by
    obtain ⟨v, hv, _⟩ := r.get (List.getElem?_eq_getElem hi)
    exact ⟨vs, v, (s.holds h).seq, hv⟩
  yld := fun g' H' st' i x H'' h ok q hi => by
    obtain ⟨e, f⟩ := q
    subst e
    have hv := f vs (s.holds h).seq
    obtain ⟨d, hd, rd⟩ := r.getV hv
    exact ⟨d, hd, .refl, ok, RD.holds h rd⟩
  stop := fun g' H' h => ⟨vs, (s.holds h).seq, Nat.le_of_eq r.length⟩
theorem holds_seqT {K : PySem.W.Frag} {Z Z' : Addr → Prop} {H H' : Hp} {a : Addr} {vs : List V} (h : Holds Z Z' H H') (s : SqT K H a vs) : SqT K H' a vs := s.elim (fun q => .inl (h.tup _ _ q)) .inr
theorem pres_tuple {K : PySem.W.Frag} {g : G} {H : Hp} {a : Addr} {vs : List V} {ds : List D} (s : SqT K H a vs) (r : RDs K g.Z H vs ds) : Pres K g H (Itt K a) ds where
  go := fun g' H' i h hi => by
    obtain ⟨v, hv, _⟩ := r.get (List.getElem?_eq_getElem hi)
    exact ⟨vs, v, holds_seqT h s, hv⟩
  yld := fun g' H' st' i x H'' h ok q hi => by
    obtain ⟨e, f⟩ := q
    subst e
    have hv := f vs (holds_seqT h s)
    obtain ⟨d, hd, rd⟩ := r.getV hv
    exact ⟨d, hd, .refl, ok, RD.holds h rd⟩
  stop := fun g' H' h => ⟨vs, holds_seqT h s, Nat.le_of_eq r.length⟩
theorem pres_range {K : PySem.W.Frag} {g : G} {H : Hp} {i j : Int} : Pres K g H (Itr i (j - i).toNat) (rangeUp i j) where
  go := fun g' H' k h hk => by
    unfold rangeUp at hk
    simp only [List.length_map, List.length_range] at hk
    exact hk
  yld := fun g' H' st' k x H'' h ok q hk => by
    obtain ⟨e, f⟩ := q
    subst e
    unfold rangeUp at hk ⊢
    simp only [List.length_map, List.length_range] at hk
    refine ⟨.int (i + k), ?_, .refl, ok, ?_⟩
    · rw [List.getElem?_map, List.getElem?_range hk]
      rfl
    · rw [f]
      exact .int _
  stop := fun g' H' h => by
    unfold rangeUp
    simp only [List.length_map, List.length_range]
    exact Nat.le_refl _
def SimI (m : It) : Prop := ∀ {X : Cx} {W : WX} {N : List Str} {sc : Scope} {lv : Nat} {g : G} {H : Hp} {σ : L2.St} {env : Env} {st : Store} (tg e : Expr) (R : L2.It → Hp → Prop), At X W N sc lv g H σ env st → mI N m sc tg e = true → Rqs X lv (rqI m) →
  Post X.K X.mg (WS_ W σ) (relI X.K) g H (evI m env st) R → WI X tg e σ H R
def SimC (m : Opt) : Prop := ∀ {X : Cx} {W : WX} {N : List Str} {sc : Scope} {lv : Nat} {g : G} {H : Hp} {σ : L2.St} {env : Env} {st : Store} (e : Expr) (Q : Bool → Hp → Prop), At X W N sc lv g H σ env st → mC N m sc [e] = true → Rqs X lv (rqO m) →
  Post X.K X.mg (WS_ W σ) relEq g H (evC m env st) Q → WT X e σ H Q
theorem simC_non : SimC .non := by
  intro X W N sc lv g H σ env st e Q at_ hm hr h
  exact no_false hm
theorem simC_som {e : Ex} (he : SimT e) : SimC (.som e) := by
  intro X W N sc lv g H σ env st e' Q at_ hm hr h
  exact (he e' Q at_ hm hr h).1
theorem simI_seq {e : Ex} (he : SimE e) : SimI (.seq e) := by
  intro X W N sc lv g H σ env st tg e' R at_ hm hr h
  have hm : mE N e sc e' = true := hm
  have h : Post X.K X.mg (WS_ W σ) (relI X.K) g H ((evE e false env st).bind fun x st => (datOf x st).bind fun d st => rOpt (seqOf d) st) R := h
  cases ea : evE e false env st with
  | no =>
    rw [ea] at h
    exact h.elim
  | exc c ds st1 =>
    rw [ea] at h
    refine WI.of (pi_list pe_we) (he e' false _ at_ hm hr ?_)
    rw [ea]
    exact h
  | ok x st1 =>
    rw [ea] at h
    obtain ⟨d, ed, h⟩ := Post.dat (x := x) (st := st1) h
    obtain ⟨ds, es, h⟩ := h.opt'
    cases d <;> simp only [seqOf] at es <;> cases es
    · refine WI.of (pi_list pe_we) (he e' false _ at_ hm hr ?_)
      rw [ea]
      intro g1 v H1 s1 o1 r1
      obtain ⟨g2, s2, o2, r2, _⟩ := r1.frozen s1 o1 ed
      cases r2 with
      | list s r => exact ⟨_, rfl, ⟨_, s.seq⟩, h g2 _ H1 s2 o2 (pres_list s r)⟩
    · refine WI.of (pi_tup pe_we) (he e' false _ at_ hm hr ?_)
      rw [ea]
      intro g1 v H1 s1 o1 r1
      obtain ⟨g2, s2, o2, r2, _⟩ := r1.frozen s1 o1 ed
      cases r2 with
      | tuple s r => exact ⟨_, rfl, ⟨_, s⟩, h g2 _ H1 s2 o2 (pres_tuple s r)⟩
theorem simI_rng1 {a : Ex} (ha : SimE a) : SimI (.rng1 a) := by
  intro X W N sc lv g H σ env st tg e R at_ hm hr h
  cases e <;> try exact no_false hm
  rename_i f args kws pos
  cases f <;> cases kws <;> try exact no_false hm
  rename_i y p
  rcases args with _ | ⟨a', _ | ⟨_, _⟩⟩ <;> try exact no_false hm
  obtain ⟨hm, h4⟩ := cond_true hm
  obtain ⟨hm, h3⟩ := cond_true hm
  obtain ⟨h1, h2⟩ := cond_true hm
  have h1 : y = "range" := of_decide_eq_true h1
  subst h1
  refine WI.of (pi_range1 (at_.c.gl h2) hr.head (pa_cons pe_we pa_nil (starEach_cons h3)) (starEach_cons h3)) (ha a' true _ at_ h4 hr.tail (Post.bind based_i h fun x st1 g1 v H1 s1 o1 r1 h1 => ?_))
  obtain ⟨i, ei, h1⟩ := h1.int
  have e2 := (r1.rt ei).int
  subst e2
  obtain ⟨hb, h1⟩ := h1.cond
  simp only [rngOk, Bool.and_eq_true, decide_eq_true_eq] at hb
  refine ⟨i, rfl, hb.1, hb.2, ?_⟩
  have q := h1 g1 (Itr 0 (i - 0).toNat) H1 .refl o1 pres_range
  rw [Int.sub_zero] at q
  exact q
theorem simI_rng2 {a b : Ex} (ha : SimE a) (hb : SimE b) : SimI (.rng2 a b) := by
  intro X W N sc lv g H σ env st tg e R at_ hm hr h
  cases e <;> try exact no_false hm
  rename_i f args kws pos
  cases f <;> cases kws <;> try exact no_false hm
  rename_i y p
  rcases args with _ | ⟨a', _ | ⟨b', _ | ⟨_, _⟩⟩⟩ <;> try exact no_false hm
  obtain ⟨hm, h6⟩ := cond_true hm
  obtain ⟨hm, h5⟩ := cond_true hm
  obtain ⟨hm, h4⟩ := cond_true hm
  obtain ⟨hm, h3⟩ := cond_true hm
  obtain ⟨h1, h2⟩ := cond_true hm
  have h1 : y = "range" := of_decide_eq_true h1
  subst h1
  refine WI.of (pi_range2 (at_.c.gl h2) hr.head (pa_cons pe_we (pa_cons pe_we pa_nil (starEach_cons h4)) (starEach_cons h3)) (by rw [starEach_cons h3, starEach_cons h4]; rfl) (starEach_cons h4))
    (ha a' true _ at_ h5 hr.tail.left (Post.bind based_i h fun x st1 g1 v H1 s1 o1 r1 h1 => ?_))
  obtain ⟨i, ei, h1⟩ := h1.int
  have e2 := (r1.rt ei).int
  subst e2
  refine hb b' true _ (at_.on s1 o1) h6 hr.tail.right (Post.bind based_i h1 fun y st2 g2 v2 H2 s2 o2 r2 h2 => ?_)
  obtain ⟨j, ej, h2⟩ := h2.int
  have e3 := (r2.rt ej).int
  subst e3
  obtain ⟨hb, h2⟩ := h2.cond
  simp only [rngOk, Bool.and_eq_true, decide_eq_true_eq] at hb
  exact ⟨i, j, rfl, ⟨hb.1.1, hb.1.2, hb.2.1, hb.2.2⟩, h2 g2 _ H2 .refl o2 pres_range⟩
theorem pres_down {K : PySem.W.Frag} {g : G} {H : Hp} {i j : Int} : Pres K g H (Itc i (-1) (i - j).toNat) (rangeDn i j) where
  go := fun g' H' k h hk => by
    unfold rangeDn at hk
    simp only [List.length_map, List.length_range] at hk
    exact hk
  yld := fun g' H' st' k x H'' h ok q hk => by
    obtain ⟨e, f⟩ := q
    subst e
    unfold rangeDn at hk ⊢
    simp only [List.length_map, List.length_range] at hk
    refine ⟨.int (i + k * (-1)), ?_, .refl, ok, ?_⟩
    · rw [List.getElem?_map, List.getElem?_range hk]
      rfl
    · rw [f]
      exact .int _
  stop := fun g' H' h => by
    unfold rangeDn
    simp only [List.length_map, List.length_range]
    exact Nat.le_refl _
theorem enumL_len : ∀ (n : Nat) (xs : List D), (enumL n xs).length = xs.length
  | _, [] => rfl
  | n, x :: xs => congrArg Nat.succ (enumL_len (n + 1) xs)
theorem enumL_get : ∀ (n : Nat) (xs : List D) (i : Nat) (d : D), xs[i]? = some d → (enumL n xs)[i]? = some (.tuple [.int ((n + i : Nat) : Int), d])
  | _, [], _, _, h => by simp at h
  | n, x :: xs, 0, d, h => by
    simp at h
    subst h
    rfl
  | n, x :: xs, i + 1, d, h => by
    have := enumL_get (n + 1) xs i d (by simpa using h)
    rw [show n + (i + 1) = n + 1 + i by omega]
    exact this
theorem zipL_len : ∀ (xs ys : List D), (zipL xs ys).length = min xs.length ys.length
  | [], ys => by simp [zipL]
  | x :: xs, [] => by simp [zipL]
  | x :: xs, y :: ys => by
    show (zipL xs ys).length + 1 = _
    rw [zipL_len xs ys]
    simp only [List.length_cons]
    omega
theorem zipL_get : ∀ (xs ys : List D) (i : Nat) (d e : D), xs[i]? = some d → ys[i]? = some e → (zipL xs ys)[i]? = some (.tuple [d, e])
  | [], _, _, _, _, h, _ => by simp at h
  | _ :: _, [], _, _, _, _, h => by simp at h
  | x :: xs, y :: ys, 0, d, e, h, k => by
    simp at h k
    subst h k
    rfl
  | x :: xs, y :: ys, i + 1, d, e, h, k => zipL_get xs ys i d e (by simpa using h) (by simpa using k)
theorem pres_enum {K : PySem.W.Frag} {g : G} {H : Hp} {a : Addr} {vs : List V} {ds : List D} (s : SqZ K g.Z H a vs) (r : RDs K g.Z H vs ds) : Pres K g H (Ite K a) (enumL 0 ds) where
  go := fun g' H' i h hi => by
    rw [enumL_len] at hi
    obtain ⟨v, hv, _⟩ := r.get (List.getElem?_eq_getElem hi)
    exact ⟨vs, v, (s.holds h).seq, hv⟩
  yld := fun g' H' st' i x H'' h ok q hi => by
    obtain ⟨T, v, rfl, hT, rfl, f⟩ := q
    have hv := f vs (s.holds h).seq
    obtain ⟨d, hd, rd⟩ := r.getV hv
    refine ⟨_, enumL_get 0 ds i d hd, .new hT, ok.new hT, ?_⟩
    rw [Nat.zero_add]
    exact RD.new_tup ok hT (.cons (.int _) (.cons (RD.holds h rd) .nil))
  stop := fun g' H' h => ⟨vs, (s.holds h).seq, Nat.le_of_eq (by rw [enumL_len]; exact r.length)⟩
theorem pres_enumT {K : PySem.W.Frag} {g : G} {H : Hp} {a : Addr} {vs : List V} {ds : List D} (s : SqT K H a vs) (r : RDs K g.Z H vs ds) : Pres K g H (IteT K a) (enumL 0 ds) where
  go := fun g' H' i h hi => by
    rw [enumL_len] at hi
    obtain ⟨v, hv, _⟩ := r.get (List.getElem?_eq_getElem hi)
    exact ⟨vs, v, holds_seqT h s, hv⟩
  yld := fun g' H' st' i x H'' h ok q hi => by
    obtain ⟨T, v, rfl, hT, rfl, f⟩ := q
    have hv := f vs (holds_seqT h s)
    obtain ⟨d, hd, rd⟩ := r.getV hv
    refine ⟨_, enumL_get 0 ds i d hd, .new hT, ok.new hT, ?_⟩
    rw [Nat.zero_add]
    exact RD.new_tup ok hT (.cons (.int _) (.cons (RD.holds h rd) .nil))
  stop := fun g' H' h => ⟨vs, holds_seqT h s, Nat.le_of_eq (by rw [enumL_len]; exact r.length)⟩
theorem pres_zip {K : PySem.W.Frag} {g : G} {H : Hp} {a b : Addr} {vs us : List V} {ds es : List D} (s : SqZ K g.Z H a vs) (r : RDs K g.Z H vs ds) (s2 : SqZ K g.Z H b us) (r2 : RDs K g.Z H us es) : Pres K g H (Itz K a b) (zipL ds es) where
  go := fun g' H' i h hi => by
    rw [zipL_len] at hi
    obtain ⟨v, hv, _⟩ := r.get (List.getElem?_eq_getElem (show i < ds.length by omega))
    obtain ⟨u, hu, _⟩ := r2.get (List.getElem?_eq_getElem (show i < es.length by omega))
    exact ⟨vs, us, v, u, (s.holds h).seq, (s2.holds h).seq, hv, hu⟩
  yld := fun g' H' st' i x H'' h ok q hi => by
    obtain ⟨T, v, u, rfl, hT, rfl, f, f2⟩ := q
    obtain ⟨d, hd, rd⟩ := r.getV (f vs (s.holds h).seq)
    obtain ⟨e, he, re⟩ := r2.getV (f2 us (s2.holds h).seq)
    exact ⟨_, zipL_get ds es i d e hd he, .new hT, ok.new hT, RD.new_tup ok hT (.cons (RD.holds h rd) (.cons (RD.holds h re) .nil))⟩
  stop := fun g' H' h => ⟨vs, us, (s.holds h).seq, (s2.holds h).seq, by
    rw [zipL_len, r.length, r2.length]
    omega⟩
theorem pres_zipT {K : PySem.W.Frag} {g : G} {H : Hp} {a b : Addr} {vs us : List V} {ds es : List D} (s : SqT K H a vs) (r : RDs K g.Z H vs ds) (s2 : SqT K H b us) (r2 : RDs K g.Z H us es) : Pres K g H (ItzT K a b) (zipL ds es) where
  go := fun g' H' i h hi => by
    rw [zipL_len] at hi
    obtain ⟨v, hv, _⟩ := r.get (List.getElem?_eq_getElem (show i < ds.length by omega))
    obtain ⟨u, hu, _⟩ := r2.get (List.getElem?_eq_getElem (show i < es.length by omega))
    exact ⟨vs, us, v, u, holds_seqT h s, holds_seqT h s2, hv, hu⟩
  yld := fun g' H' st' i x H'' h ok q hi => by
    obtain ⟨T, v, u, rfl, hT, rfl, f, f2⟩ := q
    obtain ⟨d, hd, rd⟩ := r.getV (f vs (holds_seqT h s))
    obtain ⟨e, he, re⟩ := r2.getV (f2 us (holds_seqT h s2))
    exact ⟨_, zipL_get ds es i d e hd he, .new hT, ok.new hT, RD.new_tup ok hT (.cons (RD.holds h rd) (.cons (RD.holds h re) .nil))⟩
  stop := fun g' H' h => ⟨vs, us, holds_seqT h s, holds_seqT h s2, by
    rw [zipL_len, r.length, r2.length]
    omega⟩
theorem simI_rng3 {a b c : Ex} (ha : SimE a) (hb : SimE b) (hc : SimE c) : SimI (.rng3 a b c) := by
  intro X W N sc lv g H σ env st tg e R at_ hm hr h
  cases e <;> try exact no_false hm
  rename_i f args kws pos
  cases f <;> cases kws <;> try exact no_false hm
  rename_i y p
  rcases args with _ | ⟨a', _ | ⟨b', _ | ⟨c', _ | ⟨_, _⟩⟩⟩⟩ <;> try exact no_false hm
  obtain ⟨hm, h8⟩ := cond_true hm
  obtain ⟨hm, h7⟩ := cond_true hm
  obtain ⟨hm, h6⟩ := cond_true hm
  obtain ⟨hm, h5⟩ := cond_true hm
  obtain ⟨hm, h4⟩ := cond_true hm
  obtain ⟨hm, h3⟩ := cond_true hm
  obtain ⟨h1, h2⟩ := cond_true hm
  have h1 : y = "range" := of_decide_eq_true h1
  subst h1
  refine WI.of (pi_range3 (at_.c.gl h2) hr.head (pa_cons pe_we (pa_cons pe_we (pa_cons pe_we pa_nil (starEach_cons h5)) (starEach_cons h4)) (starEach_cons h3)) (starEach_cons h3) (by rw [starEach_cons h4, starEach_cons h5]; rfl))
    (ha a' true _ at_ h6 hr.tail.left.left (Post.bind based_i h fun x st1 g1 v H1 s1 o1 r1 h1 => ?_))
  obtain ⟨i, ei, h1⟩ := h1.int
  have e2 := (r1.rt ei).int
  subst e2
  refine hb b' true _ (at_.on s1 o1) h7 hr.tail.left.right (Post.bind based_i h1 fun y st2 g2 v2 H2 s2 o2 r2 h2 => ?_)
  obtain ⟨j, ej, h2⟩ := h2.int
  have e3 := (r2.rt ej).int
  subst e3
  refine hc c' true _ ((at_.on s1 o1).on s2 o2) h8 hr.tail.right (Post.bind based_i h2 fun z st3 g3 v3 H3 s3 o3 r3 h3 => ?_)
  obtain ⟨k, ek, h3⟩ := h3.int
  have e4 := (r3.rt ek).int
  subst e4
  obtain ⟨hb, h9⟩ := h3.cond
  clear h3
  simp only [rngOk, Bool.and_eq_true, decide_eq_true_eq] at hb
  obtain ⟨⟨⟨b1, b2⟩, b3, b4⟩, b5⟩ := hb
  subst b5
  exact ⟨i, j, -1, _, rfl, RgC.neg b1 b2 b3 b4, h9 g3 _ H3 .refl o3 pres_down⟩
theorem simI_enum {a : Ex} (ha : SimE a) : SimI (.enum a) := by
  intro X W N sc lv g H σ env st tg e R at_ hm hr h
  have ht := (cond_true hm).1
  have hm2 := (cond_true hm).2
  clear hm
  have hm := hm2
  clear hm2
  cases tg <;> try exact no_false ht
  cases e <;> try exact no_false hm
  rename_i f args kws pos
  cases f <;> cases kws <;> try exact no_false hm
  rename_i y p
  rcases args with _ | ⟨a', _ | ⟨_, _⟩⟩ <;> try exact no_false hm
  obtain ⟨hm, h4⟩ := cond_true hm
  obtain ⟨hm, h3⟩ := cond_true hm
  obtain ⟨h1, h2⟩ := cond_true hm
  have h1 : y = "enumerate" := of_decide_eq_true h1
  subst h1
  have h : Post X.K X.mg (WS_ W σ) (relI X.K) g H ((evE a false env st).bind fun x st => (datOf x st).bind fun d st => (rOpt (seqOf d) st).bind fun xs st => .ok (enumL 0 xs) st) R := h
  cases ea : evE a false env st with
  | no =>
    rw [ea] at h
    exact h.elim
  | exc c ds st1 =>
    rw [ea] at h
    refine WI.of (pi_enum (at_.c.gl h2) hr.head (pa_cons pe_we pa_nil (starEach_cons h3)) (starEach_cons h3)) (ha a' false _ at_ h4 hr.tail ?_)
    rw [ea]
    exact h
  | ok x st1 =>
    rw [ea] at h
    obtain ⟨d, ed, h⟩ := Post.dat (x := x) (st := st1) h
    obtain ⟨ds, es, h⟩ := h.opt
    cases d <;> simp only [seqOf] at es <;> cases es
    · refine WI.of (pi_enum (at_.c.gl h2) hr.head (pa_cons pe_we pa_nil (starEach_cons h3)) (starEach_cons h3)) (ha a' false _ at_ h4 hr.tail ?_)
      rw [ea]
      intro g1 v H1 s1 o1 r1
      obtain ⟨g2, s2, o2, r2, _⟩ := r1.frozen s1 o1 ed
      cases r2 with
      | list s r => exact ⟨_, _, rfl, s.seq, h g2 _ H1 s2 o2 (pres_enum s r)⟩
    · refine WI.of (pi_enumT (at_.c.gl h2) hr.head (pa_cons pe_we pa_nil (starEach_cons h3)) (starEach_cons h3)) (ha a' false _ at_ h4 hr.tail ?_)
      rw [ea]
      intro g1 v H1 s1 o1 r1
      obtain ⟨g2, s2, o2, r2, _⟩ := r1.frozen s1 o1 ed
      cases r2 with
      | tuple s r => exact ⟨_, _, rfl, s, h g2 _ H1 s2 o2 (pres_enumT s r)⟩
theorem simI_zip {a b : Ex} (ha : SimE a) (hb : SimE b) : SimI (.zip a b) := by
  intro X W N sc lv g H σ env st tg e R at_ hm hr h
  have ht := (cond_true hm).1
  have hm2 := (cond_true hm).2
  clear hm
  have hm := hm2
  clear hm2
  cases tg <;> try exact no_false ht
  cases e <;> try exact no_false hm
  rename_i f args kws pos
  cases f <;> cases kws <;> try exact no_false hm
  rename_i y p
  rcases args with _ | ⟨a', _ | ⟨b', _ | ⟨_, _⟩⟩⟩ <;> try exact no_false hm
  obtain ⟨hm, h6⟩ := cond_true hm
  obtain ⟨hm, h5⟩ := cond_true hm
  obtain ⟨hm, h4⟩ := cond_true hm
  obtain ⟨hm, h3⟩ := cond_true hm
  obtain ⟨h1, h2⟩ := cond_true hm
  have h1 : y = "zip" := of_decide_eq_true h1
  subst h1
  refine WI.of (pi_zipA (at_.c.gl h2) hr.head (pa_cons pe_we (pa_cons pe_we pa_nil (starEach_cons h4)) (starEach_cons h3)) (starEach_cons h3) (by rw [starEach_cons h4]; rfl))
    (ha a' false _ at_ h5 hr.tail.left (Post.bindF based_i h fun x st1 g1 v H1 s1 o1 r1 h1 => ?_))
  obtain ⟨d, ed, _⟩ := Post.dat (h1 g1 H1 s1)
  obtain ⟨g2, s2, o2, r2, _⟩ := r1.frozen s1 o1 ed
  obtain ⟨d', ed', k1⟩ := Post.dat (h1 g2 H1 s2)
  cases ed.symm.trans ed'
  refine hb b' false _ (at_.on s2 o2) h6 hr.tail.right (Post.bindF based_i k1 fun z st3 g3 u H3 s3 o3 r3 h3 => ?_)
  obtain ⟨e, ee, _⟩ := Post.dat (h3 g3 H3 s3)
  obtain ⟨g4, s4, o4, r4, _⟩ := r3.frozen s3 o3 ee
  obtain ⟨e', ee', k3⟩ := Post.dat (h3 g4 H3 s4)
  cases ee.symm.trans ee'
  have r5 := RD.holds (s4.holds o2) r2
  obtain ⟨ds, es, k3⟩ := k3.opt'
  cases d <;> cases e <;> simp only [zipD] at es <;> cases es
  · cases r5 with
    | list sa ra => cases r4 with
      | list sb rb => exact ⟨_, _, _, _, rfl, .inl ⟨sa.seq, sb.seq, k3 g4 _ H3 .refl o4 (pres_zip sa ra sb rb)⟩⟩
  · cases r5 with
    | tuple sa ra => cases r4 with
      | tuple sb rb => exact ⟨_, _, _, _, rfl, .inr ⟨sa, sb, k3 g4 _ H3 .refl o4 (pres_zipT sa ra sb rb)⟩⟩
/-! ### comprehensions -/
theorem wipe_sub {σ : L2.St} {vs : List Nat} : ∀ {us : List Nat}, (∀ u ∈ us, u ∈ vs) → L2.wipe (L2.wipe σ us) vs = L2.wipe σ vs
  | [], _ => rfl
  | u :: us, h => by
    show L2.wipe ((L2.wipe σ us).set u none) vs = _
    rw [wipe_set (h u List.mem_cons_self), wipe_sub fun u hu => h u (List.mem_cons_of_mem _ hu)]
theorem ctx_blk {X : Cx} {W : WX} {N : List Str} {sc scope : Scope} {lv : Nat} (c : CtxOk X W N sc lv) (hk : scope.kind = .function) (s : Shared) (H : Hp) (C : Addr) (cl : List (Str × Addr)) (fp : List Addr) :
    CtxOk (X.blk s H scope (compEnvC scope cl C X.env) fp) (fun _ _ _ _ => False) N scope lv where
  eN := c.eN
  nd := c.nd
  kind := hk
  calm := c.calm
  guards := c.guards
  room := c.room
  takes := fun u s' x => by
    obtain ⟨_, _, _, _, _, _, _, _, _, _, _, _, _, _, _, _, no⟩ := x
    exact no.elim
  passes := fun _ _ h => h.elim
  look := fun x k h => lookup_relabel (env := X.env) h
  fn := fun x h => by
    show (scope.names.lookup x == some .cell) = true
    rw [h]
    rfl
theorem blk_ok {X : Cx} {W : WX} {N : List Str} {sc scope : Scope} {lv : Nat} {own : List (Str × Nat)} (c : CtxOk X W N sc lv) (h : blkC N sc scope own = true) : BlkOk X.N X.env.scope scope own := by
  have b := blkOk_by h
  refine ⟨b.kind, b.uniq, by rw [c.eN]; exact b.ix, fun y hy e => ?_, by rw [c.eN]; exact b.own⟩
  rcases b.free y hy e with q | q
  · rcases c.look _ _ q with r | ⟨r, _⟩
    · exact .inl r
    · cases r
  · rcases c.look _ _ q with r | ⟨_, r⟩
    · exact .inr r
    · exact .inl r
/-- the tests of a clause, at any block -/
def WCs (X : Cx) (ifs : List Expr) : TT := fun σ H Q => match ifs with
  | [] => Q true H
  | e :: _ => WT X e σ H Q
theorem pts_wcs {X : Cx} {N : List Str} {sc : Scope} {m : Opt} {ifs : List Expr} (h : mC N m sc ifs = true) : PTs X ifs (WCs X ifs) := by
  cases m with
  | non =>
    cases ifs with
    | nil => exact pts_nil
    | cons a r => exact no_false h
  | som e =>
    rcases ifs with _ | ⟨a, _ | ⟨_, _⟩⟩ <;> try exact no_false h
    exact pts_one pt_wt
theorem wcs_ok {m : Opt} (hc : SimC m) {X : Cx} {W : WX} {N : List Str} {sc : Scope} {lv : Nat} {g : G} {H : Hp} {σ : L2.St} {env : Env} {st : Store} {ifs : List Expr} {Q : Bool → Hp → Prop} (at_ : At X W N sc lv g H σ env st) (hm : mC N m sc ifs = true) (hr : Rqs X lv (rqO m))
    (h : Post X.K X.mg (WS_ W σ) relEq g H (evC m env st) Q) : WCs X ifs σ H Q := by
  cases m with
  | non =>
    cases ifs with
    | nil => exact h g true H .refl at_.ok rfl
    | cons a r => exact no_false hm
  | som e =>
    rcases ifs with _ | ⟨a, _ | ⟨_, _⟩⟩ <;> try exact no_false hm
    exact hc a Q at_ hm hr h
/-- what one turn of a comprehension reckons -/
def compF (elt : Ex) (own : List (Str × Nat)) (tg : Tg) (ifs : Opt) (env : Env) : D → Store → R (Option D) := fun d st => match bindTg tg d (wipeE env (own.map (·.2))) with
  | none => .no
  | some env' => (evC ifs env' st).bind fun k st => bif k then (evE elt false env' st).bind fun y st => (datOf y st).bind fun y st => .ok (some y) st else .ok none st
theorem Rqs.blk {X : Cx} {lv : Nat} {l : List Req} (h : Rqs X lv l) (s : Shared) (H : Hp) (scope : Scope) (cenv : PySem.Env) (fp : List Addr) : Rqs (X.blk s H scope cenv fp) lv l := h
abbrev gB (X : Cx) (scope : Scope) (tg' : Expr) : TG := fun v σ H Q => ∀ s H0 C cl fp, WG (X.blk s H0 scope (compEnvC scope cl C X.env) fp) tg' v σ H Q
abbrev tB (X : Cx) (scope : Scope) (ifs' : List Expr) : TT := fun σ H Q => ∀ s H0 C cl fp, WCs (X.blk s H0 scope (compEnvC scope cl C X.env) fp) ifs' σ H Q
abbrev eB (X : Cx) (scope : Scope) (elt' : Expr) : TE := fun σ H Q => ∀ s H0 C cl fp, WE (X.blk s H0 scope (compEnvC scope cl C X.env) fp) elt' σ H Q
theorem pg_gB {X : Cx} {scope : Scope} {tg' : Expr} (s : Shared) (H0 : Hp) (C : Addr) (cl : List (Str × Addr)) (fp : List Addr) : PG (X.blk s H0 scope (compEnvC scope cl C X.env) fp) tg' (gB X scope tg') := ⟨fun pins s1 σ H v u Q I r q => q s H0 C cl fp pins s1 u I r⟩
theorem pt_tB {X : Cx} {N : List Str} {sc scope : Scope} {m : Opt} {ifs' : List Expr} (h : mC N m sc ifs' = true) (s : Shared) (H0 : Hp) (C : Addr) (cl : List (Str × Addr)) (fp : List Addr) : PTs (X.blk s H0 scope (compEnvC scope cl C X.env) fp) ifs' (tB X scope ifs') :=
  ⟨fun pins s1 σ H Q I q => (pts_wcs h).run pins s1 σ H Q I (q s H0 C cl fp)⟩
theorem pe_eB {X : Cx} {scope : Scope} {elt' : Expr} (s : Shared) (H0 : Hp) (C : Addr) (cl : List (Str × Addr)) (fp : List Addr) : PE (X.blk s H0 scope (compEnvC scope cl C X.env) fp) elt' (eB X scope elt') := ⟨fun pins s1 σ H Q I q => q s H0 C cl fp pins s1 I⟩
theorem lc_ok {elt : Ex} {own : List (Str × Nat)} {tg : Tg} {it : It} {ifs : Opt} (he : SimE elt) (hi : SimI it) (hc : SimC ifs) {X : Cx} {W : WX} {N : List Str} {sc scope : Scope} {lv : Nat} {g : G} {H : Hp} {σ : L2.St} {env : Env} {st : Store}
    {elt' tg' it' : Expr} {ifs' : List Expr} (pk : Bool) (Q : VK) (at_ : At X W N sc lv g H σ env st) (h2 : blkC N sc scope own = true) (h3 : mTg N tg scope tg' = true) (h5 : mI N it sc tg' it' = true) (h6 : mC N ifs scope ifs' = true) (h7 : mE N elt scope elt' = true)
    (h8 : tgIn tg (own.map (·.2)) = true) (hr : Rqs X lv (rqI it ++ rqO ifs ++ rqE elt))
    (h : Post X.K X.mg (WS_ W σ) (relE X.K pk) g H ((evI it env st).bind fun items st => (compL (compF elt own tg ifs env) items [] st).bind fun ys st => .ok (fresh (.list ys)) st) Q) :
    tLc (WI X tg' it') (gB X scope tg') (tB X scope ifs') (eB X scope elt') (own.map (·.2)) σ H Q := by
  have hk : scope.kind = .function := (blkOk_by h2).kind
  refine hi tg' it' _ at_ h5 hr.left.left (Post.bind based_e h fun items st1 g1 J H1 s1 o1 pres h1 => ?_)
  intro D hD
  have en1 := at_.en.step s1 at_.ok
  refine ⟨fun i m H' => ∃ g' st' acc vs, Step g1 H1 g' H' ∧ Ok X.K g' H' st' ∧ H' D = some (.lst vs) ∧ RDs X.K g'.Z H' vs acc ∧ ¬ g'.Z D ∧ D ∉ g'.rho ∧ i + m = items.length ∧
    Post X.K X.mg (WS_ W σ) (relE X.K pk) g1 H1 ((compL (compF elt own tg ifs env) (items.drop i) acc st').bind fun ys st => .ok (fresh (.list ys)) st) Q, ?_, ?_⟩
  · exact ⟨items.length, g1, st1, [], [], .new hD, o1.new hD, upd_same, .nil, o1.zne hD, o1.notIn hD, Nat.zero_add _, by rw [List.drop_zero]; exact h1⟩
  · rintro i m H' ⟨g', st', acc, vs, s', o', eD, rD, nz, nr, him, hp⟩
    by_cases hlt : i < items.length
    · refine .inr ⟨pres.go g' H' i (s'.holds o1) hlt, fun H2 => ∃ m', m' < m ∧ ∃ g2 st2 acc2 vs2, Step g1 H1 g2 H2 ∧ Ok X.K g2 H2 st2 ∧ H2 D = some (.lst vs2) ∧ RDs X.K g2.Z H2 vs2 acc2 ∧ ¬ g2.Z D ∧ D ∉ g2.rho ∧ (i + 1) + m' = items.length ∧
        Post X.K X.mg (WS_ W σ) (relE X.K pk) g1 H1 ((compL (compF elt own tg ifs env) (items.drop (i + 1)) acc2 st2).bind fun ys st => .ok (fresh (.list ys)) st) Q, fun H2 q => q, fun x H2 hy => ?_⟩
      obtain ⟨d, hd, sy, oy, rx⟩ := pres.yld g' H' st' i x H2 (s'.holds o1) o' hy hlt
      have hdrop : items.drop i = d :: items.drop (i + 1) := by
        have e := List.drop_eq_getElem_cons hlt
        rw [List.getElem?_eq_getElem hlt] at hd
        rw [e, Option.some.inj hd]
      rw [hdrop] at hp
      have s2 := s'.trans sy
      have eD2 : H2 D = some (.lst vs) := sy.keep _ _ eD nr
      have rD2 := RDs.step sy o' rD
      have en2 := (en1.step s2 o1).wipe (own.map (·.2))
      -- the turn
      have hp : Post X.K X.mg (WS_ W σ) (relE X.K pk) g1 H1 ((match compF elt own tg ifs env d st' with
        | .ok (some y) st1 => bif fitsS acc.length then compL (compF elt own tg ifs env) (items.drop (i + 1)) (acc ++ [y]) st1 else .no
        | .ok none st1 => compL (compF elt own tg ifs env) (items.drop (i + 1)) acc st1
        | _ => .no).bind fun ys st => .ok (fresh (.list ys)) st) Q := hp
      cases hb : bindTg tg d (wipeE env (own.map (·.2))) with
      | none =>
        have ef : compF elt own tg ifs env d st' = .no := by
          unfold compF
          rw [hb]
        rw [ef] at hp
        exact hp.elim
      | some env' =>
        have ef : compF elt own tg ifs env d st' = ((evC ifs env' st').bind fun k st => bif k then (evE elt false env' st).bind fun y st => (datOf y st).bind fun y st => .ok (some y) st else .ok none st) := by
          unfold compF
          rw [hb]
        rw [ef] at hp
        intro s H0 C cl fp
        have cb := ctx_blk at_.c hk s H0 C cl fp
        refine tg_ok cb (own.map (·.2)) tg h3 en2 rx hb fun σ2 en2 w2 => ⟨(w2 h8).trans (wipe_sub fun _ h => h), fun s H0 C cl fp => ?_⟩
        have cb := ctx_blk at_.c hk s H0 C cl fp
        have at2 : At (X.blk s H0 scope (compEnvC scope cl C X.env) fp) (fun _ _ _ _ => False) N scope lv g' H2 σ2 env' st' := ⟨cb, oy, en2⟩
        refine wcs_ok hc at2 h6 (Rqs.blk hr.left.right _ _ _ _ _) ?_
        cases hcv : evC ifs env' st' with
        | no =>
          rw [hcv] at hp
          exact hp.elim
        | exc c ds st3 =>
          rw [hcv] at hp
          exact hp.elim
        | ok k st3 =>
          rw [hcv] at hp
          intro g3 k' H3 s3 o3 r3
          have r3 : k' = k := r3
          subst r3
          have hp : Post X.K X.mg (WS_ W σ) (relE X.K pk) g1 H1 ((match (bif k' then (evE elt false env' st3).bind fun y st => (datOf y st).bind fun y st => .ok (some y) st else .ok none st3 : R (Option MP.D)) with
            | .ok (some y) st1 => bif fitsS acc.length then compL (compF elt own tg ifs env) (items.drop (i + 1)) (acc ++ [y]) st1 else .no
            | .ok none st1 => compL (compF elt own tg ifs env) (items.drop (i + 1)) acc st1
            | _ => .no).bind fun ys st => .ok (fresh (.list ys)) st) Q := hp
          have eD3 : H3 D = some (.lst vs) := s3.keep _ _ eD2 nr
          have rD3 := RDs.step s3 oy rD2
          have nz3 : ¬ g3.Z D := s3.nz nz (by rw [eD2]; exact fun q => by cases q)
          have nr3 : D ∉ g3.rho := s3.nr nr (by rw [eD2]; exact fun q => by cases q)
          cases k' with
          | false =>
            simp only [if_neg Bool.false_ne_true]
            exact ⟨m - 1, by omega, g3, st3, acc, vs, s2.trans s3, o3, eD3, rD3, nz3, nr3, by omega, hp⟩
          | true =>
            rw [if_pos rfl]
            intro s H0 C cl fp
            have cb := ctx_blk at_.c hk s H0 C cl fp
            have at3 : At (X.blk s H0 scope (compEnvC scope cl C X.env) fp) (fun _ _ _ _ => False) N scope lv g3 H3 σ2 env' st3 := ⟨cb, o3, en2.step s3 oy⟩
            refine he elt' false _ at3 h7 (Rqs.blk hr.right _ _ _ _ _) ?_
            cases hev : evE elt false env' st3 with
            | no =>
              rw [hev] at hp
              exact hp.elim
            | exc c ds st4 =>
              rw [hev] at hp
              exact hp.elim
            | ok y st4 =>
              rw [hev] at hp
              intro g4 v H4 s4 o4 r4
              obtain ⟨fr, y⟩ := y
              cases y with
              | loc n => exact hp.elim
              | dat y =>
                have hp : Post X.K X.mg (WS_ W σ) (relE X.K pk) g1 H1 ((bif fitsS acc.length then compL (compF elt own tg ifs env) (items.drop (i + 1)) (acc ++ [y]) st4 else .no).bind fun ys st => .ok (fresh (.list ys)) st) Q := hp
                have eD4 : H4 D = some (.lst vs) := s4.keep _ _ eD3 nr3
                have s24 := (s2.trans s3).trans s4
                obtain ⟨g5, s5, o5, r5, hh, er⟩ := ROut.frozen (g0 := g3) s4 o4 r4 rfl
                have nz5 : ¬ g5.Z D := s5.nz nz3 (by rw [eD3]; exact fun q => by cases q)
                have nr5 : D ∉ g5.rho := s5.nr nr3 (by rw [eD3]; exact fun q => by cases q)
                have s15 : Step g1 H1 g5 H4 := (s2.trans s3).trans s5
                cases hz : fitsS acc.length with
                | false =>
                  rw [hz] at hp
                  exact hp.elim
                | true =>
                  rw [hz] at hp
                  have rD5 : RDs X.K g5.Z H4 vs acc := RDs.holds (s5.holds o3) rD3
                  have ho := holds_own (g := g5) (u := .lst (vs ++ [v])) eD4 nz5
                  refine ⟨vs, eD4, by rw [rD5.length]; exact of_decide_eq_true hz, m - 1, by omega, g5, st4, acc ++ [y], vs ++ [v], s15.upd_new hD, o5.own eD4 nz5 nr5, upd_same, RDs.holds ho (rD5.append (.cons r5 .nil)), nz5, nr5, by omega, hp⟩
    · refine .inl ⟨?_, ?_⟩
      · have e : i = items.length := by omega
        subst e
        exact pres.stop g' H' (s'.holds o1)
      · have e : items.drop i = [] := List.drop_eq_nil_of_le (by omega)
        rw [e] at hp
        have hp : Post X.K X.mg (WS_ W σ) (relE X.K pk) g1 H1 (.ok (fresh (.list acc)) st') Q := hp
        exact hp g' (.ref D) H' s' o' ⟨D, rfl, hD, vs, eD, rD, nz, nr⟩
theorem sim_comp {elt : Ex} {own : List (Str × Nat)} {tg : Tg} {it : It} {ifs : Opt} (he : SimE elt) (hi : SimI it) (hc : SimC ifs) : SimE (.comp elt own tg it ifs) := by
  intro X W N sc lv g H σ env st e pk Q at_ hm hr h
  cases e <;> try exact no_false hm
  rename_i elt' gs scope pos
  rcases gs with _ | ⟨⟨tg', it', ifs', n⟩, _ | ⟨_, _⟩⟩ <;> try exact no_false hm
  obtain ⟨hm, h8⟩ := cond_true hm
  obtain ⟨hm, h7⟩ := cond_true hm
  obtain ⟨hm, h6⟩ := cond_true hm
  obtain ⟨hm, h5⟩ := cond_true hm
  obtain ⟨hm, h4⟩ := cond_true hm
  obtain ⟨hm, h3⟩ := cond_true hm
  obtain ⟨h1, h2⟩ := cond_true hm
  have h1 : n = 0 := of_decide_eq_true h1
  subst h1
  have hfold : ∀ x, foldedSetIterable it' X.env x = pure x := by
    intro x
    cases it' <;> first | rfl | exact no_false h4
  have h : Post X.K X.mg (WS_ W σ) (relE X.K pk) g H ((evI it env st).bind fun items st => (compL (compF elt own tg ifs env) items [] st).bind fun ys st => .ok (fresh (.list ys)) st) Q := h
  exact WE.of (pe_lc at_.c.calm (by rw [at_.c.eN]; exact at_.c.nd) pi_wi (blk_ok at_.c h2) pg_gB (pt_tB h6) pe_eB hfold) (lc_ok he hi hc pk Q at_ h2 h3 h5 h6 h7 h8 hr h)
/-! two clauses -/
def comp2F (elt : Ex) (own : List (Str × Nat)) (tg : Tg) (ifs : Opt) (own1 : List (Str × Nat)) (tg1 : Tg) (it1 : MP.It) (ifs1 : Opt) (env : Env) : D → List D → Store → R (List D) := fun d acc st => match bindTg tg d (wipeE env (own.map (·.2))) with
  | none => .no
  | some env1 => (evC ifs env1 st).bind fun k st => bif k then (evI it1 env1 st).bind fun items1 st => compL (compF elt own1 tg1 ifs1 env1) items1 acc st else .ok acc st
abbrev iB (X : Cx) (scope : Scope) (tg' it' : Expr) : TI := fun σ H R => ∀ s H0 C cl fp, WI (X.blk s H0 scope (compEnvC scope cl C X.env) fp) tg' it' σ H R
theorem pi_iB {X : Cx} {scope : Scope} {tg' it' : Expr} (s : Shared) (H0 : Hp) (C : Addr) (cl : List (Str × Addr)) (fp : List Addr) : PI (X.blk s H0 scope (compEnvC scope cl C X.env) fp) tg' it' (iB X scope tg' it') := ⟨fun pins s1 σ H R I q => pi_wi.run pins s1 σ H R I (q s H0 C cl fp)⟩
abbrev NoD (σ : L2.St) (env : Env) (D : Addr) : Prop := ∀ (i : Nat) d, env[i]? = some (.own d) → σ[i]? ≠ some (some (.ref D))
mutual
theorem bindTg_own : ∀ (t : Tg) {d : MP.D} {e e1 : Env}, bindTg t d e = some e1 → ∀ (i : Nat) o, e1[i]? = some (.own o) → e[i]? = some (.own o)
  | .nm j, d, e, e1, h, i, o, q => by
    have h : some (List.set e j (.val (.dat d))) = some e1 := h
    cases h
    rw [List.getElem?_set] at q
    split at q
    · split at q
      · cases q
      · cases q
    · exact q
  | .tup ts, d, e, e1, h, i, o, q => by
    cases d with
    | tuple ds => exact bindTgs_own ts (ds := ds) h i o q
    | list ds => exact bindTgs_own ts (ds := ds) h i o q
    | _ => exact absurd (show none = some e1 from h) (fun z => by cases z)
theorem bindTgs_own : ∀ (ts : Tgs) {ds : List MP.D} {e e1 : Env}, bindTgs ts ds e = some e1 → ∀ (i : Nat) o, e1[i]? = some (.own o) → e[i]? = some (.own o)
  | .nil, ds, e, e1, h, i, o, q => by
    cases ds with
    | nil =>
      have h : some e = some e1 := h
      cases h
      exact q
    | cons _ _ => exact absurd (show none = some e1 from h) (fun z => by cases z)
  | .cons t ts, ds, e, e1, h, i, o, q => by
    cases ds with
    | nil => exact absurd (show none = some e1 from h) (fun z => by cases z)
    | cons d r =>
      have h : (match bindTg t d e with
        | some env' => bindTgs ts r env'
        | none => none) = some e1 := h
      cases hb : bindTg t d e with
      | none =>
        rw [hb] at h
        cases h
      | some e2 =>
        rw [hb] at h
        exact bindTg_own t hb i o (bindTgs_own ts h i o q)
end
theorem wipeE_own : ∀ (vs : List Nat) {e : Env} (i : Nat) o, (wipeE e vs)[i]? = some (.own o) → e[i]? = some (.own o) ∧ i ∉ vs
  | [], e, i, o, q => ⟨q, by simp⟩
  | v :: vs, e, i, o, q => by
    have q : (List.set (wipeE e vs) v .un)[i]? = some (.own o) := q
    rw [List.getElem?_set] at q
    split at q
    · split at q <;> cases q
    · rename_i hne
      obtain ⟨h1, h2⟩ := wipeE_own vs i o q
      exact ⟨h1, fun z => by
        rcases List.mem_cons.mp z with z | z
        · exact hne z.symm
        · exact h2 z⟩
section
variable {K : PySem.W.Frag} {g : G} {H : Hp} {σ σ2 : L2.St} {env env1 : Env} {D : Addr}
theorem EnvOk.nod (en : EnvOk K g H σ env) (hD : H D = none) : NoD σ env D := fun i d e q => by
  obtain ⟨a, ea, r⟩ := en.at_ i _ _ e q
  cases ea
  exact r.ne hD
theorem NoD.turn (n : NoD σ env D) {t : Tg} {d : MP.D} {vs : List Nat} (hb : bindTg t d (wipeE env vs) = some env1) (hw : L2.wipe σ2 vs = L2.wipe σ vs) : NoD σ2 env1 D := fun i o e q => by
  obtain ⟨e1, ni⟩ := wipeE_own _ i o (bindTg_own t hb i o e)
  refine n i o e1 ?_
  rw [← L2.wipe_out (σ := σ) ni, ← hw, L2.wipe_out ni]
  exact q
theorem EnvOk.updD (en : EnvOk K g H σ env) (n : NoD σ env D) {u : HO} {vs : List V} (ha : H D = some (.lst vs)) (nz : ¬ g.Z D) : EnvOk K g (upd H D u) σ env := by
  refine ⟨en.len, fun i s x e1 e2 => ?_, en.apart⟩
  have q := en.at_ i s x e1 e2
  cases s with
  | un => trivial
  | val v =>
    obtain ⟨w, e, r⟩ := q
    exact ⟨w, e, r.holds (holds_own ha nz)⟩
  | own d =>
    obtain ⟨a, e, r⟩ := q
    have hne : a ≠ D := fun z => by
      subst z
      subst e
      exact n i d e1 e2
    refine ⟨a, e, ?_⟩
    cases d <;> try exact r.elim
    · obtain ⟨us, h1, h2, h3, h4⟩ := r
      exact ⟨us, by rw [upd_ne hne]; exact h1, RDs.holds (holds_own ha nz) h2, h3, h4⟩
    · obtain ⟨us, h1, h2, h3, h4⟩ := r
      exact ⟨us, by rw [upd_ne hne]; exact h1, RKs.holds (holds_own ha nz) h2, h3, h4⟩
end
theorem lc2_ok {elt : Ex} {own own1 : List (Str × Nat)} {tg tg1 : Tg} {it it1 : MP.It} {ifs ifs1 : Opt} (he : SimE elt) (hi : SimI it) (hc : SimC ifs) (hi1 : SimI it1) (hc1 : SimC ifs1) {X : Cx} {W : WX} {N : List Str} {sc scope : Scope} {lv : Nat} {g : G} {H : Hp} {σ : L2.St} {env : Env} {st : Store}
    {elt' tg' it' tg1' it1' : Expr} {ifs' ifs1' : List Expr} (pk : Bool) (Q : VK) (at_ : At X W N sc lv g H σ env st) (h2 : blkC N sc scope own = true) (h3 : mTg N tg scope tg' = true) (h5 : mI N it sc tg' it' = true) (h6 : mC N ifs scope ifs' = true) (h31 : mTg N tg1 scope tg1' = true) (h51 : mI N it1 scope tg1' it1' = true) (h61 : mC N ifs1 scope ifs1' = true) (h7 : mE N elt scope elt' = true)
    (h8 : tgIn tg (own.map (·.2)) = true) (h81 : tgIn tg1 (own1.map (·.2)) = true) (hr : Rqs X lv (rqI it ++ rqO ifs ++ rqI it1 ++ rqO ifs1 ++ rqE elt))
    (h : Post X.K X.mg (WS_ W σ) (relE X.K pk) g H ((evI it env st).bind fun items st => (compL2 (comp2F elt own tg ifs own1 tg1 it1 ifs1 env) items [] st).bind fun ys st => .ok (fresh (.list ys)) st) Q) :
    tLc2 (WI X tg' it') (gB X scope tg') (tB X scope ifs') (iB X scope tg1' it1') (gB X scope tg1') (tB X scope ifs1') (eB X scope elt') (own.map (·.2)) (own1.map (·.2)) σ H Q := by
  have hk : scope.kind = .function := (blkOk_by h2).kind
  refine hi tg' it' _ at_ h5 hr.left.left.left.left (Post.bind based_e h fun items st1 g1 J H1 s1 o1 pres h1 => ?_)
  intro D hD
  have en1 := at_.en.step s1 at_.ok
  refine ⟨fun i m H' => ∃ g' st' acc vs, Step g1 H1 g' H' ∧ Ok X.K g' H' st' ∧ H' D = some (.lst vs) ∧ RDs X.K g'.Z H' vs acc ∧ ¬ g'.Z D ∧ D ∉ g'.rho ∧ i + m = items.length ∧
    Post X.K X.mg (WS_ W σ) (relE X.K pk) g1 H1 ((compL2 (comp2F elt own tg ifs own1 tg1 it1 ifs1 env) (items.drop i) acc st').bind fun ys st => .ok (fresh (.list ys)) st) Q, ?_, ?_⟩
  · exact ⟨items.length, g1, st1, [], [], .new hD, o1.new hD, upd_same, .nil, o1.zne hD, o1.notIn hD, Nat.zero_add _, by rw [List.drop_zero]; exact h1⟩
  · rintro i m H' ⟨g', st', acc, vs, s', o', eD, rD, nz, nr, him, hp⟩
    by_cases hlt : i < items.length
    · refine .inr ⟨pres.go g' H' i (s'.holds o1) hlt, fun H2 => ∃ m', m' < m ∧ ∃ g2 st2 acc2 vs2, Step g1 H1 g2 H2 ∧ Ok X.K g2 H2 st2 ∧ H2 D = some (.lst vs2) ∧ RDs X.K g2.Z H2 vs2 acc2 ∧ ¬ g2.Z D ∧ D ∉ g2.rho ∧ (i + 1) + m' = items.length ∧
        Post X.K X.mg (WS_ W σ) (relE X.K pk) g1 H1 ((compL2 (comp2F elt own tg ifs own1 tg1 it1 ifs1 env) (items.drop (i + 1)) acc2 st2).bind fun ys st => .ok (fresh (.list ys)) st) Q, fun H2 q => q, fun x H2 hy => ?_⟩
      obtain ⟨d, hd, sy, oy, rx⟩ := pres.yld g' H' st' i x H2 (s'.holds o1) o' hy hlt
      have hdrop : items.drop i = d :: items.drop (i + 1) := by
        have e := List.drop_eq_getElem_cons hlt
        rw [List.getElem?_eq_getElem hlt] at hd
        rw [e, Option.some.inj hd]
      rw [hdrop] at hp
      have s2 := s'.trans sy
      have eD2 : H2 D = some (.lst vs) := sy.keep _ _ eD nr
      have rD2 := RDs.step sy o' rD
      have en2 := (en1.step s2 o1).wipe (own.map (·.2))
      have hp : Post X.K X.mg (WS_ W σ) (relE X.K pk) g1 H1 ((match comp2F elt own tg ifs own1 tg1 it1 ifs1 env d acc st' with
        | .ok acc' st1 => compL2 (comp2F elt own tg ifs own1 tg1 it1 ifs1 env) (items.drop (i + 1)) acc' st1
        | _ => .no).bind fun ys st => .ok (fresh (.list ys)) st) Q := hp
      cases hb : bindTg tg d (wipeE env (own.map (·.2))) with
      | none =>
        have ef : comp2F elt own tg ifs own1 tg1 it1 ifs1 env d acc st' = .no := by
          unfold comp2F
          rw [hb]
        rw [ef] at hp
        exact hp.elim
      | some env1 =>
        have ef : comp2F elt own tg ifs own1 tg1 it1 ifs1 env d acc st' = ((evC ifs env1 st').bind fun k st => bif k then (evI it1 env1 st).bind fun items1 st => compL (compF elt own1 tg1 ifs1 env1) items1 acc st else .ok acc st) := by
          unfold comp2F
          rw [hb]
        rw [ef] at hp
        intro s H0 C cl fp
        have cb := ctx_blk at_.c hk s H0 C cl fp
        refine tg_ok cb (own.map (·.2)) tg h3 en2 rx hb fun σ2 en2 w2 => ⟨(w2 h8).trans (wipe_sub fun _ h => h), fun s H0 C cl fp => ?_⟩
        have wq : L2.wipe σ2 (own.map (·.2)) = L2.wipe σ (own.map (·.2)) := (w2 h8).trans (wipe_sub fun _ h => h)
        have cb := ctx_blk at_.c hk s H0 C cl fp
        have at2 : At (X.blk s H0 scope (compEnvC scope cl C X.env) fp) (fun _ _ _ _ => False) N scope lv g' H2 σ2 env1 st' := ⟨cb, oy, en2⟩
        refine wcs_ok hc at2 h6 (Rqs.blk hr.left.left.left.right _ _ _ _ _) ?_
        cases hcv : evC ifs env1 st' with
        | no =>
          rw [hcv] at hp
          exact hp.elim
        | exc c ds st3 =>
          rw [hcv] at hp
          exact hp.elim
        | ok k st3 =>
          rw [hcv] at hp
          intro g3 k' H3 s3 o3 r3
          have r3 : k' = k := r3
          subst r3
          have hp : Post X.K X.mg (WS_ W σ) (relE X.K pk) g1 H1 ((match (bif k' then (evI it1 env1 st3).bind fun items1 st => compL (compF elt own1 tg1 ifs1 env1) items1 acc st else .ok acc st3 : R (List MP.D)) with
            | .ok acc' st1 => compL2 (comp2F elt own tg ifs own1 tg1 it1 ifs1 env) (items.drop (i + 1)) acc' st1
            | _ => .no).bind fun ys st => .ok (fresh (.list ys)) st) Q := hp
          have eD3 : H3 D = some (.lst vs) := s3.keep _ _ eD2 nr
          have rD3 := RDs.step s3 oy rD2
          have nz3 : ¬ g3.Z D := s3.nz nz (by rw [eD2]; exact fun q => by cases q)
          have nr3 : D ∉ g3.rho := s3.nr nr (by rw [eD2]; exact fun q => by cases q)
          cases k' with
          | false =>
            simp only [if_neg Bool.false_ne_true]
            exact ⟨m - 1, by omega, g3, st3, acc, vs, s2.trans s3, o3, eD3, rD3, nz3, nr3, by omega, hp⟩
          | true =>
            rw [if_pos rfl]
            intro s H0 C cl fp
            have cb := ctx_blk at_.c hk s H0 C cl fp
            have at3 : At (X.blk s H0 scope (compEnvC scope cl C X.env) fp) (fun _ _ _ _ => False) N scope lv g3 H3 σ2 env1 st3 := ⟨cb, o3, en2.step s3 oy⟩
            refine hi1 tg1' it1' _ at3 h51 (Rqs.blk hr.left.left.right _ _ _ _ _) ?_
            cases hev : evI it1 env1 st3 with
            | no =>
              rw [hev] at hp
              exact hp.elim
            | exc c ds st4 =>
              rw [hev] at hp
              exact hp.elim
            | ok items1 st4 =>
              rw [hev] at hp
              intro g4 J1 H4 s4 o4 pres1
              have hp : Post X.K X.mg (WS_ W σ) (relE X.K pk) g1 H1 ((match compL (compF elt own1 tg1 ifs1 env1) items1 acc st4 with
                | .ok acc' st1 => compL2 (comp2F elt own tg ifs own1 tg1 it1 ifs1 env) (items.drop (i + 1)) acc' st1
                | _ => .no).bind fun ys st => .ok (fresh (.list ys)) st) Q := hp
              have s14 : Step g1 H1 g4 H4 := (s2.trans s3).trans s4
              have eD4 : H4 D = some (.lst vs) := s4.keep _ _ eD3 nr3
              have rD4 := RDs.step s4 o3 rD3
              have nz4 : ¬ g4.Z D := s4.nz nz3 (by rw [eD3]; exact fun q => by cases q)
              have nr4 : D ∉ g4.rho := s4.nr nr3 (by rw [eD3]; exact fun q => by cases q)
              have en4 := (en2.step s3 oy).step s4 o3
              have nod : NoD σ2 env1 D := (en1.nod hD).turn hb wq
              refine ⟨fun j k H' => ∃ g' st' acc vs, Step g1 H1 g' H' ∧ EnvOk X.K g' H' σ2 env1 ∧ Holds g4.Z g'.Z H4 H' ∧ Ok X.K g' H' st' ∧ H' D = some (.lst vs) ∧ RDs X.K g'.Z H' vs acc ∧ ¬ g'.Z D ∧ D ∉ g'.rho ∧ j + k = items1.length ∧
                Post X.K X.mg (WS_ W σ) (relE X.K pk) g1 H1 ((match compL (compF elt own1 tg1 ifs1 env1) (items1.drop j) acc st' with
                  | .ok acc' st1 => compL2 (comp2F elt own tg ifs own1 tg1 it1 ifs1 env) (items.drop (i + 1)) acc' st1
                  | _ => .no).bind fun ys st => .ok (fresh (.list ys)) st) Q, ?_, ?_⟩
              · exact ⟨items1.length, g4, st4, acc, vs, s14, en4, ⟨fun _ _ h => h, fun _ h => h, fun _ _ _ h => h⟩, o4, eD4, rD4, nz4, nr4, Nat.zero_add _, by rw [List.drop_zero]; exact hp⟩
              · clear hp eD4 rD4 nz4 nr4 en4 s14 eD3 rD3 nz3 nr3 at3 eD2 rD2 en2 at2 cb
                clear cb
                rintro j k H5 ⟨g5, st5, acc, vs, s15, en5, hh5, o5, eD5, rD5, nz5, nr5, hjk, hp⟩
                by_cases hlt1 : j < items1.length
                · refine .inr ⟨pres1.go g5 H5 j hh5 hlt1, fun H2 => ∃ k', k' < k ∧ ∃ g' st' acc vs, Step g1 H1 g' H2 ∧ EnvOk X.K g' H2 σ2 env1 ∧ Holds g4.Z g'.Z H4 H2 ∧ Ok X.K g' H2 st' ∧ H2 D = some (.lst vs) ∧ RDs X.K g'.Z H2 vs acc ∧ ¬ g'.Z D ∧ D ∉ g'.rho ∧ (j + 1) + k' = items1.length ∧
                    Post X.K X.mg (WS_ W σ) (relE X.K pk) g1 H1 ((match compL (compF elt own1 tg1 ifs1 env1) (items1.drop (j + 1)) acc st' with
                      | .ok acc' st1 => compL2 (comp2F elt own tg ifs own1 tg1 it1 ifs1 env) (items.drop (i + 1)) acc' st1
                      | _ => .no).bind fun ys st => .ok (fresh (.list ys)) st) Q, fun H2 q => q, fun x H6 hy => ?_⟩
                  obtain ⟨d, hd, sy, oy, rx⟩ := pres1.yld g5 H5 st5 j x H6 hh5 o5 hy hlt1
                  have hdrop : items1.drop j = d :: items1.drop (j + 1) := by
                    have e := List.drop_eq_getElem_cons hlt1
                    rw [List.getElem?_eq_getElem hlt1] at hd
                    rw [e, Option.some.inj hd]
                  rw [hdrop] at hp
                  have s16 := s15.trans sy
                  have eD6 : H6 D = some (.lst vs) := sy.keep _ _ eD5 nr5
                  have rD6 := RDs.step sy o5 rD5
                  have en6 := en5.step sy o5
                  have hh6 := hh5.trans (sy.holds o5)
                  have nz6 : ¬ g5.Z D := nz5
                  have enw := en6.wipe (own1.map (·.2))
                  have hp : Post X.K X.mg (WS_ W σ) (relE X.K pk) g1 H1 ((match (match compF elt own1 tg1 ifs1 env1 d st5 with
                    | .ok (some y) st1 => bif fitsS acc.length then compL (compF elt own1 tg1 ifs1 env1) (items1.drop (j + 1)) (acc ++ [y]) st1 else .no
                    | .ok none st1 => compL (compF elt own1 tg1 ifs1 env1) (items1.drop (j + 1)) acc st1
                    | _ => .no) with
                      | .ok acc' st1 => compL2 (comp2F elt own tg ifs own1 tg1 it1 ifs1 env) (items.drop (i + 1)) acc' st1
                      | _ => .no).bind fun ys st => .ok (fresh (.list ys)) st) Q := hp
                  cases hb1 : bindTg tg1 d (wipeE env1 (own1.map (·.2))) with
                  | none =>
                    have ef : compF elt own1 tg1 ifs1 env1 d st5 = .no := by
                      unfold compF
                      rw [hb1]
                    rw [ef] at hp
                    exact hp.elim
                  | some env' =>
                    have ef : compF elt own1 tg1 ifs1 env1 d st5 = ((evC ifs1 env' st5).bind fun k st => bif k then (evE elt false env' st).bind fun y st => (datOf y st).bind fun y st => .ok (some y) st else .ok none st) := by
                      unfold compF
                      rw [hb1]
                    rw [ef] at hp
                    intro s H0 C cl fp
                    have cb := ctx_blk at_.c hk s H0 C cl fp
                    refine tg_ok cb (own1.map (·.2)) tg1 h31 enw rx hb1 fun σ3 en7 w7 => ⟨(w7 h81).trans (wipe_sub fun _ h => h), fun s H0 C cl fp => ?_⟩
                    have cb := ctx_blk at_.c hk s H0 C cl fp
                    have at7 : At (X.blk s H0 scope (compEnvC scope cl C X.env) fp) (fun _ _ _ _ => False) N scope lv g5 H6 σ3 env' st5 := ⟨cb, oy, en7⟩
                    refine wcs_ok hc1 at7 h61 (Rqs.blk hr.left.right _ _ _ _ _) ?_
                    cases hcv1 : evC ifs1 env' st5 with
                    | no =>
                      rw [hcv1] at hp
                      exact hp.elim
                    | exc c ds st7 =>
                      rw [hcv1] at hp
                      exact hp.elim
                    | ok k7 st7 =>
                      rw [hcv1] at hp
                      intro g7 k' H7 s7 o7 r7
                      have r7 : k' = k7 := r7
                      subst r7
                      have hp : Post X.K X.mg (WS_ W σ) (relE X.K pk) g1 H1 ((match (match (bif k' then (evE elt false env' st7).bind fun y st => (datOf y st).bind fun y st => .ok (some y) st else .ok none st7 : R (Option MP.D)) with
                        | .ok (some y) st1 => bif fitsS acc.length then compL (compF elt own1 tg1 ifs1 env1) (items1.drop (j + 1)) (acc ++ [y]) st1 else .no
                        | .ok none st1 => compL (compF elt own1 tg1 ifs1 env1) (items1.drop (j + 1)) acc st1
                        | _ => .no) with
                          | .ok acc' st1 => compL2 (comp2F elt own tg ifs own1 tg1 it1 ifs1 env) (items.drop (i + 1)) acc' st1
                          | _ => .no).bind fun ys st => .ok (fresh (.list ys)) st) Q := hp
                      have eD7 : H7 D = some (.lst vs) := s7.keep _ _ eD6 nr5
                      have rD7 := RDs.step s7 oy rD6
                      have nz7 : ¬ g7.Z D := s7.nz nz5 (by rw [eD6]; exact fun q => by cases q)
                      have nr7 : D ∉ g7.rho := s7.nr nr5 (by rw [eD6]; exact fun q => by cases q)
                      have enA := en6.step s7 oy
                      have hhA := hh6.trans (s7.holds oy)
                      cases k' with
                      | false =>
                        simp only [if_neg Bool.false_ne_true]
                        exact ⟨k - 1, by omega, g7, st7, acc, vs, s16.trans s7, enA, hhA, o7, eD7, rD7, nz7, nr7, by omega, hp⟩
                      | true =>
                        rw [if_pos rfl]
                        intro s H0 C cl fp
                        have cb := ctx_blk at_.c hk s H0 C cl fp
                        have at8 : At (X.blk s H0 scope (compEnvC scope cl C X.env) fp) (fun _ _ _ _ => False) N scope lv g7 H7 σ3 env' st7 := ⟨cb, o7, en7.step s7 oy⟩
                        refine he elt' false _ at8 h7 (Rqs.blk hr.right _ _ _ _ _) ?_
                        cases hev8 : evE elt false env' st7 with
                        | no =>
                          rw [hev8] at hp
                          exact hp.elim
                        | exc c ds st8 =>
                          rw [hev8] at hp
                          exact hp.elim
                        | ok y st8 =>
                          rw [hev8] at hp
                          intro g8 v H8 s8 o8 r8
                          obtain ⟨fr, y⟩ := y
                          cases y with
                          | loc n => exact hp.elim
                          | dat y =>
                            have hp : Post X.K X.mg (WS_ W σ) (relE X.K pk) g1 H1 ((match (bif fitsS acc.length then compL (compF elt own1 tg1 ifs1 env1) (items1.drop (j + 1)) (acc ++ [y]) st8 else .no) with
                              | .ok acc' st1 => compL2 (comp2F elt own tg ifs own1 tg1 it1 ifs1 env) (items.drop (i + 1)) acc' st1
                              | _ => .no).bind fun ys st => .ok (fresh (.list ys)) st) Q := hp
                            have eD8 : H8 D = some (.lst vs) := s8.keep _ _ eD7 nr7
                            obtain ⟨g9, s9, o9, r9, hh, er⟩ := ROut.frozen (g0 := g7) s8 o8 r8 rfl
                            have nz9 : ¬ g9.Z D := s9.nz nz7 (by rw [eD7]; exact fun q => by cases q)
                            have nr9 : D ∉ g9.rho := s9.nr nr7 (by rw [eD7]; exact fun q => by cases q)
                            have s19 : Step g1 H1 g9 H8 := (s16.trans s7).trans s9
                            cases hz : fitsS acc.length with
                            | false =>
                              rw [hz] at hp
                              exact hp.elim
                            | true =>
                              rw [hz] at hp
                              have rD9 : RDs X.K g9.Z H8 vs acc := RDs.holds (s9.holds o7) rD7
                              have ho := holds_own (g := g9) (u := .lst (vs ++ [v])) eD8 nz9
                              refine ⟨vs, eD8, by rw [rD9.length]; exact of_decide_eq_true hz, k - 1, by omega, g9, st8, acc ++ [y], vs ++ [v], s19.upd_new hD, (enA.step s9 o7).updD nod eD8 nz9, (hhA.trans (s9.holds o7)).trans ho, o9.own eD8 nz9 nr9, upd_same, RDs.holds ho (rD9.append (.cons r9 .nil)), nz9, nr9, by omega, hp⟩
                · refine .inl ⟨?_, ?_⟩
                  · have e : j = items1.length := by omega
                    subst e
                    exact pres1.stop g5 H5 hh5
                  · have e : items1.drop j = [] := List.drop_eq_nil_of_le (by omega)
                    rw [e] at hp
                    exact ⟨m - 1, by omega, g5, st5, acc, vs, s15, o5, eD5, rD5, nz5, nr5, by omega, hp⟩
    · refine .inl ⟨?_, ?_⟩
      · have e : i = items.length := by omega
        subst e
        exact pres.stop g' H' (s'.holds o1)
      · have e : items.drop i = [] := List.drop_eq_nil_of_le (by omega)
        rw [e] at hp
        have hp : Post X.K X.mg (WS_ W σ) (relE X.K pk) g1 H1 (.ok (fresh (.list acc)) st') Q := hp
        exact hp g' (.ref D) H' s' o' ⟨D, rfl, hD, vs, eD, rD, nz, nr⟩
theorem sim_comp2 {elt : Ex} {own own1 : List (Str × Nat)} {tg tg1 : Tg} {it it1 : MP.It} {ifs ifs1 : Opt} (he : SimE elt) (hi : SimI it) (hc : SimC ifs) (hi1 : SimI it1) (hc1 : SimC ifs1) : SimE (.comp2 elt own tg it ifs own1 tg1 it1 ifs1) := by
  intro X W N sc lv g H σ env st e pk Q at_ hm hr h
  cases e <;> try exact no_false hm
  rename_i elt' gs scope pos
  rcases gs with _ | ⟨⟨tg', it', ifs', n⟩, _ | ⟨⟨tg1', it1', ifs1', n1⟩, _ | ⟨_, _⟩⟩⟩ <;> try exact no_false hm
  obtain ⟨hm, hv⟩ := cond_true hm
  obtain ⟨hm, h81⟩ := cond_true hm
  obtain ⟨hm, h8⟩ := cond_true hm
  obtain ⟨hm, h7⟩ := cond_true hm
  obtain ⟨hm, h61⟩ := cond_true hm
  obtain ⟨hm, h51⟩ := cond_true hm
  obtain ⟨hm, h31⟩ := cond_true hm
  obtain ⟨hm, h6⟩ := cond_true hm
  obtain ⟨hm, h5⟩ := cond_true hm
  obtain ⟨hm, h41⟩ := cond_true hm
  obtain ⟨hm, h4⟩ := cond_true hm
  obtain ⟨hm, h3⟩ := cond_true hm
  obtain ⟨hm, h2⟩ := cond_true hm
  obtain ⟨h1, h11⟩ := cond_true hm
  have h1 : n = 0 := of_decide_eq_true h1
  have h11 : n1 = 0 := of_decide_eq_true h11
  subst h1 h11
  have hfold : ∀ x, foldedSetIterable it' X.env x = pure x := by
    intro x
    cases it' <;> first | rfl | exact no_false h4
  have hfold1 : ∀ env x, foldedSetIterable it1' env x = pure x := by
    intro env x
    cases it1' <;> first | rfl | exact no_false h41
  have hv' : ∀ i ∈ own1.map (·.2), i ∈ own.map (·.2) := by
    intro i hi
    obtain ⟨x, hx, rfl⟩ := List.mem_map.mp hi
    have q := List.all_eq_true.mp hv x hx
    obtain ⟨y, hy, e⟩ := List.any_eq_true.mp q
    exact List.mem_map.mpr ⟨y, hy, by simpa using e⟩
  have h : Post X.K X.mg (WS_ W σ) (relE X.K pk) g H ((evI it env st).bind fun items st => (compL2 (comp2F elt own tg ifs own1 tg1 it1 ifs1 env) items [] st).bind fun ys st => .ok (fresh (.list ys)) st) Q := h
  exact WE.of (pe_lc2 at_.c.calm (by rw [at_.c.eN]; exact at_.c.nd) pi_wi (blk_ok at_.c h2) hv' pg_gB (pt_tB h6) pi_iB pg_gB (pt_tB h61) pe_eB hfold hfold1) (lc2_ok he hi hc hi1 hc1 pk Q at_ h2 h3 h5 h6 h31 h51 h61 h7 h8 h81 hr h)
end MP
/-! Cells: dicts and lists that many share. All expressions. -/
namespace MP
open PySem PyProof.Rows L2 PySem.Spec
def trsOf (X : Cx) : List Str → List Expr → List (TE × TE)
  | k :: ks, e :: es => (tC (.str k), WE X e) :: trsOf X ks es
  | _, _ => []
theorem pps_of {X : Cx} {pos : Pos} : ∀ {ks : List Str} {keys : List (Option Expr)} {es : List Expr}, mKeys ks keys = true → ks.length = es.length → PPs X pos keys es (trsOf X ks es)
  | [], keys, es, h, hl => by
    cases keys <;> try exact no_false h
    cases es <;> first | exact pps_nil | cases hl
  | k :: ks, keys, es, h, hl => by
    cases keys <;> try exact no_false h
    rename_i k' r
    cases es <;> try cases hl
    rename_i e es
    cases k' <;> try exact no_false h
    rename_i k'
    cases k' <;> try exact no_false h
    rename_i c j p
    cases c <;> try exact no_false h
    obtain ⟨h1, h2⟩ := cond_true h
    cases of_decide_eq_true h1
    exact pps_cons pe_str pe_we (pps_of h2 (Nat.succ.inj hl))
def SimK (m : Exs) : Prop := ∀ {X : Cx} {W : WX} {N : List Str} {sc : Scope} {lv : Nat} {g : G} {H : Hp} {σ : L2.St} {env : Env} {st : Store} (ks : List Str) (es : List Expr) (Q : List V → Hp → Prop), At X W N sc lv g H σ env st → mEs N m sc es = true → ks.length = es.length → Rqs X lv (rqEs m) →
  Post X.K X.mg (WS_ W σ) (relV X.K) g H (evV m env st) Q → tPairs (trsOf X ks es) σ H fun ps H' => ps.map (·.1) = ks.map V.str ∧ Q (ps.map (·.2)) H'
theorem simK_nil : SimK .nil := by
  intro X W N sc lv g H σ env st ks es Q at_ hm hl hr h
  cases es <;> try exact no_false hm
  cases ks <;> try cases hl
  exact ⟨rfl, h g [] H .refl at_.ok .nil⟩
theorem simK_cons {e : Ex} {es : Exs} (he : SimE e) (hs : SimK es) : SimK (.cons e es) := by
  intro X W N sc lv g H σ env st ks l Q at_ hm hl hr h
  cases l <;> try exact no_false hm
  rename_i e' r'
  cases ks <;> try cases hl
  rename_i k ks
  obtain ⟨hm, h3⟩ := cond_true hm
  obtain ⟨h1, h2⟩ := cond_true hm
  show WE X e' σ H _
  refine he e' false _ at_ h2 hr.left (Post.bindF based_v h fun x st1 g1 v H1 s1 o1 r1 h1 => ?_)
  obtain ⟨g2, s2, o2, r2⟩ := r1.frozenV s1 o1
  have q := hs ks r' (fun us H' => Q (v :: us) H') (at_.on s2 o2) h3 (Nat.succ.inj hl) hr.right (Post.bind based_v (h1 g2 H1 s2) fun vs st3 g3 us H3 s3 o3 r3 h3 => h3 g3 (v :: us) H3 .refl o3 (.cons (r2.step s3 o2) r3))
  have mono : ∀ {trs : List (TE × TE)} {H : Hp} {Q Q' : List (V × V) → Hp → Prop}, (∀ p ∈ trs, ∀ {H : Hp} {Q Q' : VK}, (∀ v H, Q v H → Q' v H) → p.1 σ H Q → p.1 σ H Q') → (∀ p ∈ trs, ∀ {H : Hp} {Q Q' : VK}, (∀ v H, Q v H → Q' v H) → p.2 σ H Q → p.2 σ H Q') →
      (∀ ps H, Q ps H → Q' ps H) → tPairs trs σ H Q → tPairs trs σ H Q' := by
    intro trs
    induction trs with
    | nil => exact fun _ _ w q => w _ _ q
    | cons p r ih =>
      intro H Q Q' m1 m2 w q
      exact m1 p List.mem_cons_self (fun x H1 q1 => m2 p List.mem_cons_self (fun y H2 q2 => ih (fun p hp => m1 p (List.mem_cons_of_mem _ hp)) (fun p hp => m2 p (List.mem_cons_of_mem _ hp)) (fun ps H3 q3 => w _ _ q3) q2) q1) q
  have hm1 : ∀ (ks : List Str) (es : List Expr) p, p ∈ trsOf X ks es → (∃ k, p.1 = tC (.str k)) ∧ ∃ e, p.2 = WE X e := by
    intro ks
    induction ks with
    | nil => intro es p hp; exact (List.not_mem_nil hp).elim
    | cons k ks ih =>
      intro es p hp
      cases es with
      | nil => exact (List.not_mem_nil hp).elim
      | cons e es =>
        rcases List.mem_cons.mp hp with q | q
        · subst q
          exact ⟨⟨k, rfl⟩, ⟨e, rfl⟩⟩
        · exact ih es p q
  refine mono (fun p hp => ?_) (fun p hp => ?_) (fun ps H q => ⟨?_, q.2⟩) q
  · obtain ⟨⟨k, e⟩, _⟩ := hm1 _ _ p hp
    rw [e]
    exact fun w q => w _ _ q
  · obtain ⟨_, ⟨e, he⟩⟩ := hm1 _ _ p hp
    rw [he]
    exact fun w q => q.mono w
  · show V.str k :: ps.map (·.1) = V.str k :: ks.map V.str
    rw [q.1]
theorem simK_star {e : Ex} {es : Exs} : SimK (.star e es) := by
  intro X W N sc lv g H σ env st ks l Q at_ hm hl hr h
  exact h.elim
theorem merge_nodup : ∀ (more kvs : List (Key × V)), ((kvs ++ more).map (·.1)).Nodup → mergeK kvs more = kvs ++ more
  | [], kvs, _ => by
    rw [List.append_nil]
    rfl
  | (k, v) :: more, kvs, h => by
    have hn : (kvs.any fun kv => decide (kv.1 = k)) = false := by
      rw [List.any_eq_false]
      intro p hp hk
      have hk : p.1 = k := of_decide_eq_true hk
      rw [List.map_append, List.nodup_append] at h
      exact h.2.2 p.1 (List.mem_map_of_mem hp) k (by simp) hk
    show mergeK (putK kvs k v) more = _
    unfold putK
    rw [hn]
    show mergeK (kvs ++ [(k, v)]) more = _
    rw [merge_nodup more (kvs ++ [(k, v)]) (by rw [List.append_assoc]; exact h), List.append_assoc]
    rfl
theorem rkv_of {K : PySem.W.Frag} {g : G} {H : Hp} : ∀ {ks : List Str} {ps : List (V × V)} {xs : List Val}, ps.map (·.1) = ks.map V.str → RVals K g H (ps.map (·.2)) xs → ks.length = xs.length →
    RKV K g H ((ks.zip (ps.map (·.2))).map fun p => ((Sum.inr p.1 : Key), p.2)) (ks.zip xs) ∧ ps = ((ks.zip (ps.map (·.2))).map fun p => ((Sum.inr p.1 : Key), p.2)).map fun kv => (kV kv.1, kv.2)
  | [], ps, xs, e, r, hl => by
    cases ps with
    | nil => exact ⟨.nil, rfl⟩
    | cons p r => cases e
  | k :: ks, ps, xs, e, r, hl => by
    cases ps with
    | nil => cases e
    | cons p ps =>
      cases xs with
      | nil => cases hl
      | cons x xs =>
        cases r with
        | cons r1 r2 =>
          obtain ⟨e1, e2⟩ := List.cons.inj e
          obtain ⟨h1, h2⟩ := rkv_of (K := K) (g := g) (H := H) e2 r2 (Nat.succ.inj hl)
          refine ⟨.cons r1 h1, ?_⟩
          show p :: ps = (V.str k, p.2) :: _
          rw [show p = (V.str k, p.2) from Prod.ext e1 rfl]
          exact congrArg _ h2
/-- a new cell -/
theorem cell_new {K : PySem.W.Frag} {g g1 : G} {H H1 : Hp} {st : Store} {a : Addr} {c : Cell} (s : Step g H g1 H1) (o : Ok K g1 H1 st) (hn : H a = none) (ha : CellIs K ⟨g1.Z, g1.rho ++ [a]⟩ H1 a c) (nz : ¬ g1.Z a) (nr : a ∉ g1.rho) :
    Step g H ⟨g1.Z, g1.rho ++ [a]⟩ H1 ∧ Ok K ⟨g1.Z, g1.rho ++ [a]⟩ H1 (st ++ [c]) := by
  obtain ⟨m, em, fm⟩ := s.r
  have lift : ∀ {v : V} {x : Val}, RVal K g1 H1 v x → RVal K ⟨g1.Z, g1.rho ++ [a]⟩ H1 v x := fun {v x} r => by
    cases x with
    | dat d => exact r
    | loc n =>
      obtain ⟨b, e, q⟩ := r
      exact ⟨b, by rw [List.getElem?_append_left (List.getElem?_eq_some_iff.mp e).1]; exact e, q⟩
  have liftK : ∀ {vs : List (Key × V)} {xs : List (Str × Val)}, RKV K g1 H1 vs xs → RKV K ⟨g1.Z, g1.rho ++ [a]⟩ H1 vs xs := by
    intro vs xs r
    induction r with
    | nil => exact .nil
    | cons r t ih => exact .cons (lift r) ih
  refine ⟨⟨s.z, s.zn, ⟨m ++ [a], by rw [em, List.append_assoc], fun b hb => ?_⟩, s.keep, s.gone⟩, ⟨fun b z hb => ?_, o.zs, by rw [List.length_append, List.length_append, o.len]; rfl, ?_, fun n b c' e1 e2 => ?_⟩⟩
  · rcases List.mem_append.mp hb with q | q
    · exact fm b q
    · rw [List.mem_singleton.mp q]
      exact hn
  · rcases List.mem_append.mp hb with q | q
    · exact o.zr b z q
    · rw [List.mem_singleton.mp q] at z
      exact nz z
  · rw [List.nodup_append]
    refine ⟨o.nd, by simp, fun b hb c hc => ?_⟩
    rw [List.mem_singleton.mp hc]
    exact fun e => nr (e ▸ hb)
  · by_cases hn' : n < g1.rho.length
    · rw [List.getElem?_append_left hn'] at e1
      rw [List.getElem?_append_left (by rw [← o.len]; exact hn')] at e2
      have q := o.cell n b c' e1 e2
      cases c' with
      | lst xs => exact q
      | dic kvs =>
        obtain ⟨kv, e, r⟩ := q
        exact ⟨kv, e, liftK r⟩
    · rw [List.getElem?_append_right (by omega)] at e1
      rw [List.getElem?_append_right (by rw [← o.len]; omega)] at e2
      have h0 : n - g1.rho.length = 0 := by
        have := (List.getElem?_eq_some_iff.mp e1).1
        simp only [List.length_singleton] at this
        omega
      rw [h0] at e1
      rw [← o.len, h0] at e2
      cases e1
      cases e2
      exact ha
theorem RKV.lift {K : PySem.W.Frag} {g : G} {H : Hp} {a : Addr} {vs : List (Key × V)} {xs : List (Str × Val)} (r : RKV K g H vs xs) : RKV K ⟨g.Z, g.rho ++ [a]⟩ H vs xs := by
  induction r with
  | nil => exact .nil
  | @cons k v vs x xs r t ih =>
    refine .cons ?_ ih
    cases x with
    | dat d => exact r
    | loc n =>
      obtain ⟨b, e, q⟩ := r
      exact ⟨b, by rw [List.getElem?_append_left (List.getElem?_eq_some_iff.mp e).1]; exact e, q⟩
theorem rout_loc {K : PySem.W.Frag} {pk fr : Bool} {g : G} {H H0 : Hp} {v : V} {n : Nat} (r : RVal K g H v (.loc n)) : ROut K pk g H H0 v ⟨fr, .loc n⟩ := by
  cases fr <;> exact r
theorem sim_toloc {a : Ex} (ha : SimE a) : SimE (.toloc a) := by
  intro X W N sc lv g H σ env st e pk Q at_ hm hr h
  refine ha e false _ at_ (cond_true hm).2 hr (Post.bindF based_e h fun x st1 g1 v H1 s1 o1 r1 hq => ?_)
  have h1 := hq g H .refl
  clear hq
  obtain ⟨fr, y⟩ := x
  cases fr <;> rcases y with d | m <;> try exact h1.elim
  cases d <;> try exact h1.elim
  rename_i xs
  obtain ⟨b, rfl, n, vs, e, rd, nz, nr⟩ := r1
  obtain ⟨s2, o2⟩ := cell_new (c := .lst xs) s1 o1 n ⟨vs, e, rd⟩ nz nr
  refine h1 _ _ H1 s2 o2 (rout_loc ⟨b, ?_, rfl⟩)
  rw [← o1.len, List.getElem?_append_right (Nat.le_refl _), Nat.sub_self]
  rfl
theorem sim_dicl {ks : List Str} {es : Exs} (hs : SimK es) : SimE (.dicl ks es) := by
  intro X W N sc lv g H σ env st e pk Q at_ hm hr h
  cases e <;> try exact no_false hm
  rename_i keys values pos
  obtain ⟨hm, h6⟩ := cond_true hm
  obtain ⟨hm, h5⟩ := cond_true hm
  obtain ⟨hm, h4⟩ := cond_true hm
  obtain ⟨hm, h3⟩ := cond_true hm
  obtain ⟨h1, h2⟩ := cond_true hm
  have h2 : ks.length = values.length := of_decide_eq_true h2
  have h3 : ks.length ≤ 15 := of_decide_eq_true h3
  have h5 : ks.Nodup := of_decide_eq_true h5
  have hk : ∀ {ks : List Str} {keys : List (Option Expr)}, mKeys ks keys = true → keys.all (·.isSome) = true ∧ keys.length = ks.length := by
    intro ks
    induction ks with
    | nil =>
      intro keys h
      cases keys <;> first | exact ⟨rfl, rfl⟩ | exact no_false h
    | cons k ks ih =>
      intro keys h
      cases keys <;> try exact no_false h
      rename_i k' r
      cases k' <;> try exact no_false h
      rename_i k'
      cases k' <;> try exact no_false h
      rename_i c j p
      cases c <;> try exact no_false h
      obtain ⟨_, h2⟩ := cond_true h
      obtain ⟨i1, i2⟩ := ih h2
      exact ⟨by rw [List.all_cons, i1] <;> rfl, by rw [List.length_cons, List.length_cons, i2]⟩
  obtain ⟨k1, k2⟩ := hk h1
  have hne : keys ≠ [] := by
    intro e
    subst e
    cases ks <;> first | exact no_false h4 | cases k2
  refine WE.of (pe_disp (pps_of h1 h2) k1 (k2.trans h2) hne (by omega)) ?_
  intro p hp
  have s0 : Step g H g (upd H p (.dK [])) := .new hp
  have o0 : Ok X.K g (upd H p (.dK [])) st := at_.ok.new hp
  have at0 := at_.on s0 o0
  have h : Post X.K X.mg (WS_ W σ) (relE X.K pk) g H ((evV es env st).bind fun vs st => bif decide (vs.length = ks.length) then .ok ⟨false, .loc st.length⟩ (st ++ [.dic (ks.zip vs)]) else .no) Q := h
  have key : ∀ {ps : List (V × V)} {H1 : Hp}, True := fun {_ _} => trivial
  have q := hs (W := W) ks values (fun us H1 => ∃ g1 st1 xs, Step g (upd H p (.dK [])) g1 H1 ∧ Ok X.K g1 H1 st1 ∧ RVals X.K g1 H1 us xs ∧ ks.length = xs.length ∧
    Post X.K X.mg (WS_ W σ) (relE X.K pk) g H (.ok ⟨false, .loc st1.length⟩ (st1 ++ [.dic (ks.zip xs)])) Q) at0 h6 h2 hr (by
      cases ev : evV es env st with
      | no =>
        rw [ev] at h
        exact h.elim
      | exc c ds st1 =>
        rw [ev] at h
        exact fun g' cls d H' s' o w => h g' cls d H' (s0.trans s') o w
      | ok xs st1 =>
        rw [ev] at h
        obtain ⟨hc, h⟩ := Post.cond (x := .ok (⟨false, .loc st1.length⟩ : RV) (st1 ++ [.dic (ks.zip xs)])) h
        exact fun g1 us H1 s1 o1 r1 => ⟨g1, st1, xs, s1, o1, r1, (of_decide_eq_true hc).symm, h⟩)
  have mono : ∀ {trs : List (TE × TE)} {H : Hp} {Q Q' : List (V × V) → Hp → Prop}, (∀ p ∈ trs, (∃ k, p.1 = tC (.str k)) ∧ ∃ e, p.2 = WE X e) → (∀ ps H, Q ps H → Q' ps H) → tPairs trs σ H Q → tPairs trs σ H Q' := by
    intro trs
    induction trs with
    | nil => exact fun _ w q => w _ _ q
    | cons p r ih =>
      intro H Q Q' m w q
      obtain ⟨⟨k, e1⟩, ⟨e, e2⟩⟩ := m p List.mem_cons_self
      obtain ⟨p1, p2⟩ := p
      simp only at e1 e2
      subst e1 e2
      have q : WE X e σ H (fun y H2 => tPairs r σ H2 fun ps H3 => Q ((V.str k, y) :: ps) H3) := q
      show WE X e σ H (fun y H2 => tPairs r σ H2 fun ps H3 => Q' ((V.str k, y) :: ps) H3)
      exact q.mono fun y H2 q2 => ih (fun p hp => m p (List.mem_cons_of_mem _ hp)) (fun ps H3 q3 => w _ _ q3) q2
  have hm1 : ∀ (ks : List Str) (es : List Expr) p, p ∈ trsOf X ks es → (∃ k, p.1 = tC (.str k)) ∧ ∃ e, p.2 = WE X e := by
    intro ks
    induction ks with
    | nil => intro es p hp; exact (List.not_mem_nil hp).elim
    | cons k ks ih =>
      intro es p hp
      cases es with
      | nil => exact (List.not_mem_nil hp).elim
      | cons e es =>
        rcases List.mem_cons.mp hp with q | q
        · subst q
          exact ⟨⟨k, rfl⟩, ⟨e, rfl⟩⟩
        · exact ih es p q
  refine mono (hm1 ks values) (fun ps H1 q => ?_) q
  obtain ⟨ep, g1, st1, xs, s1, o1, r1, hl, hq⟩ := q
  have ed : H1 p = some (.dK []) := s1.keep _ _ upd_same (at_.ok.notIn hp)
  obtain ⟨f1, f2⟩ := rkv_of ep r1 hl
  have lps : ps.length = ks.length := by
    have := congrArg List.length ep
    rwa [List.length_map, List.length_map] at this
  refine ⟨ed, _, f2, by rw [List.length_map, List.length_zip, List.length_map]; omega, ?_⟩
  have hnd : ((([] : List (Key × V)) ++ (ks.zip (ps.map (·.2))).map fun p => ((Sum.inr p.1 : Key), p.2)).map (·.1)).Nodup := by
    rw [List.nil_append, List.map_map]
    have e : ((fun x : Key × V => x.1) ∘ fun p : Str × V => ((Sum.inr p.1 : Key), p.2)) = (fun x : Str => (Sum.inr x : Key)) ∘ (·.1) := rfl
    rw [e, ← List.map_map, List.map_fst_zip (by rw [List.length_map]; omega)]
    exact List.Pairwise.map _ (fun a b h e => h (Sum.inr.inj e)) h5
  rw [merge_nodup _ _ hnd, List.nil_append]
  have s01 := s0.trans s1
  have nz : ¬ g1.Z p := s1.nz (fun z => at_.ok.zs p z hp) (by rw [upd_same]; exact fun q => by cases q)
  have nr : p ∉ g1.rho := s1.nr (at_.ok.notIn hp) (by rw [upd_same]; exact fun q => by cases q)
  -- the dict is laid
  have hh : Holds g1.Z g1.Z H1 (upd H1 p (.dK ((ks.zip (ps.map (·.2))).map fun p => ((Sum.inr p.1 : Key), p.2)))) := by
    have go : ∀ b w, b ≠ p → Rd H1 b w → Rd (upd H1 p (.dK ((ks.zip (ps.map (·.2))).map fun p => ((Sum.inr p.1 : Key), p.2)))) b w := fun b w n r => by
      rcases r with r | ⟨o, r⟩
      · exact .inl (by rw [upd_ne n]; exact r)
      · exact .inr ⟨o, by rw [upd_ne n]; exact r⟩
    refine ⟨fun b xs r => go b _ (fun e => ?_) r, fun _ h => h, fun b w z r => go b w (fun e => nz (e ▸ z)) r⟩
    subst e
    rcases r with r | ⟨o, r⟩ <;> rw [ed] at r <;> cases r
  have o2 : Ok X.K g1 (upd H1 p (.dK ((ks.zip (ps.map (·.2))).map fun p => ((Sum.inr p.1 : Key), p.2)))) st1 := by
    refine ⟨o1.zr, fun b z e => ?_, o1.len, o1.nd, fun n b c e1 e2 => ?_⟩
    · by_cases hb : b = p
      · exact nz (hb ▸ z)
      · rw [upd_ne hb] at e
        exact o1.zs b z e
    · have q := o1.cell n b c e1 e2
      have nb : b ≠ p := fun e => nr (e ▸ List.mem_of_getElem? e1)
      cases c with
      | lst xs =>
        obtain ⟨vs, e, r⟩ := q
        exact ⟨vs, by rw [upd_ne nb]; exact e, RDs.holds hh r⟩
      | dic kvs =>
        obtain ⟨kv, e, r⟩ := q
        exact ⟨kv, by rw [upd_ne nb]; exact e, r.holds hh⟩
  obtain ⟨s3, o3⟩ := cell_new (c := .dic (ks.zip xs)) (s01.upd_new (u := .dK ((ks.zip (ps.map (·.2))).map fun p => ((Sum.inr p.1 : Key), p.2))) hp) o2 hp ⟨_, upd_same, (f1.holds hh).lift⟩ nz nr
  refine hq _ _ _ s3 o3 (rout_loc ⟨p, ?_, rfl⟩)
  rw [← o1.len, List.getElem?_append_right (Nat.le_refl _), Nat.sub_self]
  rfl
theorem notSuper_ok {e : Expr} {f : Str} {env : PySem.Env} (h : notSuper e = true) : attributeBase e f env (eval e env) = eval e env := by
  cases e <;> first | rfl | exact no_false h
/-- a cell is changed -/
theorem Ok.setCell {K : PySem.W.Frag} {g : G} {H : Hp} {st : Store} {n : Nat} {a : Addr} {u : HO} {c : Cell} (o : Ok K g H st) (hn : g.rho[n]? = Option.some a) (hh : Holds g.Z g.Z H (upd H a u)) (hc : CellIs K g (upd H a u) a c) : Ok K g (upd H a u) (st.set n c) := by
  refine ⟨o.zr, fun b z e => ?_, by rw [List.length_set]; exact o.len, o.nd, fun m b c' e1 e2 => ?_⟩
  · by_cases hb : b = a
    · exact o.zr b z (hb ▸ List.mem_of_getElem? hn)
    · rw [upd_ne hb] at e
      exact o.zs b z e
  · by_cases hm : n = m
    · subst hm
      rw [hn] at e1
      cases e1
      rw [List.getElem?_set_self (by rw [← o.len]; exact (List.getElem?_eq_some_iff.mp hn).1)] at e2
      cases e2
      exact hc
    · rw [List.getElem?_set_ne hm] at e2
      have nb : b ≠ a := fun e => by
        subst e
        exact hm (nodup_at o.nd hn e1)
      have q := o.cell m b c' e1 e2
      cases c' with
      | lst xs =>
        obtain ⟨vs, e, r⟩ := q
        exact ⟨vs, by rw [upd_ne nb]; exact e, RDs.holds hh r⟩
      | dic kvs =>
        obtain ⟨kv, e, r⟩ := q
        exact ⟨kv, by rw [upd_ne nb]; exact e, r.holds hh⟩
where
  nodup_at {l : List Addr} {i j : Nat} {x : Addr} (nd : l.Nodup) (h1 : l[i]? = Option.some x) (h2 : l[j]? = Option.some x) : i = j := by
    obtain ⟨a1, b1⟩ := List.getElem?_eq_some_iff.mp h1
    obtain ⟨a2, b2⟩ := List.getElem?_eq_some_iff.mp h2
    exact (List.getElem_inj nd).mp (b1.trans b2.symm)
/-- .. of a cell's object -/
theorem holds_cell {K : PySem.W.Frag} {g : G} {H : Hp} {st : Store} {a : Addr} {u : HO} (o : Ok K g H st) (ha : a ∈ g.rho) : Holds g.Z g.Z H (upd H a u) := by
  have go : ∀ b w, b ≠ a → Rd H b w → Rd (upd H a u) b w := fun b w n r => by
    rcases r with r | ⟨o, r⟩
    · exact .inl (by rw [upd_ne n]; exact r)
    · exact .inr ⟨o, by rw [upd_ne n]; exact r⟩
  refine ⟨fun b xs r => go b _ (fun e => ?_) r, fun _ h => h, fun b w z r => go b w (fun e => o.zr b z (e ▸ ha)) r⟩
  exact o.rd r ⟨fun ⟨_, q⟩ => (by cases q), fun ⟨_, q⟩ => (by cases q)⟩ (e ▸ ha)
theorem Step.cell {g g1 : G} {H H1 : Hp} {a : Addr} {u : HO} (s : Step g H g1 H1) (ha : a ∈ g1.rho) : Step g H g1 (upd H1 a u) := by
  obtain ⟨m, em, fm⟩ := s.r
  refine ⟨s.z, s.zn, ⟨m, em, fm⟩, fun b o e n => ?_, fun b e => ?_⟩
  · by_cases hb : b = a
    · subst hb
      rw [em] at ha
      rcases List.mem_append.mp ha with q | q
      · exact (n q).elim
      · rw [fm b q] at e
        cases e
    · rw [upd_ne hb]
      exact s.keep b o e n
  · by_cases hb : b = a
    · subst hb
      rw [upd_same] at e
      cases e
    · rw [upd_ne hb] at e
      exact s.gone b e
theorem RDs.last {K : PySem.W.Frag} {Z : Addr → Prop} {H : Hp} {vs : List V} {ds : List D} {d : D} (r : RDs K Z H vs ds) (h : ds.getLast? = some d) : ∃ v, vs[vs.length - 1]? = some v ∧ RD K Z H v d := by
  rw [List.getLast?_eq_getElem?] at h
  rw [r.length]
  exact r.get h
theorem RDs.dropLast {K : PySem.W.Frag} {Z : Addr → Prop} {H : Hp} {vs : List V} {ds : List D} (r : RDs K Z H vs ds) : RDs K Z H vs.dropLast ds.dropLast := by
  rw [List.dropLast_eq_take, List.dropLast_eq_take, r.length]
  exact r.take _
theorem sim_popl {a : Ex} (ha : SimE a) : SimE (.popl a) := by
  intro X W N sc lv g H σ env st e pk Q at_ hm hr h
  cases e <;> try exact no_false hm
  rename_i f args kws pos
  cases f <;> try exact no_false hm
  rename_i a' x ap
  cases args <;> cases kws <;> try exact no_false hm
  obtain ⟨hm, h4⟩ := cond_true hm
  obtain ⟨hm, h3⟩ := cond_true hm
  obtain ⟨h1, h2⟩ := cond_true hm
  have h1 : x = "pop" := of_decide_eq_true h1
  subst h1
  have h2 : ap.endLine = pos.line := of_decide_eq_true h2
  refine WE.of (pe_bm0 PySem.F.plainAttrs_list PySem.F.slot_list_pop PySem.F.type_list_pop mt_pop pe_we (notSuper_ok h3) (by rw [h2]; exact beq_self_eq_true _)) (ha a' false _ at_ h4 hr (Post.bindF based_e h fun x st1 g1 v H1 s1 o1 r1 hq => ?_))
  have h1 := hq g H .refl
  clear hq
  obtain ⟨fr, y⟩ := x
  cases y with
  | dat d => exact h1.elim
  | loc n =>
    have rv : RVal X.K g1 H1 v (.loc n) := by cases fr <;> exact r1
    obtain ⟨p, hp1, rfl⟩ := rv
    have h1 : Post X.K X.mg (WS_ W σ) (relE X.K pk) g H (match st1[n]? with
      | some (.lst xs) => (match xs.getLast? with
        | some d => .ok (plain d) (st1.set n (.lst xs.dropLast))
        | none => .no)
      | _ => .no) Q := h1
    cases hn : st1[n]? with
    | none =>
      rw [hn] at h1
      exact h1.elim
    | some c =>
      rw [hn] at h1
      cases c with
      | dic kvs => exact h1.elim
      | lst xs =>
        obtain ⟨vs, ev, rd⟩ := o1.cell n p _ hp1 hn
        have h1 : Post X.K X.mg (WS_ W σ) (relE X.K pk) g H (match xs.getLast? with
          | some d => .ok (plain d) (st1.set n (.lst xs.dropLast))
          | none => .no) Q := h1
        cases hl : xs.getLast? with
        | none =>
          rw [hl] at h1
          exact h1.elim
        | some d =>
          rw [hl] at h1
          obtain ⟨w, hw, rw1⟩ := rd.last hl
          have hmem := List.mem_of_getElem? hp1
          have hh := holds_cell (u := .lst vs.dropLast) o1 hmem
          refine ⟨.inl ⟨rfl, vs, .inl (.inl ev)⟩, p, vs, w, rfl, rfl, ev, hw, h1 g1 w _ (s1.cell hmem) (o1.setCell hp1 hh ⟨_, upd_same, (RDs.holds hh rd).dropLast⟩) ?_⟩
          have q := RD.holds hh rw1
          cases pk with
          | true => exact .inl q
          | false => exact q
theorem RDs.eraseIdx {K : PySem.W.Frag} {Z : Addr → Prop} {H : Hp} : ∀ {vs : List V} {ds : List D} (r : RDs K Z H vs ds) (k : Nat), RDs K Z H (vs.eraseIdx k) (ds.eraseIdx k)
  | [], _, r, k => by
    cases r
    exact .nil
  | v :: vs, _, r, 0 => by
    cases r
    assumption
  | v :: vs, _, r, k + 1 => by
    cases r with
    | cons h q => exact .cons h (RDs.eraseIdx q k)
theorem rds_rg {K : PySem.W.Frag} {Z : Addr → Prop} {H : Hp} (i j : Int) : RDs K Z H (rgV i j) (rangeUp i j) := by
  unfold rgV rangeUp
  have go : ∀ l : List Nat, RDs K Z H (l.map fun k => V.int (i + (k : Nat))) (l.map fun (k : Nat) => PyData.int (i + k)) := by
    intro l
    induction l with
    | nil => exact .nil
    | cons a l ih => exact .cons (.int _) ih
  exact go _
theorem sim_lrng1 {a : Ex} (ha : SimE a) : SimE (.lrng1 a) := by
  intro X W N sc lv g H σ env st e pk Q at_ hm hr h
  cases e <;> try exact no_false hm
  rename_i f args kws pos
  cases f <;> try exact no_false hm
  rename_i x xp
  rcases args with _ | ⟨e2, _ | ⟨_, _⟩⟩ <;> cases kws <;> try exact no_false hm
  cases e2 <;> try exact no_false hm
  rename_i f2 args2 kws2 pos2
  cases f2 <;> try exact no_false hm
  rename_i y yp
  rcases args2 with _ | ⟨a', _ | ⟨_, _⟩⟩ <;> cases kws2 <;> try exact no_false hm
  obtain ⟨hm, h6⟩ := cond_true hm
  obtain ⟨hm, h5⟩ := cond_true hm
  obtain ⟨hm, h4⟩ := cond_true hm
  obtain ⟨hm, h3⟩ := cond_true hm
  obtain ⟨h1, h2⟩ := cond_true hm
  have h1 : x = "list" := of_decide_eq_true h1
  subst h1
  have h3 : y = "range" := of_decide_eq_true h3
  subst h3
  have z1 : X.mg "list" = none := hr.head
  have z2 : X.mg "range" = none := hr.tail.head
  refine WE.of (pe_listRg at_.c.calm (at_.c.gl h2) z1 (prg_1 (at_.c.gl h4) z2 pe_we (starEach_cons h5))) (ha a' true _ at_ h6 hr.tail.tail (Post.bind based_e h fun x st1 g1 v H1 s1 o1 r1 h1 => ?_))
  obtain ⟨i, ei, h1⟩ := h1.int
  have e1 := (r1.rt ei).int
  subst e1
  obtain ⟨hb, h1⟩ := h1.cond
  simp only [rgB, rngOk, Bool.and_eq_true, decide_eq_true_eq] at hb
  have h1 : Fin X.K pk g1 H1 st1 (fresh (.list (rangeUp 0 i))) Q := h1
  exact ⟨i, rfl, ⟨hb.1.1.1, hb.1.1.2, hb.1.2.1, hb.1.2.2, hb.2⟩, fun p n => h1.lst o1 (rds_rg 0 i) n⟩
theorem sim_lrng2 {a b : Ex} (ha : SimE a) (hb : SimE b) : SimE (.lrng2 a b) := by
  intro X W N sc lv g H σ env st e pk Q at_ hm hr h
  cases e <;> try exact no_false hm
  rename_i f args kws pos
  cases f <;> try exact no_false hm
  rename_i x xp
  rcases args with _ | ⟨e2, _ | ⟨_, _⟩⟩ <;> cases kws <;> try exact no_false hm
  cases e2 <;> try exact no_false hm
  rename_i f2 args2 kws2 pos2
  cases f2 <;> try exact no_false hm
  rename_i y yp
  rcases args2 with _ | ⟨a', _ | ⟨b', _ | ⟨_, _⟩⟩⟩ <;> cases kws2 <;> try exact no_false hm
  obtain ⟨hm, h8⟩ := cond_true hm
  obtain ⟨hm, h7⟩ := cond_true hm
  obtain ⟨hm, h6⟩ := cond_true hm
  obtain ⟨hm, h5⟩ := cond_true hm
  obtain ⟨hm, h4⟩ := cond_true hm
  obtain ⟨hm, h3⟩ := cond_true hm
  obtain ⟨h1, h2⟩ := cond_true hm
  have h1 : x = "list" := of_decide_eq_true h1
  subst h1
  have h3 : y = "range" := of_decide_eq_true h3
  subst h3
  have z1 : X.mg "list" = none := hr.head
  have z2 : X.mg "range" = none := hr.tail.head
  refine WE.of (pe_listRg at_.c.calm (at_.c.gl h2) z1 (prg_2 (at_.c.gl h4) z2 pe_we pe_we (starEach_cons h5) (starEach_cons h7) (by rw [starEach_cons h7]; rfl))) (ha a' true _ at_ h6 hr.tail.tail.left (Post.bind based_e h fun x st1 g1 v H1 s1 o1 r1 h1 => ?_))
  obtain ⟨i, ei, h1⟩ := h1.int
  have e1 := (r1.rt ei).int
  subst e1
  refine hb b' true _ (at_.on s1 o1) h8 hr.tail.tail.right (Post.bind based_e h1 fun y st2 g2 v2 H2 s2 o2 r2 h2 => ?_)
  obtain ⟨j, ej, h2⟩ := h2.int
  have e2 := (r2.rt ej).int
  subst e2
  obtain ⟨hb, h2⟩ := h2.cond
  simp only [rgB, rngOk, Bool.and_eq_true, decide_eq_true_eq] at hb
  have h2 : Fin X.K pk g2 H2 st2 (fresh (.list (rangeUp i j))) Q := h2
  exact ⟨i, j, rfl, rfl, ⟨hb.1.1.1, hb.1.1.2, hb.1.2.1, hb.1.2.2, hb.2⟩, fun p n => h2.lst o2 (rds_rg i j) n⟩
theorem sim_cntL {a k : Ex} (ha : SimE a) (hk : SimE k) : SimE (.cntL a k) := by
  intro X W N sc lv g H σ env st e pk Q at_ hm hr h
  cases e <;> try exact no_false hm
  rename_i f args kws pos
  cases f <;> try exact no_false hm
  rename_i a' x ap
  rcases args with _ | ⟨k', _ | ⟨_, _⟩⟩ <;> cases kws <;> try exact no_false hm
  obtain ⟨hm, h6⟩ := cond_true hm
  obtain ⟨hm, h5⟩ := cond_true hm
  obtain ⟨hm, h4⟩ := cond_true hm
  obtain ⟨hm, h3⟩ := cond_true hm
  obtain ⟨h1, h2⟩ := cond_true hm
  have h1 : x = "count" := of_decide_eq_true h1
  subst h1
  have h2 : ap.endLine = pos.line := of_decide_eq_true h2
  refine WE.of (pe_bm PySem.F.plainAttrs_list PySem.F.slot_list_count PySem.F.type_list_count mt_lcount pe_we (pa_cons pe_we pa_nil (starEach_cons h4)) (notSuper_ok h3) (by rw [starEach_cons h4]; rfl) (by rw [h2]; exact beq_self_eq_true _) (starEach_cons h4) (by rfl)) (ha a' true _ at_ h5 hr.left (Post.bind based_e h fun x st1 g1 v H1 s1 o1 r1 h1 => ?_))
  obtain ⟨d, ed, h1⟩ := h1.dat
  obtain ⟨xs, exs, h1⟩ := h1.opt
  have rt := r1.rt ed
  obtain ⟨ds, rfl⟩ : ∃ ds, d = .list ds := by cases d <;> simp only [listOf] at exs <;> first | exact ⟨_, rfl⟩ | cases exs
  have exs : xs = ds := by simp only [listOf] at exs; exact (Option.some.inj exs).symm
  subst exs
  obtain ⟨p, vs, rfl, sq, rd⟩ := rt.list
  refine ⟨.inl ⟨rfl, vs, sq⟩, ?_⟩
  refine hk k' true _ (at_.on s1 o1) h6 hr.right (Post.bind based_e h1 fun y st2 g2 v2 H2 s2 o2 r2 h2 => ?_)
  obtain ⟨i, ei, h2⟩ := h2.int
  have e2 := (r2.rt ei).int
  subst e2
  cases hb : intsOf xs with
  | none =>
    rw [hb] at h2
    exact h2.elim
  | some is =>
    rw [hb] at h2
    have h2 : Fin X.K pk g2 H2 st2 (MP.plain (.int (is.count i : Nat))) Q := h2
    obtain ⟨p', vs', e3, sq2, rd2⟩ := (rt.step s2 o1).list
    cases e3
    have := rd2.ints hb
    subst this
    exact ⟨p, is, i, rfl, rfl, sq2, h2.plain o2 (.int _)⟩
theorem sim_popi {a k : Ex} (ha : SimE a) (hk : SimE k) : SimE (.popi a k) := by
  intro X W N sc lv g H σ env st e pk Q at_ hm hr h
  cases e <;> try exact no_false hm
  rename_i f args kws pos
  cases f <;> try exact no_false hm
  rename_i a' x ap
  rcases args with _ | ⟨k', _ | ⟨_, _⟩⟩ <;> cases kws <;> try exact no_false hm
  obtain ⟨hm, h6⟩ := cond_true hm
  obtain ⟨hm, h5⟩ := cond_true hm
  obtain ⟨hm, h4⟩ := cond_true hm
  obtain ⟨hm, h3⟩ := cond_true hm
  obtain ⟨h1, h2⟩ := cond_true hm
  have h1 : x = "pop" := of_decide_eq_true h1
  subst h1
  have h2 : ap.endLine = pos.line := of_decide_eq_true h2
  refine WE.of (pe_bm PySem.F.plainAttrs_list PySem.F.slot_list_pop PySem.F.type_list_pop mt_popAt pe_we (pa_cons pe_we pa_nil (starEach_cons h4)) (notSuper_ok h3) (by rw [starEach_cons h4]; rfl) (by rw [h2]; exact beq_self_eq_true _) (starEach_cons h4) (by rfl)) (ha a' false _ at_ h5 hr.left (Post.bind based_e h fun x st1 g1 v H1 s1 o1 r1 h1 => ?_))
  obtain ⟨fr, y⟩ := x
  cases y with
  | dat d => exact h1.elim
  | loc n =>
    have rv : RVal X.K g1 H1 v (.loc n) := by cases fr <;> exact r1
    obtain ⟨p, hp1, rfl⟩ := rv
    cases hn : st1[n]? with
    | none =>
      have h1 : Post X.K X.mg (WS_ W σ) (relE X.K pk) g1 H1 (match st1[n]? with
        | some (.lst _) => _
        | _ => .no) Q := h1
      rw [hn] at h1
      exact h1.elim
    | some c =>
      have h1 : Post X.K X.mg (WS_ W σ) (relE X.K pk) g1 H1 (match st1[n]? with
        | some (.lst _) => _
        | _ => .no) Q := h1
      rw [hn] at h1
      cases c with
      | dic kvs => exact h1.elim
      | lst xs0 =>
        obtain ⟨vs0, ev0, rd0⟩ := o1.cell n p _ hp1 hn
        refine ⟨.inl ⟨rfl, vs0, .inl (.inl ev0)⟩, ?_⟩
        refine hk k' true _ (at_.on s1 o1) h6 hr.right (Post.bind based_e h1 fun y st2 g2 v2 H2 s2 o2 r2 h2 => ?_)
        obtain ⟨i, ei, h2⟩ := h2.int
        have e2 := (r2.rt ei).int
        subst e2
        obtain ⟨more, em, _⟩ := s2.r
        have hp2 : g2.rho[n]? = some p := by
          rw [em]
          rw [List.getElem?_append_left (List.getElem?_eq_some_iff.mp hp1).1]
          exact hp1
        cases hn2 : st2[n]? with
        | none =>
          rw [hn2] at h2
          exact h2.elim
        | some c2 =>
          rw [hn2] at h2
          cases c2 with
          | dic kvs => exact h2.elim
          | lst xs =>
            obtain ⟨hb, h2⟩ := h2.cond
            have hb : xs.length < 2 ^ 60 := of_decide_eq_true hb
            obtain ⟨vs, ev, rd⟩ := o2.cell n p _ hp2 hn2
            cases hj : L2.ixN xs.length i with
            | none =>
              rw [hj] at h2
              exact h2.elim
            | some j =>
              rw [hj] at h2
              cases hd : xs[j]? with
              | none =>
                have h2 : Post X.K X.mg (WS_ W σ) (relE X.K pk) g2 H2 (match xs[j]? with
                  | some d => .ok (plain d) (st2.set n (.lst (xs.eraseIdx j)))
                  | none => .no) Q := h2
                rw [hd] at h2
                exact h2.elim
              | some d =>
                have h2 : Post X.K X.mg (WS_ W σ) (relE X.K pk) g2 H2 (match xs[j]? with
                  | some d => .ok (plain d) (st2.set n (.lst (xs.eraseIdx j)))
                  | none => .no) Q := h2
                rw [hd] at h2
                obtain ⟨w, hw, rw1⟩ := rd.get hd
                have hlen := rd.length
                obtain ⟨q1, q2, q3, q4⟩ := L2.ixN_seq hj
                have hmem := List.mem_of_getElem? hp2
                have hh := holds_cell (u := .lst (vs.eraseIdx j)) o2 hmem
                refine ⟨p, vs, i, j, w, rfl, rfl, ev, by omega, by omega, by rw [hlen]; exact q1, hw, ?_⟩
                refine h2 g2 w _ (Step.refl.cell hmem) (o2.setCell hp2 hh ⟨_, upd_same, (RDs.holds hh rd).eraseIdx j⟩) ?_
                have q := RD.holds hh rw1
                cases pk with
                | true => exact .inl q
                | false => exact q
theorem dic2_shape {a x b y : Int} {o : Expr} (h : dic2 a x b y o = true) : ∃ j1 p1 j2 p2 j3 p3 j4 p4 pd, o = .Dict [some (.Constant (.int a) j1 p1), some (.Constant (.int b) j2 p2)] [.Constant (.int x) j3 p3, .Constant (.int y) j4 p4] pd := by
  unfold dic2 at h
  split at h
  · simp only [Bool.and_eq_true, decide_eq_true_eq] at h
    obtain ⟨⟨⟨rfl, rfl⟩, rfl⟩, rfl⟩ := h
    exact ⟨_, _, _, _, _, _, _, _, _, rfl⟩
  · cases h
theorem cstI_shape {d : Int} {e : Expr} (h : cstI d e = true) : ∃ j p, e = .Constant (.int d) j p := by
  unfold cstI at h
  split at h
  · cases of_decide_eq_true h
    exact ⟨_, _, rfl⟩
  · cases h
theorem sim_get2 {a x b y d : Int} {k : Ex} (hk : SimE k) : SimE (.get2 a x b y d k) := by
  intro X W N sc lv g H σ env st e pk Q at_ hm hr h
  cases e <;> try exact no_false hm
  rename_i f args kws pos
  cases f <;> try exact no_false hm
  rename_i o m ap
  rcases args with _ | ⟨k', _ | ⟨e', _ | ⟨_, _⟩⟩⟩ <;> cases kws <;> try exact no_false hm
  obtain ⟨hm, h7⟩ := cond_true hm
  obtain ⟨hm, h6⟩ := cond_true hm
  obtain ⟨hm, h5⟩ := cond_true hm
  obtain ⟨hm, h4⟩ := cond_true hm
  obtain ⟨hm, h3⟩ := cond_true hm
  obtain ⟨h1, h2⟩ := cond_true hm
  have h1 : m = "get" := of_decide_eq_true h1
  subst h1
  have h2 : ap.endLine = pos.line := of_decide_eq_true h2
  have h4 : a ≠ b := of_decide_eq_true h4
  obtain ⟨j1, p1, j2, p2, j3, p3, j4, p4, pd, rfl⟩ := dic2_shape h3
  obtain ⟨j5, p5, rfl⟩ := cstI_shape h6
  have hu : X.A.units + 1 < cLine := by
    have := room_u at_.c.room
    omega
  refine WE.of (pe_dget2 hu (pe_disp (pps_cons pe_int pe_int (pps_cons pe_int pe_int pps_nil)) rfl rfl (by simp) (by simp)) pe_we pe_int ⟨rfl, by rw [starEach_cons h5]; rfl, by rw [h2]; exact beq_self_eq_true _, by rw [starEach_cons h5]; rfl⟩) ?_
  intro p hp
  have hnd : ((([] : List (Key × V)) ++ [((Sum.inl a : Key), V.int x), (Sum.inl b, V.int y)]).map (·.1)).Nodup := by
    simp [h4]
  refine ⟨upd_same, [(Sum.inl a, .int x), (Sum.inl b, .int y)], rfl, by simp, ?_⟩
  rw [merge_nodup _ _ hnd, List.nil_append, upd_upd]
  have s0 : Step g H g (upd H p (.dK [((Sum.inl a : Key), V.int x), (Sum.inl b, V.int y)])) := .new hp
  have o0 : Ok X.K g (upd H p (.dK [((Sum.inl a : Key), V.int x), (Sum.inl b, V.int y)])) st := at_.ok.new hp
  refine ⟨p, rfl, .inl ⟨_, .inl upd_same⟩, ?_⟩
  refine hk k' true _ (at_.on s0 o0) h7 hr ?_
  have h : Post X.K X.mg (WS_ W σ) (relE X.K pk) g H ((evE k true env st).bind fun z st => (intOf z st).bind fun i st => .ok (plain (.int (bif decide (a = i) then x else bif decide (b = i) then y else d))) st) Q := h
  cases ev : evE k true env st with
  | no =>
    rw [ev] at h
    exact h.elim
  | exc c ds st1 =>
    rw [ev] at h
    exact fun g' cls d H' s' o w => h g' cls d H' (s0.trans s') o w
  | ok z st1 =>
    rw [ev] at h
    have h : Post X.K X.mg (WS_ W σ) (relE X.K pk) g H ((intOf z st1).bind fun i st => .ok (plain (.int (bif decide (a = i) then x else bif decide (b = i) then y else d))) st) Q := h
    obtain ⟨i, ei, h⟩ := h.int
    intro g1 v H2 s1 o1 r1
    have e2 := (r1.rt ei).int
    subst e2
    have ed : H2 p = some (.dK [((Sum.inl a : Key), V.int x), (Sum.inl b, V.int y)]) := s1.keep _ _ upd_same (at_.ok.notIn hp)
    refine ⟨_, DGet.k (k := Sum.inl i) ed, ?_⟩
    have q := h g1 (.int (bif decide (a = i) then x else bif decide (b = i) then y else d)) H2 (s0.trans s1) o1 (by
      cases pk with
      | true => exact .inl (.int _)
      | false => exact .int _)
    have ev2 : (valV [((Sum.inl a : Key), V.int x), (Sum.inl b, V.int y)] (Sum.inl i)).getD (.int d) = .int (bif decide (a = i) then x else bif decide (b = i) then y else d) := by
      unfold valV
      by_cases q1 : a = i
      · simp [q1]
      · by_cases q2 : b = i
        · simp [q1, q2]
        · simp [q1, q2]
    rw [ev2]
    exact q
/-! ### dicts by whole numbers -/
theorem RKs.get {K : PySem.W.Frag} {Z : Addr → Prop} {H : Hp} {n : Int} : ∀ {kv : List (Key × V)} {ds : List (MP.D × MP.D)}, RKs K Z H kv ds → (dGetI ds n = none → valV kv (.inl n) = none) ∧ ∀ d, dGetI ds n = some d → ∃ v, valV kv (.inl n) = some v ∧ RD K Z H v d
  | _, _, .nil => ⟨fun _ => rfl, fun d h => by cases h⟩
  | _, _, .cons (k := k) (v := v) r t => by
    obtain ⟨t1, t2⟩ := t.get (n := n)
    cases k with
    | inl j =>
      by_cases e : j = n
      · subst e
        have e1 : ∀ (d : MP.D) (ds : List (MP.D × MP.D)), dGetI ((keyD (.inl j), d) :: ds) j = some d := fun d ds => by
          show (bif decide (j = j) then some d else dGetI ds j) = some d
          simp
        exact ⟨fun h => (by rw [e1] at h; cases h), fun d h => ⟨v, valV_pos rfl, (by rw [e1] at h; cases h; exact r)⟩⟩
      · have e1 : ∀ (d : MP.D) (ds : List (MP.D × MP.D)), dGetI ((keyD (.inl j), d) :: ds) n = dGetI ds n := fun d ds => by
          show (bif decide (j = n) then some d else dGetI ds n) = dGetI ds n
          simp [e]
        have e2 : ¬ ((Sum.inl j : Key), v).1 = .inl n := fun h => e (Sum.inl.inj h)
        rw [e1, valV_neg e2]
        exact ⟨t1, t2⟩
    | inr x =>
      have e1 : ∀ (d : MP.D) (ds : List (MP.D × MP.D)), dGetI ((keyD (.inr x), d) :: ds) n = dGetI ds n := fun d ds => rfl
      have e2 : ¬ ((Sum.inr x : Key), v).1 = .inl n := fun h => by cases h
      rw [e1, valV_neg e2]
      exact ⟨t1, t2⟩
theorem RKs.any {K : PySem.W.Frag} {Z : Addr → Prop} {H : Hp} {n : Int} {kv : List (Key × V)} {ds : List (MP.D × MP.D)} (r : RKs K Z H kv ds) : (valV kv (.inl n)).isSome = (dGetI ds n).isSome := by
  obtain ⟨h1, h2⟩ := r.get (n := n)
  cases e : dGetI ds n with
  | none => rw [h1 e]; rfl
  | some d =>
    obtain ⟨v, e2, _⟩ := h2 d e
    rw [e2]
    rfl
theorem RKs.length {K : PySem.W.Frag} {Z : Addr → Prop} {H : Hp} : ∀ {kv : List (Key × V)} {ds : List (MP.D × MP.D)}, RKs K Z H kv ds → kv.length = ds.length
  | _, _, .nil => rfl
  | _, _, .cons _ t => congrArg Nat.succ t.length
theorem RKs.append {K : PySem.W.Frag} {Z : Addr → Prop} {H : Hp} : ∀ {kv kw : List (Key × V)} {ds es : List (MP.D × MP.D)}, RKs K Z H kv ds → RKs K Z H kw es → RKs K Z H (kv ++ kw) (ds ++ es)
  | _, _, _, _, .nil, q => q
  | _, _, _, _, .cons r t, q => .cons r (t.append q)
theorem RKs.map {K : PySem.W.Frag} {Z : Addr → Prop} {H : Hp} {n : Int} {w : V} {e : MP.D} (q : RD K Z H w e) : ∀ {kv : List (Key × V)} {ds : List (MP.D × MP.D)}, RKs K Z H kv ds →
    RKs K Z H (kv.map fun kv => if kv.1 = .inl n then (kv.1, w) else kv) (ds.map fun p => bif isKeyI n p.1 then (p.1, e) else p)
  | _, _, .nil => .nil
  | _, _, .cons (k := k) (v := v) (d := d) r t => by
    have ih := RKs.map (n := n) q t
    cases k with
    | inl j =>
      by_cases h : j = n
      · subst h
        have e1 : isKeyI j (keyD (.inl j)) = true := by
          show decide (j = j) = true
          simp
        simp only [List.map_cons, e1, cond_true, if_true]
        exact .cons q ih
      · have e1 : isKeyI n (keyD (.inl j)) = false := by
          show decide (j = n) = false
          simp [h]
        have e2 : ¬ (Sum.inl j : Key) = .inl n := fun z => h (Sum.inl.inj z)
        simp only [List.map_cons, e1, cond_false, if_neg e2]
        exact .cons r ih
    | inr x =>
      have e1 : isKeyI n (keyD (.inr x)) = false := rfl
      have e2 : ¬ (Sum.inr x : Key) = .inl n := fun z => by cases z
      simp only [List.map_cons, e1, cond_false, if_neg e2]
      exact .cons r ih
theorem RKs.put {K : PySem.W.Frag} {Z : Addr → Prop} {H : Hp} {n : Int} {w : V} {e : MP.D} (q : RD K Z H w e) {kv : List (Key × V)} {ds : List (MP.D × MP.D)} (r : RKs K Z H kv ds) : RKs K Z H (putK kv (.inl n) w) (dPutI ds n e) := by
  unfold putK dPutI
  rw [valV_any, r.any]
  cases h : (dGetI ds n).isSome with
  | true =>
    rw [if_pos rfl]
    exact r.map q
  | false =>
    rw [if_neg Bool.false_ne_true]
    exact r.append (.cons (k := .inl n) q .nil)
theorem RKs.keys {K : PySem.W.Frag} {Z : Addr → Prop} {H : Hp} : ∀ {kv : List (Key × V)} {ds : List (MP.D × MP.D)} {ks : List Int}, RKs K Z H kv ds → dKeysI ds = some ks → kv.map (·.1) = ks.map Sum.inl
  | _, _, _, .nil, h => by
    cases h
    rfl
  | _, _, ks, .cons (k := k) (v := v) (ds := ds) r t, h => by
    cases k with
    | inl j =>
      have h : (dKeysI ds).map (j :: ·) = some ks := h
      cases e : dKeysI ds with
      | none =>
        rw [e] at h
        cases h
      | some ks' =>
        rw [e] at h
        cases h
        simp only [List.map_cons]
        rw [t.keys e]
    | inr x => cases h
theorem at_slot {X : Cx} {W : WX} {N : List Str} {sc : Scope} {lv : Nat} {g : G} {H : Hp} {σ : L2.St} {env : Env} {st : Store} {i : Nat} {xs : List (MP.D × MP.D)} (at_ : At X W N sc lv g H σ env st) (hs : env[i]? = some (.own (.dict xs))) :
    ∃ a vs, σ[i]? = some (some (.ref a)) ∧ H a = some (.dK vs) ∧ RKs X.K g.Z H vs xs ∧ ¬ g.Z a ∧ a ∉ g.rho := by
  obtain ⟨x, ex, so⟩ := at_.en.slot hs
  obtain ⟨a, rfl, vs, e, r, z, n⟩ := so
  exact ⟨a, vs, ex, e, r, z, n⟩
theorem sim_dicn : SimE .dicn := by
  intro X W N sc lv g H σ env st e pk Q a hm hr h
  cases e <;> try exact no_false hm
  rename_i keys values pos
  obtain ⟨h1, h2⟩ := cond_true hm
  cases keys with
  | cons _ _ => cases h1
  | nil =>
    cases values with
    | cons _ _ => cases h2
    | nil =>
      refine WE.of pe_dnewK fun p n => h g (.ref p) _ (.new n) (a.ok.new n) ⟨p, rfl, n, [], upd_same, .nil, fun z => a.ok.zs p z n, a.ok.notIn n⟩
theorem dhas_sh {neg : Bool} {k : Ex} {i : Nat} {N : List Str} {sc : Scope} {e : Expr} (hm : mE N (.dhas neg k i) sc e = true) : ∃ k' x px pos, e = .Compare k' [bif neg then .NotIn else .In] [.Name x px] pos ∧ mE N k sc k' = true ∧ N[i]? = some x ∧ isVis sc x = true ∧ okName x = true := by
  cases e <;> try exact no_false hm
  rename_i k' os bs pos
  rcases os with _ | ⟨o', _ | ⟨_, _⟩⟩ <;> try exact no_false hm
  rcases bs with _ | ⟨b', br⟩ <;> try exact no_false hm
  cases b' <;> try exact no_false hm
  cases br <;> try exact no_false hm
  rename_i x px
  obtain ⟨hm, h5⟩ := cond_true hm
  obtain ⟨hm, h4⟩ := cond_true hm
  obtain ⟨hm, h3⟩ := cond_true hm
  obtain ⟨h1, h2⟩ := cond_true hm
  have h1 : o' = bif neg then .NotIn else .In := of_decide_eq_true h1
  subst h1
  exact ⟨k', x, px, pos, rfl, h2, of_decide_eq_true h3, h4, h5⟩
theorem dhas_ev {neg : Bool} {k : Ex} {i : Nat} {env : Env} {st : Store} {pk : Bool} : evE (.dhas neg k i) pk env st = (evE k true env st).bind fun z st => (intOf z st).bind fun n st => (match env[i]? with
    | some (.own (.dict kvs)) => .ok (plain (.bool (bif neg then !(dGetI kvs n).isSome else (dGetI kvs n).isSome))) st
    | _ => .no) := rfl
theorem sim_dhas {neg : Bool} {k : Ex} {i : Nat} (hk : SimE k) : SimE (.dhas neg k i) := by
  intro X W N sc lv g H σ env st e pk Q at_ hm hr h
  obtain ⟨k', x, px, pos, rfl, h2, h3, h4, h5⟩ := dhas_sh hm
  have hd := okName_debug h5
  have hu : X.A.units + 1 < cLine := by
    have := room_u at_.c.room
    omega
  rw [dhas_ev] at h
  have pv := pe_var (pos := px) (by rw [at_.c.eN]; exact h3) (at_.c.vis h4) hd.1 hd.2.1
  cases neg with
  | true =>
    refine WE.of (pe_cmp (pc_dnotin hu pe_we pv) (by rfl)) (hk k' true _ at_ h2 hr (h.bind based_e fun z st1 g1 v H1 s1 o1 r1 h1 => ?_))
    obtain ⟨n, en, h1⟩ := h1.int
    have ew := (r1.rt en).int
    subst ew
    cases hs : env[i]? with
    | none => rw [hs] at h1; exact h1.elim
    | some sl =>
      rw [hs] at h1
      cases sl <;> try exact h1.elim
      rename_i dd
      cases dd <;> try exact h1.elim
      rename_i kvs
      obtain ⟨a, vs, ex, ea, rd, _, _⟩ := at_slot (at_.on s1 o1) hs
      refine ⟨.ref a, ex, a, _, rfl, DGet.k (k := .inl n) ea, ?_⟩
      rw [rd.any]
      have h1 : Fin X.K pk g1 H1 st1 (plain (.bool (!(dGetI kvs n).isSome))) Q := h1
      exact h1.plain o1 (.bool _)
  | false =>
    refine WE.of (pe_cmp (pc_din hu pe_we pv) (by rfl)) (hk k' true _ at_ h2 hr (h.bind based_e fun z st1 g1 v H1 s1 o1 r1 h1 => ?_))
    obtain ⟨n, en, h1⟩ := h1.int
    have ew := (r1.rt en).int
    subst ew
    cases hs : env[i]? with
    | none => rw [hs] at h1; exact h1.elim
    | some sl =>
      rw [hs] at h1
      cases sl <;> try exact h1.elim
      rename_i dd
      cases dd <;> try exact h1.elim
      rename_i kvs
      obtain ⟨a, vs, ex, ea, rd, _, _⟩ := at_slot (at_.on s1 o1) hs
      refine ⟨.ref a, ex, a, _, rfl, DGet.k (k := .inl n) ea, ?_⟩
      rw [rd.any]
      have h1 : Fin X.K pk g1 H1 st1 (plain (.bool ((dGetI kvs n).isSome))) Q := h1
      exact h1.plain o1 (.bool _)
theorem dhas_evT {neg : Bool} {k : Ex} {i : Nat} {env : Env} {st : Store} : ((evE (.dhas neg k i) true env st).bind fun x st => boolOf x st) = (evE k true env st).bind fun z st => (intOf z st).bind fun n st => (match env[i]? with
    | some (.own (.dict kvs)) => .ok (bif neg then !(dGetI kvs n).isSome else (dGetI kvs n).isSome) st
    | _ => .no) := by
  rw [dhas_ev]
  cases evE k true env st <;> try rfl
  rename_i z s1
  show ((intOf z s1).bind _).bind _ = (intOf z s1).bind _
  cases intOf z s1 <;> try rfl
  rename_i n s1
  show R.bind (match env[i]? with | some (.own (.dict kvs)) => _ | _ => _) _ = _
  cases env[i]? <;> try rfl
  rename_i sl
  cases sl <;> try rfl
  rename_i d
  cases d <;> rfl
theorem simT_dhas {neg : Bool} {k : Ex} {i : Nat} (hk : SimE k) : SimT (.dhas neg k i) := by
  intro X W N sc lv g H σ env st e Q at_ hm hr h
  obtain ⟨k', x, px, pos, rfl, h2, h3, h4, h5⟩ := dhas_sh hm
  refine ⟨?_, notBool fun _ _ _ q => by cases q⟩
  have hd := okName_debug h5
  have hu : X.A.units + 1 < cLine := by
    have := room_u at_.c.room
    omega
  rw [dhas_evT] at h
  have pv := pe_var (pos := px) (by rw [at_.c.eN]; exact h3) (at_.c.vis h4) hd.1 hd.2.1
  cases neg with
  | true =>
    refine WT.of (pt_cmp (pc_dnotin hu pe_we pv) (by rfl)) (hk k' true _ at_ h2 hr (h.bind based_eq fun z st1 g1 v H1 s1 o1 r1 h1 => ?_))
    obtain ⟨n, en, h1⟩ := h1.int
    have ew := (r1.rt en).int
    subst ew
    cases hs : env[i]? with
    | none => rw [hs] at h1; exact h1.elim
    | some sl =>
      rw [hs] at h1
      cases sl <;> try exact h1.elim
      rename_i dd
      cases dd <;> try exact h1.elim
      rename_i kvs
      obtain ⟨a, vs, ex, ea, rd, _, _⟩ := at_slot (at_.on s1 o1) hs
      refine ⟨.ref a, ex, a, _, rfl, DGet.k (k := .inl n) ea, ?_⟩
      rw [rd.any]
      exact ⟨_, rfl, h1 g1 _ H1 .refl o1 rfl⟩
  | false =>
    refine WT.of (pt_cmp (pc_din hu pe_we pv) (by rfl)) (hk k' true _ at_ h2 hr (h.bind based_eq fun z st1 g1 v H1 s1 o1 r1 h1 => ?_))
    obtain ⟨n, en, h1⟩ := h1.int
    have ew := (r1.rt en).int
    subst ew
    cases hs : env[i]? with
    | none => rw [hs] at h1; exact h1.elim
    | some sl =>
      rw [hs] at h1
      cases sl <;> try exact h1.elim
      rename_i dd
      cases dd <;> try exact h1.elim
      rename_i kvs
      obtain ⟨a, vs, ex, ea, rd, _, _⟩ := at_slot (at_.on s1 o1) hs
      refine ⟨.ref a, ex, a, _, rfl, DGet.k (k := .inl n) ea, ?_⟩
      rw [rd.any]
      exact ⟨_, rfl, h1 g1 _ H1 .refl o1 rfl⟩
theorem sim_dget {i : Nat} {k : Ex} (hk : SimE k) : SimE (.dget i k) := by
  intro X W N sc lv g H σ env st e pk Q at_ hm hr h
  cases e <;> try exact no_false hm
  rename_i o k' pos
  cases o <;> try exact no_false hm
  rename_i x px
  obtain ⟨hm, h5⟩ := cond_true hm
  obtain ⟨hm, h4⟩ := cond_true hm
  obtain ⟨hm, h3⟩ := cond_true hm
  obtain ⟨h1, h2⟩ := cond_true hm
  have h3 : N[i]? = some x := of_decide_eq_true h3
  have hd := okName_debug h5
  have hp := plainIx_ok h1
  have hu : X.A.units + 1 < cLine := by
    have := room_u at_.c.room
    omega
  have pv := pe_var (pos := px) (by rw [at_.c.eN]; exact h3) (at_.c.vis h4) hd.1 hd.2.1
  refine WE.of (pe_dget hu pv pe_we hp.2) ?_
  have h : Post X.K X.mg (WS_ W σ) (relE X.K pk) g H (match env[i]? with
    | some (.own (.dict kvs)) => (evE k true env st).bind fun z st => (intOf z st).bind fun n st => (match dGetI kvs n with
      | some d => .ok (plain d) st
      | none => .no)
    | _ => .no) Q := h
  cases hs : env[i]? with
  | none => rw [hs] at h; exact h.elim
  | some sl =>
    rw [hs] at h
    cases sl <;> try exact h.elim
    rename_i dd
    cases dd <;> try exact h.elim
    rename_i kvs
    have h : Post X.K X.mg (WS_ W σ) (relE X.K pk) g H ((evE k true env st).bind fun z st => (intOf z st).bind fun n st => (match dGetI kvs n with
      | some d => .ok (plain d) st
      | none => .no)) Q := h
    obtain ⟨a, vs, ex, _, _, _, _⟩ := at_slot at_ hs
    refine ⟨.ref a, ex, hk k' true _ at_ h2 hr (h.bind based_e fun z st1 g1 v H1 s1 o1 r1 h1 => ?_)⟩
    obtain ⟨n, en, h1⟩ := h1.int
    have ew := (r1.rt en).int
    subst ew
    obtain ⟨a', vs', ex', ea, rd, _, _⟩ := at_slot (at_.on s1 o1) hs
    rw [ex] at ex'
    cases ex'
    obtain ⟨_, q⟩ := rd.get (n := n)
    cases hg : dGetI kvs n with
    | none => rw [hg] at h1; exact h1.elim
    | some d =>
      rw [hg] at h1
      obtain ⟨w, e1, rw1⟩ := q d hg
      have h1 : Fin X.K pk g1 H1 st1 (plain d) Q := h1
      refine ⟨a, w, rfl, ?_, h1.plain o1 rw1⟩
      have q := DGet.k (k := .inl n) ea
      rw [e1] at q
      exact q
theorem perm_sorted {ys ks : List Int} (h1 : ys.Perm ks) (h2 : ys.Pairwise (· ≤ ·)) : ys = ks.mergeSort fun a b => decide (a ≤ b) := by
  have h3 : (ks.mergeSort fun a b => decide (a ≤ b)).Pairwise (· ≤ ·) := by
    have := List.pairwise_mergeSort (le := fun (a b : Int) => decide (a ≤ b)) (fun a b c => by simp; omega) (fun a b => by simp; omega) ks
    exact this.imp fun h => by simpa using h
  exact List.Perm.eq_of_pairwise (le := fun (a b : Int) => a ≤ b) (fun a b _ _ h1 h2 => by omega) h2 h3 (h1.trans (List.mergeSort_perm ks _).symm)
theorem sim_dsort {i : Nat} : SimE (.dsort i) := by
  intro X W N sc lv g H σ env st e pk Q at_ hm hr h
  cases e <;> try exact no_false hm
  rename_i f args kws pos
  cases f <;> try exact no_false hm
  rename_i y p
  rcases args with _ | ⟨a', ar⟩ <;> try exact no_false hm
  · cases a' <;> try exact no_false hm
    cases ar <;> try exact no_false hm
    rename_i x px
    cases kws with
    | cons _ _ => exact no_false hm
    | nil =>
      obtain ⟨hm, h5⟩ := cond_true hm
      obtain ⟨hm, h4⟩ := cond_true hm
      obtain ⟨hm, h3⟩ := cond_true hm
      obtain ⟨h1, h2⟩ := cond_true hm
      have h1 : y = "sorted" := of_decide_eq_true h1
      subst h1
      have h3 : N[i]? = some x := of_decide_eq_true h3
      have hd := okName_debug h5
      have pv := pe_var (pos := px) (by rw [at_.c.eN]; exact h3) (at_.c.vis h4) hd.1 hd.2.1
      have h : Post X.K X.mg (WS_ W σ) (relE X.K pk) g H (match env[i]? with
        | some (.own (.dict kvs)) => (match dKeysI kvs with
          | some ks => bif decide (ks.length < 64) then .ok (fresh (.list ((ks.mergeSort fun a b => decide (a ≤ b)).map PyData.int))) st else .no
          | none => .no)
        | _ => .no) Q := h
      cases hs : env[i]? with
      | none => rw [hs] at h; exact h.elim
      | some sl =>
        rw [hs] at h
        cases sl <;> try exact h.elim
        rename_i dd
        cases dd <;> try exact h.elim
        rename_i kvs
        have h : Post X.K X.mg (WS_ W σ) (relE X.K pk) g H (match dKeysI kvs with
          | some ks => bif decide (ks.length < 64) then .ok (fresh (.list ((ks.mergeSort fun a b => decide (a ≤ b)).map PyData.int))) st else .no
          | none => .no) Q := h
        cases hk : dKeysI kvs with
        | none => rw [hk] at h; exact h.elim
        | some ks =>
          rw [hk] at h
          have h : Post X.K X.mg (WS_ W σ) (relE X.K pk) g H (bif decide (ks.length < 64) then .ok (fresh (.list ((ks.mergeSort fun a b => decide (a ≤ b)).map PyData.int))) st else .no) Q := h
          obtain ⟨hl, h⟩ := h.cond
          have h : Fin X.K pk g H st (fresh (.list ((ks.mergeSort fun a b => decide (a ≤ b)).map PyData.int))) Q := h
          obtain ⟨a, vs, ex, ea, rd, _, _⟩ := at_slot at_ hs
          refine WE.of (pe_callB (call_sortedDI at_.c.calm) (at_.c.gl h2) hr.head (by decide +kernel) (pa_cons pv pa_nil rfl) (by decide) (by decide) rfl (by rfl)) ?_
          refine ⟨.ref a, ex, a, vs, ks, rfl, .inl ea, rd.keys hk, of_decide_eq_true hl, fun ys q p1 p2 hq => ?_⟩
          rw [perm_sorted p1 p2]
          exact h.lst at_.ok (RDs.ofInts _) hq
theorem dicN_sh : ∀ {kvs : List (Int × Int)} {keys : List (Option Expr)} {values : List Expr}, dicN kvs keys values = true → keys.all (·.isSome) = true ∧ keys.length = kvs.length ∧ values.length = kvs.length ∧ ∀ (X : Cx) (pos : Pos), ∃ trs, PPs X pos keys values trs ∧ ∀ σ H (Q : List (V × V) → Hp → Prop), Q (kvs.map fun p => (kV (.inl p.1), V.int p.2)) H → tPairs trs σ H Q
  | [], [], [], _ => ⟨rfl, rfl, rfl, fun X pos => ⟨[], pps_nil, fun σ H Q h => h⟩⟩
  | (a, x) :: r, some (.Constant (.int a') j1 p1) :: ks, .Constant (.int x') j2 p2 :: vs, h => by
    obtain ⟨h, h3⟩ := cond_true h
    obtain ⟨h1, h2⟩ := cond_true h
    have h1 : a = a' := of_decide_eq_true h1
    have h2 : x = x' := of_decide_eq_true h2
    subst h1 h2
    obtain ⟨e1, e2, e3, q⟩ := dicN_sh h3
    refine ⟨by simp [e1], by simp [e2], by simp [e3], fun X pos => ?_⟩
    obtain ⟨trs, ht, hq⟩ := q X pos
    exact ⟨_, pps_cons pe_int pe_int ht, fun σ H Q h => hq σ H _ h⟩
theorem valV_ints {n : Int} : ∀ (kvs : List (Int × Int)), valV (kvs.map fun p => ((Sum.inl p.1 : Key), V.int p.2)) (Sum.inl n) = (kvs.lookup n).map V.int
  | [] => rfl
  | (a, x) :: r => by
    by_cases e : a = n
    · subst e
      rw [List.map_cons, valV_pos rfl, List.lookup_cons_self]
      rfl
    · have ne : (n == a) = false := beq_eq_false_iff_ne.mpr (Ne.symm e)
      rw [List.map_cons, valV_neg (fun z => e (Sum.inl.inj z)), List.lookup_cons, ne]
      exact valV_ints r
theorem sim_dixl {kvs : List (Int × Int)} {k : Ex} (hk : SimE k) : SimE (.dixl kvs k) := by
  intro X W N sc lv g H σ env st e pk Q at_ hm hr h
  cases e <;> try exact no_false hm
  rename_i o k' pos
  cases o <;> try exact no_false hm
  rename_i keys values pd
  obtain ⟨hm, h6⟩ := cond_true hm
  obtain ⟨hm, h5⟩ := cond_true hm
  obtain ⟨hm, h4⟩ := cond_true hm
  obtain ⟨hm, h3⟩ := cond_true hm
  obtain ⟨h1, h2⟩ := cond_true hm
  have h4 : (kvs.map (·.1)).Nodup := of_decide_eq_true h4
  have h5 : kvs.length ≤ 15 := of_decide_eq_true h5
  have hp := plainIx_ok h1
  have hu : X.A.units + 1 < cLine := by
    have := room_u at_.c.room
    omega
  obtain ⟨e1, e2, e3, q⟩ := dicN_sh h3
  obtain ⟨trs, ht, hq⟩ := q X pd
  refine WE.of (pe_dget hu (pe_disp ht e1 (e2.trans e3.symm) (fun z => ?_) (by rw [e2]; exact h5)) pe_we hp.2) ?_
  · subst z
    cases kvs with
    | nil => cases h6
    | cons _ _ => cases e2
  intro p hpn
  let kw : List (Key × V) := kvs.map fun p => ((Sum.inl p.1 : Key), V.int p.2)
  have hnd : ((([] : List (Key × V)) ++ kw).map (·.1)).Nodup := by
    have : (kw.map (·.1)) = (kvs.map (·.1)).map Sum.inl := by simp [kw]
    rw [List.nil_append, this]
    exact List.pairwise_map.mpr (h4.imp fun h z => h (Sum.inl.inj z))
  refine hq σ _ _ ⟨upd_same, kw, by simp [kw], by simpa [kw] using h5, ?_⟩
  rw [merge_nodup _ _ hnd, List.nil_append, upd_upd]
  have s0 : Step g H g (upd H p (.dK kw)) := .new hpn
  have o0 : Ok X.K g (upd H p (.dK kw)) st := at_.ok.new hpn
  refine hk k' true _ (at_.on s0 o0) h2 hr ?_
  have h : Post X.K X.mg (WS_ W σ) (relE X.K pk) g H ((evE k true env st).bind fun z st => (intOf z st).bind fun i st => (match kvs.lookup i with
    | some x => .ok (plain (.int x)) st
    | none => .no)) Q := h
  cases ev : evE k true env st with
  | no =>
    rw [ev] at h
    exact h.elim
  | exc c ds st1 =>
    rw [ev] at h
    exact fun g' cls d H' s' o w => h g' cls d H' (s0.trans s') o w
  | ok z st1 =>
    rw [ev] at h
    have h : Post X.K X.mg (WS_ W σ) (relE X.K pk) g H ((intOf z st1).bind fun i st => (match kvs.lookup i with
      | some x => .ok (plain (.int x)) st
      | none => .no)) Q := h
    obtain ⟨i, ei, h⟩ := h.int
    intro g1 v H2 s1 o1 r1
    have e2 := (r1.rt ei).int
    subst e2
    have ed : H2 p = some (.dK kw) := s1.keep _ _ upd_same (at_.ok.notIn hpn)
    cases hl : kvs.lookup i with
    | none => rw [hl] at h; exact h.elim
    | some x =>
      rw [hl] at h
      have q := h g1 (.int x) H2 (s0.trans s1) o1 (by
        cases pk with
        | true => exact .inl (.int _)
        | false => exact .int _)
      refine ⟨p, .int x, rfl, ?_, q⟩
      have q := DGet.k (k := Sum.inl i) ed
      rw [valV_ints, hl] at q
      exact q
theorem sim_lenl {a : Ex} (ha : SimE a) : SimE (.lenl a) := by
  intro X W N sc lv g H σ env st e pk Q at_ hm hr h
  cases e <;> try exact no_false hm
  rename_i f args kws pos
  cases f <;> try exact no_false hm
  rename_i y p
  rcases args with _ | ⟨a', _ | ⟨_, _⟩⟩ <;> try exact no_false hm
  cases kws with
  | cons _ _ => exact no_false hm
  | nil =>
    obtain ⟨hm, h4⟩ := cond_true hm
    obtain ⟨hm, h3⟩ := cond_true hm
    obtain ⟨h1, h2⟩ := cond_true hm
    have h1 : y = "len" := of_decide_eq_true h1
    subst h1
    refine WE.of (pe_callB (r := wcr X (.builtin "len")) cr_wc (at_.c.gl h2) hr.head (by decide +kernel) (pa_cons pe_we pa_nil (starEach_cons h3)) (by decide) (by decide) (starEach_cons h3) (by rfl))
      (ha a' false _ at_ h4 hr.tail (Post.bind based_e h fun x st1 g1 v H1 s1 o1 r1 h1 => ?_))
    obtain ⟨fr, y⟩ := x
    cases y with
    | dat d => exact h1.elim
    | loc n =>
      have rv : RVal X.K g1 H1 v (.loc n) := by cases fr <;> exact r1
      obtain ⟨p, hp1, rfl⟩ := rv
      cases hn : st1[n]? with
      | none =>
        simp only [lenL, hn] at h1
        exact h1.elim
      | some c =>
        cases c with
        | dic kvs =>
          simp only [lenL, hn] at h1
          exact h1.elim
        | lst xs =>
          simp only [lenL, hn] at h1
          obtain ⟨vs, ev, rd⟩ := o1.cell n p _ hp1 hn
          have h1 : Fin X.K pk g1 H1 st1 (plain (.int xs.length)) Q := h1
          exact WC.of call_len_seq ⟨p, vs, rfl, .inl (.inl (.inl ev)), by rw [rd.length]; exact h1.plain o1 (.int _)⟩
theorem simT_plain {m : Ex} (he : SimE m) (hf : ∀ {N : List Str} {sc : Scope} {e : Expr}, mE N m sc e = true → match e with
    | .UnaryOp .Not _ _ => False
    | .BoolOp _ _ _ => False
    | .IfExp _ _ _ _ => False
    | .Compare _ _ _ _ => False
    | _ => True) : SimT m :=
  simT_of he fun {N sc e} env hm => by
    have q := hf hm
    cases e <;> first | exact q.elim | skip
    all_goals first
      | exact ⟨fun _ _ _ z => (by cases z), fun _ => rfl⟩
      | (rename_i o a p
         cases o <;> first | exact q.elim | exact ⟨fun _ _ _ z => (by cases z), fun _ => rfl⟩)
theorem sim_dic0 : SimE .dic0 := by
  intro X W N sc lv g H σ env st e pk Q a hm hr h
  cases e <;> try exact no_false hm
  rename_i keys values pos
  obtain ⟨h1, h2⟩ := cond_true hm
  cases keys with
  | cons _ _ => cases h1
  | nil =>
    cases values with
    | cons _ _ => cases h2
    | nil =>
      refine WE.of pe_dnewK fun p n => h (g.add p) (.ref p) _ ((Step.new n).add n) ((a.ok.new n).add (a.ok.notIn n) (by rw [upd_same]; exact fun q => by cases q)) ?_
      have r : RD X.K (g.add p).Z (upd H p (.dK [])) (.ref p) (.dict []) := .dict (.inr rfl) (.inl upd_same) .nil
      cases pk with
      | true => exact .inl r
      | false => exact r
mutual
theorem simX : (m : Ex) → SimE m ∧ (SimE m → SimT m)
  | .var i => ⟨sim_var, fun h => simT_plain h fun {N sc e} hm => by cases e <;> first | trivial | exact no_false hm⟩
  | .cst k => ⟨sim_cst, fun h => simT_plain h fun {N sc e} hm => by cases e <;> first | trivial | exact no_false hm⟩
  | .glob x d => ⟨sim_glob, fun h => simT_plain h fun {N sc e} hm => by cases e <;> first | trivial | exact no_false hm⟩
  | .neg a => ⟨sim_neg (simX a).1, fun h => simT_plain h fun {N sc e} hm => by
      cases e <;> first | trivial | exact no_false hm | skip
      rename_i o b p
      cases o <;> first | trivial | exact no_false hm⟩
  | .not a => ⟨sim_not (simX a).1, fun _ => simT_not ((simX a).2 (simX a).1)⟩
  | .bin o a b => ⟨sim_bin (simX a).1 (simX b).1, fun h => simT_plain h fun {N sc e} hm => by cases e <;> first | trivial | exact no_false hm⟩
  | .cmp o a b => ⟨sim_cmp (simX a).1 (simX b).1, fun _ => simT_cmp (simX a).1 (simX b).1⟩
  | .chain o1 o2 a b c => ⟨sim_chain (simX a).1 (simX b).1 (simX c).1, fun _ => simT_chain (simX a).1 (simX b).1 (simX c).1⟩
  | .and a b => ⟨sim_and (simX a).1 (simX b).1, fun _ => simT_and ((simX a).2 (simX a).1) ((simX b).2 (simX b).1)⟩
  | .or a b => ⟨sim_or (simX a).1 (simX b).1, fun _ => simT_or ((simX a).2 (simX a).1) ((simX b).2 (simX b).1)⟩
  | .ite c a b => ⟨sim_ite ((simX c).2 (simX c).1) (simX a).1 (simX b).1, fun _ => simT_ite ((simX c).2 (simX c).1) ((simX a).2 (simX a).1) ((simX b).2 (simX b).1)⟩
  | .tup es => ⟨sim_tup (simXs es).2.1, fun h => simT_plain h fun {N sc e} hm => by cases e <;> first | trivial | exact no_false hm⟩
  | .lst es => ⟨sim_lst (simXs es).2.1, fun h => simT_plain h fun {N sc e} hm => by cases e <;> first | trivial | exact no_false hm⟩
  | .ix a b => ⟨sim_ix (simX a).1 (simX b).1, fun h => simT_plain h fun {N sc e} hm => by cases e <;> first | trivial | exact no_false hm⟩
  | .slice a lo hi => ⟨sim_slice (simX a).1 (simXo lo).1 (simXo hi).1, fun h => simT_plain h fun {N sc e} hm => by cases e <;> first | trivial | exact no_false hm⟩
  | .rev a => ⟨sim_rev (simX a).1, fun h => simT_plain h fun {N sc e} hm => by cases e <;> first | trivial | exact no_false hm⟩
  | .call x s es => ⟨sim_call (simXs es).1, fun h => simT_plain h fun {N sc e} hm => by cases e <;> first | trivial | exact no_false hm⟩
  | .blt f es => ⟨sim_blt (simXs es).2.2.1, fun h => simT_plain h fun {N sc e} hm => by cases e <;> first | trivial | exact no_false hm⟩
  | .isi a ts => ⟨sim_isi (simX a).1, fun h => simT_plain h fun {N sc e} hm => by cases e <;> first | trivial | exact no_false hm⟩
  | .comp elt own tg it ifs => ⟨sim_comp (simX elt).1 (simXi it) (simXo ifs).2, fun h => simT_plain h fun {N sc e} hm => by cases e <;> first | trivial | exact no_false hm⟩
  | .comp2 elt own tg it ifs own1 tg1 it1 ifs1 => ⟨sim_comp2 (simX elt).1 (simXi it) (simXo ifs).2 (simXi it1) (simXo ifs1).2, fun h => simT_plain h fun {N sc e} hm => by cases e <;> first | trivial | exact no_false hm⟩
  | .dicl ks es => ⟨sim_dicl (simXs es).2.2.2, fun h => simT_plain h fun {N sc e} hm => by cases e <;> first | trivial | exact no_false hm⟩
  | .dic0 => ⟨sim_dic0, fun h => simT_plain h fun {N sc e} hm => by cases e <;> first | trivial | exact no_false hm⟩
  | .toloc a => ⟨sim_toloc (simX a).1, fun h => simT_plain h fun {N sc e} hm => by
      have q := (cond_true hm).1
      cases e <;> first | trivial | exact no_false q⟩
  | .popl a => ⟨sim_popl (simX a).1, fun h => simT_plain h fun {N sc e} hm => by cases e <;> first | trivial | exact no_false hm⟩
  | .get2 _ _ _ _ _ k => ⟨sim_get2 (simX k).1, fun h => simT_plain h fun {N sc e} hm => by cases e <;> first | trivial | exact no_false hm⟩
  | .dicn => ⟨sim_dicn, fun h => simT_plain h fun {N sc e} hm => by cases e <;> first | trivial | exact no_false hm⟩
  | .dhas _ k _ => ⟨sim_dhas (simX k).1, fun _ => simT_dhas (simX k).1⟩
  | .dget _ k => ⟨sim_dget (simX k).1, fun h => simT_plain h fun {N sc e} hm => by cases e <;> first | trivial | exact no_false hm⟩
  | .dsort _ => ⟨sim_dsort, fun h => simT_plain h fun {N sc e} hm => by cases e <;> first | trivial | exact no_false hm⟩
  | .dixl _ k => ⟨sim_dixl (simX k).1, fun h => simT_plain h fun {N sc e} hm => by cases e <;> first | trivial | exact no_false hm⟩
  | .revc a => ⟨sim_revc (simX a).1, fun h => simT_plain h fun {N sc e} hm => by cases e <;> first | trivial | exact no_false hm⟩
  | .lrng1 a => ⟨sim_lrng1 (simX a).1, fun h => simT_plain h fun {N sc e} hm => by cases e <;> first | trivial | exact no_false hm⟩
  | .lrng2 a b => ⟨sim_lrng2 (simX a).1 (simX b).1, fun h => simT_plain h fun {N sc e} hm => by cases e <;> first | trivial | exact no_false hm⟩
  | .cntL a k => ⟨sim_cntL (simX a).1 (simX k).1, fun h => simT_plain h fun {N sc e} hm => by cases e <;> first | trivial | exact no_false hm⟩
  | .popi a k => ⟨sim_popi (simX a).1 (simX k).1, fun h => simT_plain h fun {N sc e} hm => by cases e <;> first | trivial | exact no_false hm⟩
  | .lenl a => ⟨sim_lenl (simX a).1, fun h => simT_plain h fun {N sc e} hm => by cases e <;> first | trivial | exact no_false hm⟩
theorem simXs : (m : Exs) → SimV m ∧ SimA m ∧ SimP m ∧ SimK m
  | .nil => ⟨simV_nil, simA_nil, simP_nil, simK_nil⟩
  | .cons e es => ⟨simV_cons (simX e).1 (simXs es).1, simA_cons (simX e).1 (simXs es).2.1, simP_cons (simX e).1 (simXs es).2.2.1, simK_cons (simX e).1 (simXs es).2.2.2⟩
  | .star e es => ⟨simV_star, simA_star (simX e).1 (simXs es).2.1, simP_star, simK_star⟩
theorem simXo : (m : Opt) → SimO m ∧ SimC m
  | .non => ⟨simO_non, simC_non⟩
  | .som e => ⟨simO_som (simX e).1, simC_som ((simX e).2 (simX e).1)⟩
theorem simXi : (m : It) → SimI m
  | .seq e => simI_seq (simX e).1
  | .rng1 a => simI_rng1 (simX a).1
  | .rng2 a b => simI_rng2 (simX a).1 (simX b).1
  | .rng3 a b c => simI_rng3 (simX a).1 (simX b).1 (simX c).1
  | .enum e => simI_enum (simX e).1
  | .zip a b => simI_zip (simX a).1 (simX b).1
end
theorem sim (m : Ex) : SimE m ∧ SimT m := ⟨(simX m).1, (simX m).2 (simX m).1⟩
end MP
/-! Statements: their text; what holds between them. -/
namespace MP
open PySem PyProof.Rows L2 PySem.Spec
/-! ### which text a statement stands for -/
def isNoneE : Ex → Bool
  | .cst .none => true
  | _ => false
def isCompE : Ex → Bool
  | .comp _ _ _ _ _ => true
  | _ => false
def notComp : Expr → Bool
  | .ListComp _ _ _ _ => false
  | .SetComp _ _ _ _ => false
  | .DictComp _ _ _ _ _ => false
  | _ => true
/-- the stores of a comprehension that a name is put to are exchanged -/
def swB (sc : Scope) (y : Str) (py : Pos) : Expr → Bool
  | .ListComp _ _ s p => sc.names.lookup y == some .local && py.line == p.line && !(s.names.any fun (n, k) => n == y && (k == .local || k == .cell))
  | .SetComp _ _ s p => sc.names.lookup y == some .local && py.line == p.line && !(s.names.any fun (n, k) => n == y && (k == .local || k == .cell))
  | .DictComp _ _ _ s p => sc.names.lookup y == some .local && py.line == p.line && !(s.names.any fun (n, k) => n == y && (k == .local || k == .cell))
  | _ => false
def isStarB : Expr → Bool
  | .Starred _ _ => true
  | _ => false
def parName (sc : Scope) (line : Nat) : Expr → Option Str
  | .Name id pos => if sc.names.lookup id == some .local && pos.line == line then some id else none
  | _ => none
/-- none: not told; else the names that are stored from the right -/
def ssB (sc : Scope) : Expr → Expr → Option (Option (List Str))
  | .Tuple ts _ _, .Tuple vs _ _ =>
    if !(ts.length == 2 || ts.length == 3) || vs.length != ts.length then some none
    else if vs.any isStarB then some none
    else let names := ts.filterMap (parName sc ((ts.head?.map (·.pos.line)).getD 0))
      if names.length != ts.length || names.eraseDups.length != names.length then some none
      else if vs.all (foldedForSure 8) then some none
      else if vs.all (constantsAlone 8) then none
      else some (some names)
  | .Tuple _ _ _, _ => some none
  | _, _ => none
theorem bk_fun {env : PySem.Env} (hk : env.scope.kind = .function) : env.blockKind = .function := by
  unfold Env.blockKind
  rw [hk]
  rfl
theorem sw_name {env : PySem.Env} {y : Str} {py : Pos} {e : Expr} {l : Nat} (hk : env.scope.kind = .function) : swapsWith e (some (.Name y py)) l env = pure (swB env.scope y py e) := by
  have hb := bk_fun hk
  have go : ∀ (s : Scope) (p : Pos), (pure (env.blockKind == .function && env.kindOf y == some .local && py.line == p.line && !(s.names.any fun (n, k) => n == y && (k == .local || k == .cell))) : Sem Bool) =
      pure (env.scope.names.lookup y == some .local && py.line == p.line && !(s.names.any fun (n, k) => n == y && (k == .local || k == .cell))) := by
    intro s p
    rw [hb]
    rfl
  cases e <;> first | rfl | exact go _ _
theorem sw_tuple {env : PySem.Env} {e : Expr} {ts : List Expr} {k : Nat} {p : Pos} {l : Nat} : swapsWith e (some (.Tuple ts k p)) l env = pure false := by
  cases e <;> rfl
theorem sw_sub {env : PySem.Env} {e a b : Expr} {p : Pos} {l : Nat} : swapsWith e (some (.Subscript a b p)) l env = pure false := by
  cases e <;> rfl
theorem sw_none {env : PySem.Env} {e : Expr} {l : Nat} (h : notComp e = true) : swapsWith e none l env = pure false := by
  cases e <;> first | rfl | cases h
theorem ss_any : ∀ vs : List Expr, (vs.any fun | .Starred .. => true | _ => false) = vs.any isStarB := fun vs => by
  congr 1
theorem ss_ok {env : PySem.Env} (hk : env.scope.kind = .function) {tg value : Expr} {r : Option (List Str)} (h : ssB env.scope tg value = some r) : swappedStores [tg] value env = pure r := by
  have hb := bk_fun hk
  cases tg <;> try exact no_some h
  rename_i ts k p
  by_cases hv : ∃ vs k2 p2, value = .Tuple vs k2 p2
  · obtain ⟨vs, k2, p2, rfl⟩ := hv
    unfold ssB at h
    dsimp only at h
    unfold swappedStores
    dsimp only
    rw [hb]
    have e1 : (!(ts.length == 2 || ts.length == 3) || vs.length != ts.length || (ScopeKind.function != .function)) = (!(ts.length == 2 || ts.length == 3) || vs.length != ts.length) := by
      have : (ScopeKind.function != .function) = false := by decide
      rw [this, Bool.or_false]
    rw [e1]
    cases c1 : (!(ts.length == 2 || ts.length == 3) || vs.length != ts.length) with
    | true =>
      rw [c1, if_pos rfl] at h
      cases h
      rw [if_pos rfl]
    | false =>
      rw [c1, if_neg Bool.false_ne_true] at h
      simp only [if_neg Bool.false_ne_true]
      have e2 := ss_any vs
      cases c2 : vs.any isStarB with
      | true =>
        rw [c2, if_pos rfl] at h
        cases h
        rw [c2] at e2
        show (if (vs.any fun | .Starred .. => true | _ => false) = true then pure none else _) = _
        rw [e2]
        rfl
      | false =>
        rw [c2, if_neg Bool.false_ne_true] at h
        rw [c2] at e2
        show (if (vs.any fun | .Starred .. => true | _ => false) = true then pure none else _) = _
        rw [e2, if_neg Bool.false_ne_true]
        let nm := ts.filterMap (parName env.scope ((ts.head?.map (·.pos.line)).getD 0))
        show (if (nm.length != ts.length || nm.eraseDups.length != nm.length) = true then pure none else if vs.all (foldedForSure 8) = true then pure none else if vs.all (constantsAlone 8) = true then unsupported "assign.tuple-of-constant-expressions:order-of-the-stores" >>= fun _ => pure (some nm) else pure (some nm)) = (pure r : Sem (Option (List Str)))
        have hn : nm = ts.filterMap (parName env.scope ((ts.head?.map (·.pos.line)).getD 0)) := rfl
        clear_value nm
        rw [← hn] at h
        cases c3 : (nm.length != ts.length || nm.eraseDups.length != nm.length) with
        | true =>
          rw [c3, if_pos rfl] at h
          cases h
          rw [if_pos rfl]
        | false =>
          rw [c3, if_neg Bool.false_ne_true] at h
          simp only [if_neg Bool.false_ne_true]
          cases c4 : vs.all (foldedForSure 8) with
          | true =>
            rw [c4, if_pos rfl] at h
            cases h
            rw [if_pos rfl]
          | false =>
            rw [c4, if_neg Bool.false_ne_true] at h
            simp only [if_neg Bool.false_ne_true]
            cases c5 : vs.all (constantsAlone 8) with
            | true =>
              rw [c5, if_pos rfl] at h
              cases h
            | false =>
              rw [c5, if_neg Bool.false_ne_true] at h
              cases h
              simp only [if_neg Bool.false_ne_true]
  · have e1 : ssB env.scope (.Tuple ts k p) value = some none := by
      cases value <;> first | rfl | exact (hv ⟨_, _, _, rfl⟩).elim
    rw [e1] at h
    cases h
    cases value <;> first | rfl | exact (hv ⟨_, _, _, rfl⟩).elim
/-- a written text: a constant, or a tuple of one text -/
def isCE : Ex → Bool
  | .cst _ => true
  | .tup (.cons (.cst (.str _)) .nil) => true
  | .lst (.cons (.cst (.str _)) .nil) => true
  | .cmp .isNot (.var _) (.cst .none) => true
  | _ => false
mutual
def mS (N : List Str) : Sm → Scope → Stmt → Bool
  | .pass, _, s => match s with
    | .Pass _ => true
    | .Expr (.Constant (.str _) _ _) _ => true
    | _ => false
  | .exp e, sc, s => match s with
    | .Expr e' _ => notComp e' && mE N e sc e'
    | _ => false
  | .ret e, sc, s => match s with
    | .Return o _ => (match o with
      | some e' => mE N e sc e'
      | none => isNoneE e)
    | _ => false
  | .set i _ e, sc, s => match s with
    | .Assign ts e' _ => (match ts with
      | [.Name y py] => decide (N[i]? = some y) && isLoc sc y && mE N e sc e' && (!swB sc y py e' || isCompE e)
      | _ => false)
    | _ => false
  | .setT us e, sc, s => match s with
    | .Assign ts e' _ => (match ts with
      | [.Tuple es k p] => mTgs N us sc es && mE N e sc e' && decide (ssB sc (.Tuple es k p) e' = some none)
      | _ => false)
    | _ => false
  | .par is es, sc, s => match s with
    | .Assign [.Tuple ts k p] (.Tuple vs k2 p2) _ => mEs N es sc vs && (match is, ts with
      | [i, j], [.Name x _, .Name y _] => decide (vs.length = 2) && decide (N[i]? = some x) && decide (N[j]? = some y) && decide (i ≠ j) && decide (sc.names.lookup x = some .local) && decide (sc.names.lookup y = some .local) &&
        decide (ssB sc (.Tuple ts k p) (.Tuple vs k2 p2) = some (some [x, y]))
      | [i, j, l], [.Name x _, .Name y _, .Name z _] => decide (vs.length = 3) && decide (N[i]? = some x) && decide (N[j]? = some y) && decide (N[l]? = some z) && decide (i ≠ j) && decide (i ≠ l) && decide (j ≠ l) &&
        decide (sc.names.lookup x = some .local) && decide (sc.names.lookup y = some .local) && decide (sc.names.lookup z = some .local) && decide (ssB sc (.Tuple ts k p) (.Tuple vs k2 p2) = some (some [x, y, z]))
      | _, _ => false)
    | _ => false
  | .parO is _ es, sc, s => match s with
    | .Assign [.Tuple ts k p] (.Tuple vs k2 p2) _ => mEs N es sc vs && (match is, ts with
      | [i, j], [.Name x _, .Name y _] => decide (vs.length = 2) && decide (N[i]? = some x) && decide (N[j]? = some y) && decide (i ≠ j) && ((decide (sc.names.lookup x = some .local) && decide (sc.names.lookup y = some .local) &&
        decide (ssB sc (.Tuple ts k p) (.Tuple vs k2 p2) = some (some [x, y]))) || (isLoc sc x && isLoc sc y && decide (ssB sc (.Tuple ts k p) (.Tuple vs k2 p2) = some none)))
      | [i, j, l], [.Name x _, .Name y _, .Name z _] => decide (vs.length = 3) && decide (N[i]? = some x) && decide (N[j]? = some y) && decide (N[l]? = some z) && decide (i ≠ j) && decide (i ≠ l) && decide (j ≠ l) &&
        decide (sc.names.lookup x = some .local) && decide (sc.names.lookup y = some .local) && decide (sc.names.lookup z = some .local) && decide (ssB sc (.Tuple ts k p) (.Tuple vs k2 p2) = some (some [x, y, z]))
      | _, _ => false)
    | _ => false
  | .aug i o e, sc, s => match s with
    | .AugAssign (.Name x _) op e' _ => decide (N[i]? = some x) && isLoc sc x && mE N e sc e' && (match o, op with
      | .add, .Add => true
      | .sub, .Sub => true
      | _, _ => false)
    | _ => false
  | .ite c a b, sc, s => match s with
    | .If c' a' b' _ => mE N c sc c' && mSs N a sc a' && mSs N b sc b'
    | _ => false
  | .whil c b, sc, s => match s with
    | .While c' b' o _ => mE N c sc c' && mSs N b sc b' && o.isEmpty
    | _ => false
  | .forr tg it b, sc, s => match s with
    | .For tg' it' b' o _ => mTg N tg sc tg' && notSet it' && mI N it sc tg' it' && mSs N b sc b' && o.isEmpty
    | _ => false
  | .brk, _, s => match s with
    | .Break _ => true
    | _ => false
  | .cnt, _, s => match s with
    | .Continue _ => true
    | _ => false
  | .app i e, sc, s => match s with
    | .Expr (.Call (.Attribute (.Name x _) m ap) [e'] [] cp) _ => decide (N[i]? = some x) && isVis sc x && okName x && decide (m = "append") && decide (ap.endLine = cp.line) && notStar e' && mE N e sc e'
    | _ => false
  | .popd i, sc, s => match s with
    | .Expr (.Call (.Attribute (.Name x _) m ap) [] [] cp) _ => decide (N[i]? = some x) && isVis sc x && okName x && decide (m = "pop") && decide (ap.endLine = cp.line)
    | _ => false
  | .popt j i, sc, s => match s with
    | .Assign [.Name y _] (.Call (.Attribute (.Name x _) m ap) [] [] cp) _ => decide (N[j]? = some y) && isLoc sc y && decide (N[i]? = some x) && isVis sc x && okName x && decide (m = "pop") && decide (ap.endLine = cp.line)
    | _ => false
  | .setix i k e, sc, s => match s with
    | .Assign [.Subscript (.Name x _) k' _] e' _ => decide (N[i]? = some x) && isVis sc x && okName x && plainIx k' && mE N k sc k' && mE N e sc e'
    | _ => false
  | .setloc a k e, sc, s => match s with
    | .Assign [.Subscript a' k' _] e' _ => plainIx k' && mE N a sc a' && mE N k sc k' && mE N e sc e'
    | _ => false
  | .dput i k e, sc, s => match s with
    | .Assign [.Subscript (.Name x _) k' _] e' _ => decide (N[i]? = some x) && isVis sc x && okName x && plainIx k' && mE N k sc k' && mE N e sc e'
    | _ => false
  | .frz _, _, _ => false
  | .never, _, _ => true
  | .clr i, sc, s => match s with
    | .Expr (.Call (.Attribute (.Name x _) m ap) [] [] cp) _ => decide (N[i]? = some x) && isVis sc x && okName x && decide (m = "clear") && decide (ap.endLine = cp.line)
    | _ => false
  | .rais c, sc, s => match s with
    | .Raise (some (.Call (.Name x _) [] [] _)) none _ => decide (c = x) && isGl sc x && okName x
    | _ => false
  | .tryR b c e, sc, s => match s with
    | .Try body [.ExceptHandler (some (.Name x _)) none [.Return (some e') _] _] [] [] _ => mSs N b sc body && decide (c = x) && isGl sc x && okName x && isCE e && mE N e sc e'
    | _ => false
  | .tryY b c i k, sc, s => match s with
    | .Try body [.ExceptHandler (some (.Name x _)) (some n) [.Return (some (.Call (.Name y _) [.Name n2 _, .Name k2 _] [] _)) _] _] [] [] _ => mSs N b sc body && decide (c = x) && isGl sc x && okName x && decide (y = "isinstance") && isGl sc y && decide (n2 = n) && decide (N[i]? = some n) && decide (sc.names.lookup n = some .local) && okName n && decide (k = k2) && isGl sc k && okName k
    | _ => false
def mSs (N : List Str) : Sms → Scope → List Stmt → Bool
  | .nil, _, l => l.isEmpty
  | .cons s ss, sc, l => match s with
    | .frz _ => mSs N ss sc l
    | .never => true
    | _ => (match l with
      | s' :: l' => mS N s sc s' && mSs N ss sc l'
      | [] => false)
end
mutual
def rqS : Sm → List Req
  | .pass => []
  | .exp e => rqE e
  | .ret e => rqE e
  | .set _ _ e => rqE e
  | .setT _ e => rqE e
  | .par _ es => rqEs es
  | .parO _ _ es => rqEs es
  | .aug _ _ e => rqE e
  | .ite c a b => rqE c ++ (rqSs a ++ rqSs b)
  | .whil c b => rqE c ++ rqSs b
  | .forr _ it b => rqI it ++ rqSs b
  | .brk => []
  | .cnt => []
  | .app _ e => rqE e
  | .popd _ => []
  | .popt _ _ => []
  | .setix _ k e => rqE k ++ rqE e
  | .setloc a k e => rqE a ++ rqE k ++ rqE e
  | .frz _ => []
  | .never => []
  | .clr _ => []
  | .rais c => [.exc c]
  | .dput _ k e => rqE k ++ rqE e
  | .tryR b c e => .exc c :: (rqSs b ++ rqE e)
  | .tryY b c _ k => .excIs c k :: .non "isinstance" :: rqSs b
def rqSs : Sms → List Req
  | .nil => []
  | .cons s ss => rqS s ++ rqSs ss
end
end MP
/-! Statements: what holds between them. -/
namespace MP
open PySem PyProof.Rows L2 PySem.Spec
structure SCtx (X : Cx) (W : WX) (N : List Str) (sc : Scope) (lv : Nat) : Prop where
  c : CtxOk X W N sc lv
  sce : X.env.scope = sc
  stk : X.stack = X.env :: X.outer
  frm : X.env.frame = some X.env.locals
/-- where a statement is met: g0, H0 stand at the def's entry, zb, Hb at the loop's -/
structure SI (K : PySem.W.Frag) (g0 : G) (H0 : Hp) (zb : Addr → Prop) (Hb : Hp) (g : G) (H : Hp) (σ : L2.St) (env : Env) (st : Store) : Prop where
  s : Step g0 H0 g H
  ok : Ok K g H st
  en : EnvOk K g H σ env
  new : ∀ (i : Nat) (d : MP.D) (a : Addr), env[i]? = some (.own d) → σ[i]? = some (some (.ref a)) → H0 a = none
  h : Holds zb g.Z Hb H
def PostS (K : PySem.W.Frag) (mg : Str → Option Value) (W : WX) (g0 : G) (H0 : Hp) (zb : Addr → Prop) (Hb : Hp) (r : SR) (D : Ends) : Prop := match r with
  | .nx env st => ∀ g H σ, SI K g0 H0 zb Hb g H σ env st → D.nx σ H
  | .br env st => ∀ g H σ, SI K g0 H0 zb Hb g H σ env st → D.bk σ H
  | .ct env st => ∀ g H σ, SI K g0 H0 zb Hb g H σ env st → D.ct σ H
  | .rt x st => ∀ g H v, Step g0 H0 g H → Ok K g H st → ROut K false g H H0 v x → D.rt v H
  | .ex c ds env st => ∀ g H σ cls d, SI K g0 H0 zb Hb g H σ env st → ExcIs K mg g H c ds cls d → W cls d σ H
  | .no => False
section
variable {K : PySem.W.Frag} {mg : Str → Option Value} {W : WX} {g0 g g1 : G} {H0 Hb H H1 : Hp} {zb : Addr → Prop} {st st1 : Store} {σ : L2.St} {env env' : Env} {D D' : Ends}
theorem SI.step (i : SI K g0 H0 zb Hb g H σ env st) (s : Step g H g1 H1) (o : Ok K g1 H1 st1) : SI K g0 H0 zb Hb g1 H1 σ env st1 :=
  ⟨i.s.trans s, o, i.en.step s i.ok, i.new, i.h.trans (s.holds i.ok)⟩
theorem SI.at_ {X : Cx} {N : List Str} {sc : Scope} {lv : Nat} (c : SCtx X W N sc lv) (i : SI X.K g0 H0 zb Hb g H σ env st) : At X W N sc lv g H σ env st := ⟨c.c, i.ok, i.en⟩
theorem PostS.sr {α β : Type} {Rl : Hp → G → Hp → β → α → Prop} {r : R α} {f : α → Store → SR} {Q1 : β → Hp → Prop} (i : SI K g0 H0 zb Hb g H σ env st) (h : PostS K mg W g0 H0 zb Hb (r.sr env f) D)
    (k : ∀ x st1 g1 v H1, SI K g0 H0 zb Hb g1 H1 σ env st1 → Step g H g1 H1 → Rl H g1 H1 v x → PostS K mg W g0 H0 zb Hb (f x st1) D → Q1 v H1) : Post K mg (WS_ W σ) Rl g H r Q1 := by
  cases r with
  | ok x st1 => exact fun g1 v H1 s o q => k x st1 g1 v H1 (i.step s o) s q h
  | exc c ds st1 => exact fun g1 cls d H1 s o q => h g1 H1 σ cls d (i.step s o) q
  | no => exact h.elim
theorem PostS.dat {x : RV} {f : MP.D → Store → SR} (h : PostS K mg W g0 H0 zb Hb ((datOf x st).sr env f) D) : ∃ d, x.v = .dat d ∧ PostS K mg W g0 H0 zb Hb (f d st) D := by
  obtain ⟨fr, y⟩ := x
  cases y with
  | dat d => exact ⟨d, rfl, h⟩
  | loc n => exact h.elim
theorem PostS.int {x : RV} {f : Int → Store → SR} (h : PostS K mg W g0 H0 zb Hb ((intOf x st).sr env f) D) : ∃ d, x.v = .dat (.int d) ∧ PostS K mg W g0 H0 zb Hb (f d st) D := by
  obtain ⟨fr, y⟩ := x
  cases y with
  | dat d =>
    cases d <;> try exact h.elim
    exact ⟨_, rfl, h⟩
  | loc n => exact h.elim
theorem PostS.bool {x : RV} {f : Bool → Store → SR} (h : PostS K mg W g0 H0 zb Hb ((boolOf x st).sr env f) D) : ∃ d, x.v = .dat (.bool d) ∧ PostS K mg W g0 H0 zb Hb (f d st) D := by
  obtain ⟨fr, y⟩ := x
  cases y with
  | dat d =>
    cases d <;> try exact h.elim
    exact ⟨_, rfl, h⟩
  | loc n => exact h.elim
theorem PostS.cond {c : Bool} {x : SR} (h : PostS K mg W g0 H0 zb Hb (bif c then x else .no) D) : c = true ∧ PostS K mg W g0 H0 zb Hb x D := by
  cases c with
  | true => exact ⟨rfl, h⟩
  | false => exact h.elim
theorem PostS.mono {r : SR} (h : PostS K mg W g0 H0 zb Hb r D) (n : ∀ σ H, D.nx σ H → D'.nx σ H) (b : ∀ σ H, D.bk σ H → D'.bk σ H) (c : ∀ σ H, D.ct σ H → D'.ct σ H) (t : ∀ v H, D.rt v H → D'.rt v H) : PostS K mg W g0 H0 zb Hb r D' := by
  cases r with
  | nx e s => exact fun g H σ i => n _ _ (h g H σ i)
  | br e s => exact fun g H σ i => b _ _ (h g H σ i)
  | ct e s => exact fun g H σ i => c _ _ (h g H σ i)
  | rt e s => exact fun g H v i o q => t _ _ (h g H v i o q)
  | ex _ _ _ _ => exact h
  | no => exact h
theorem PostS.seq {x : SR} {f : Env → Store → SR} {N : L2.St → Hp → Prop} (h : PostS K mg W g0 H0 zb Hb (x.seq f) D) (k : ∀ env st g H σ, SI K g0 H0 zb Hb g H σ env st → PostS K mg W g0 H0 zb Hb (f env st) D → N σ H) : PostS K mg W g0 H0 zb Hb x { D with nx := N } := by
  cases x with
  | nx e s => exact fun g H σ i => k e s g H σ i h
  | br e s => exact h
  | ct e s => exact h
  | rt e s => exact h
  | ex _ _ _ _ => exact h
  | no => exact h
theorem PostS.turn {x : SR} {f : Env → Store → SR} {N : L2.St → Hp → Prop} (h : PostS K mg W g0 H0 zb Hb (turn x f) D) (k : ∀ env st g H σ, SI K g0 H0 zb Hb g H σ env st → PostS K mg W g0 H0 zb Hb (f env st) D → N σ H) :
    PostS K mg W g0 H0 zb Hb x { D with nx := N, ct := N, bk := D.nx } := by
  cases x with
  | nx e s => exact fun g H σ i => k e s g H σ i h
  | br e s => exact h
  | ct e s => exact fun g H σ i => k e s g H σ i h
  | rt e s => exact h
  | ex _ _ _ _ => exact h
  | no => exact h
/-- from a loop's beginning on -/
theorem PostS.rebase {r : SR} {zc : Addr → Prop} {Hc : Hp} (q : Holds zb zc Hb Hc) (h : PostS K mg W g0 H0 zb Hb r D) : PostS K mg W g0 H0 zc Hc r D := by
  have go : ∀ {g H σ env st}, SI K g0 H0 zc Hc g H σ env st → SI K g0 H0 zb Hb g H σ env st := fun i => ⟨i.s, i.ok, i.en, i.new, q.trans i.h⟩
  cases r with
  | nx e s => exact fun g H σ i => h g H σ (go i)
  | br e s => exact fun g H σ i => h g H σ (go i)
  | ct e s => exact fun g H σ i => h g H σ (go i)
  | rt e s => exact h
  | ex _ _ _ _ => exact fun g H σ cls d i => h g H σ cls d (go i)
  | no => exact h
theorem bind_sr {α β : Type} {r : R α} {f : α → Store → R β} {k : β → Store → SR} : (r.bind f).sr env k = r.sr env fun x st => (f x st).sr env k := by
  cases r <;> rfl
/-! ### slots -/
theorem set_other {i j : Nat} {s t : Slot} {d : MP.D} (hs : ∀ d, s ≠ .own d) (e : (List.set env i s)[j]? = some (.own d)) : i ≠ j ∧ env[j]? = some (.own d) := by
  by_cases h : i = j
  · subst h
    rw [List.getElem?_set] at e
    split at e
    · split at e
      · exact (hs d (Option.some.inj e)).elim
      · cases e
    · rename_i h
      exact absurd rfl h
  · rw [List.getElem?_set_ne h] at e
    exact ⟨h, e⟩
theorem SI.setVal {x : Val} {v : V} (i : Nat) (si : SI K g0 H0 zb Hb g H σ env st) (r : RVal K g H v x) : SI K g0 H0 zb Hb g H (σ.set i (some v)) (List.set env i (.val x)) st := by
  refine ⟨si.s, si.ok, si.en.setVal i r, fun j d a e1 e2 => ?_, si.h⟩
  obtain ⟨n, e1⟩ := set_other (t := .un) (fun _ h => by cases h) e1
  rw [List.getElem?_set_ne n] at e2
  exact si.new j d a e1 e2
theorem EnvOk.setOwn {d : MP.D} {a : Addr} (i : Nat) (en : EnvOk K g H σ env) (r : OwnAt K g H a d) (ap : ∀ j d', j ≠ i → env[j]? = some (.own d') → σ[j]? ≠ some (some (.ref a))) : EnvOk K g H (σ.set i (some (.ref a))) (List.set env i (.own d)) := by
  refine ⟨by rw [List.length_set, List.length_set]; exact en.len, fun j s y e1 e2 => ?_, fun j k d1 d2 b e1 e2 e3 e4 => ?_⟩
  · by_cases hj : i = j
    · subst hj
      have hi : i < env.length := by
        have q := (List.getElem?_eq_some_iff.mp e1).1
        rwa [List.length_set] at q
      rw [List.getElem?_set_self hi] at e1
      rw [List.getElem?_set_self (by rw [← en.len]; exact hi)] at e2
      cases e1
      cases e2
      exact ⟨a, rfl, r⟩
    · rw [List.getElem?_set_ne hj] at e1 e2
      exact en.at_ j s y e1 e2
  · have self : ∀ {l : Nat} {y : V}, l = i → (σ.set i (some (.ref a)))[l]? = some (some y) → y = .ref a := fun {l y} e q => by
      subst e
      rw [List.getElem?_set] at q
      split at q
      · split at q
        · cases q
          rfl
        · cases q
      · rename_i h
        exact absurd rfl h
    by_cases hj : j = i
    · by_cases hk : k = i
      · rw [hj, hk]
      · have eb := self hj e3
        cases eb
        rw [List.getElem?_set_ne (Ne.symm hk)] at e2 e4
        exact (ap k d2 hk e2 e4).elim
    · by_cases hk : k = i
      · have eb := self hk e4
        cases eb
        rw [List.getElem?_set_ne (Ne.symm hj)] at e1 e3
        exact (ap j d1 hj e1 e3).elim
      · rw [List.getElem?_set_ne (Ne.symm hj)] at e1 e3
        rw [List.getElem?_set_ne (Ne.symm hk)] at e2 e4
        exact en.apart j k d1 d2 b e1 e2 e3 e4
theorem SI.setOwn {d : MP.D} {a : Addr} (i : Nat) (si : SI K g0 H0 zb Hb g H σ env st) (r : OwnAt K g H a d) (ap : ∀ j d', j ≠ i → env[j]? = some (.own d') → σ[j]? ≠ some (some (.ref a))) (n : H0 a = none) :
    SI K g0 H0 zb Hb g H (σ.set i (some (.ref a))) (List.set env i (.own d)) st := by
  refine ⟨si.s, si.ok, si.en.setOwn i r ap, fun j d' b e1 e2 => ?_, si.h⟩
  by_cases h : i = j
  · subst h
    rw [List.getElem?_set] at e2
    split at e2
    · split at e2
      · cases e2
        exact n
      · cases e2
    · rename_i h
      exact absurd rfl h
  · rw [List.getElem?_set_ne h] at e1 e2
    exact si.new j d' b e1 e2
/-- the list in a slot of ours is changed -/
theorem SI.mut {i : Nat} {a : Addr} {d : MP.D} {us vs : List V} {ys : List MP.D} (si : SI K g0 H0 zb Hb g H σ env st) (e : env[i]? = some (.own d)) (es : σ[i]? = some (some (.ref a))) (ha : H a = some (.lst us)) (nz : ¬ g.Z a) (nr : a ∉ g.rho) (r : RDs K g.Z H vs ys) :
    SI K g0 H0 zb Hb g (upd H a (.lst vs)) σ (List.set env i (.own (.list ys))) st := by
  have hh := holds_own (u := .lst vs) ha nz
  have n0 := si.new i d a e es
  have en : EnvOk K g (upd H a (.lst vs)) σ (List.set env i (.own (.list ys))) := by
    refine ⟨by rw [List.length_set]; exact si.en.len, fun j s y e1 e2 => ?_, fun j k d1 d2 b e1 e2 e3 e4 => ?_⟩
    · by_cases hj : i = j
      · subst hj
        have hi : i < env.length := (List.getElem?_eq_some_iff.mp e).1
        rw [List.getElem?_set_self hi] at e1
        cases e1
        rw [es] at e2
        cases e2
        exact ⟨a, rfl, vs, upd_same, RDs.holds hh r, nz, nr⟩
      · rw [List.getElem?_set_ne hj] at e1
        have q := si.en.at_ j s y e1 e2
        cases s with
        | un => trivial
        | val v =>
          obtain ⟨w, ew, rw1⟩ := q
          exact ⟨w, ew, rw1.holds hh⟩
        | own d' =>
          obtain ⟨b, eb, ob⟩ := q
          subst eb
          have nb : b ≠ a := fun h => hj (si.en.apart i j d d' a e e1 es (h ▸ e2))
          refine ⟨b, rfl, ?_⟩
          cases d' <;> try exact ob.elim
          · obtain ⟨ws, e3, r3, q3⟩ := ob
            exact ⟨ws, by rw [upd_ne nb]; exact e3, RDs.holds hh r3, q3⟩
          · obtain ⟨ws, e3, r3, q3⟩ := ob
            exact ⟨ws, by rw [upd_ne nb]; exact e3, RKs.holds hh r3, q3⟩
    · have back : ∀ {l : Nat} {d' : MP.D}, (List.set env i (.own (.list ys)))[l]? = some (.own d') → ∃ d'', env[l]? = some (.own d'') := fun {l d'} q => by
        by_cases hl : i = l
        · subst hl
          exact ⟨d, e⟩
        · rw [List.getElem?_set_ne hl] at q
          exact ⟨d', q⟩
      obtain ⟨_, f1⟩ := back e1
      obtain ⟨_, f2⟩ := back e2
      exact si.en.apart j k _ _ b f1 f2 e3 e4
  refine ⟨si.s.upd_new n0, si.ok.own ha nz nr, en, fun j d' b e1 e2 => ?_, si.h.trans hh⟩
  by_cases h : i = j
  · subst h
    exact si.new i d b e e2
  · rw [List.getElem?_set_ne h] at e1
    exact si.new j d' b e1 e2
/-- the dict in a slot of ours is changed -/
theorem SI.mutD {i : Nat} {a : Addr} {d : MP.D} {us vs : List (Key × V)} {ys : List (MP.D × MP.D)} (si : SI K g0 H0 zb Hb g H σ env st) (e : env[i]? = some (.own d)) (es : σ[i]? = some (some (.ref a))) (ha : H a = some (.dK us)) (nz : ¬ g.Z a) (nr : a ∉ g.rho) (r : RKs K g.Z H vs ys) :
    SI K g0 H0 zb Hb g (upd H a (.dK vs)) σ (List.set env i (.own (.dict ys))) st := by
  have hh := holds_ownD (u := .dK vs) ha nz
  have n0 := si.new i d a e es
  have en : EnvOk K g (upd H a (.dK vs)) σ (List.set env i (.own (.dict ys))) := by
    refine ⟨by rw [List.length_set]; exact si.en.len, fun j s y e1 e2 => ?_, fun j k d1 d2 b e1 e2 e3 e4 => ?_⟩
    · by_cases hj : i = j
      · subst hj
        have hi : i < env.length := (List.getElem?_eq_some_iff.mp e).1
        rw [List.getElem?_set_self hi] at e1
        cases e1
        rw [es] at e2
        cases e2
        exact ⟨a, rfl, vs, upd_same, RKs.holds hh r, nz, nr⟩
      · rw [List.getElem?_set_ne hj] at e1
        have q := si.en.at_ j s y e1 e2
        cases s with
        | un => trivial
        | val v =>
          obtain ⟨w, ew, rw1⟩ := q
          exact ⟨w, ew, rw1.holds hh⟩
        | own d' =>
          obtain ⟨b, eb, ob⟩ := q
          subst eb
          have nb : b ≠ a := fun h => hj (si.en.apart i j d d' a e e1 es (h ▸ e2))
          refine ⟨b, rfl, ?_⟩
          cases d' <;> try exact ob.elim
          · obtain ⟨ws, e3, r3, q3⟩ := ob
            exact ⟨ws, by rw [upd_ne nb]; exact e3, RDs.holds hh r3, q3⟩
          · obtain ⟨ws, e3, r3, q3⟩ := ob
            exact ⟨ws, by rw [upd_ne nb]; exact e3, RKs.holds hh r3, q3⟩
    · have back : ∀ {l : Nat} {d' : MP.D}, (List.set env i (.own (.dict ys)))[l]? = some (.own d') → ∃ d'', env[l]? = some (.own d'') := fun {l d'} q => by
        by_cases hl : i = l
        · subst hl
          exact ⟨d, e⟩
        · rw [List.getElem?_set_ne hl] at q
          exact ⟨d', q⟩
      obtain ⟨_, f1⟩ := back e1
      obtain ⟨_, f2⟩ := back e2
      exact si.en.apart j k _ _ b f1 f2 e3 e4
  refine ⟨si.s.upd_new n0, si.ok.ownD ha nz nr, en, fun j d' b e1 e2 => ?_, si.h.trans hh⟩
  by_cases h : i = j
  · subst h
    exact si.new i d b e e2
  · rw [List.getElem?_set_ne h] at e1
    exact si.new j d' b e1 e2
/-- .. is frozen -/
theorem SI.frz {i : Nat} {d : MP.D} (si : SI K g0 H0 zb Hb g H σ env st) (e : env[i]? = some (.own d)) : ∃ g', SI K g0 H0 zb Hb g' H σ (List.set env i (.val (.dat d))) st := by
  obtain ⟨x, ex, so⟩ := si.en.slot e
  obtain ⟨a, rfl, oa⟩ := so
  have n0 := si.new i d a e ex
  have ok' := si.ok.add oa.nz.2 oa.ne
  have hi : i < env.length := (List.getElem?_eq_some_iff.mp e).1
  refine ⟨g.add a, si.s.add n0, ok', ⟨by rw [List.length_set]; exact si.en.len, fun j s y e1 e2 => ?_, fun j k d1 d2 b e1 e2 e3 e4 => ?_⟩, fun j d' b e1 e2 => ?_, si.h.trans holds_add⟩
  · by_cases hj : i = j
    · subst hj
      rw [List.getElem?_set_self hi] at e1
      cases e1
      rw [ex] at e2
      cases e2
      exact ⟨_, rfl, oa.frozen⟩
    · rw [List.getElem?_set_ne hj] at e1
      have q := si.en.at_ j s y e1 e2
      cases s with
      | un => trivial
      | val v =>
        obtain ⟨w, ew, rw1⟩ := q
        exact ⟨w, ew, rval_add rw1⟩
      | own d' =>
        obtain ⟨b, eb, ob⟩ := q
        subst eb
        have nb : b ≠ a := fun h => hj (si.en.apart i j d d' a e e1 ex (h ▸ e2))
        refine ⟨b, rfl, ?_⟩
        cases d' <;> try exact ob.elim
        · obtain ⟨ws, e3, r3, q3⟩ := ob
          exact ⟨ws, e3, RDs.holds holds_add r3, fun z => z.elim q3.1 nb, q3.2⟩
        · obtain ⟨ws, e3, r3, q3⟩ := ob
          exact ⟨ws, e3, RKs.holds holds_add r3, fun z => z.elim q3.1 nb, q3.2⟩
  · obtain ⟨_, e1⟩ := set_other (t := .un) (fun _ h => by cases h) e1
    obtain ⟨_, e2⟩ := set_other (t := .un) (fun _ h => by cases h) e2
    exact si.en.apart j k d1 d2 b e1 e2 e3 e4
  · obtain ⟨_, e1⟩ := set_other (t := .un) (fun _ h => by cases h) e1
    exact si.new j d' b e1 e2
end
end MP
/-! Statements: the model does what is reckoned. -/
namespace MP
open PySem PyProof.Rows L2 PySem.Spec
def SimS (m : Sm) : Prop := ∀ {X : Cx} {W : WX} {N : List Str} {sc : Scope} {lv : Nat} {g0 g : G} {H0 Hb H : Hp} {zb : Addr → Prop} {σ : L2.St} {env : Env} {st : Store} (s : Stmt) (D : Ends), SCtx X W N sc lv → SI X.K g0 H0 zb Hb g H σ env st →
  mS N m sc s = true → Rqs X lv (rqS m) → PostS X.K X.mg W g0 H0 zb Hb (evS m env st) D → WS X s D σ H
def SimSs (m : Sms) : Prop := ∀ {X : Cx} {W : WX} {N : List Str} {sc : Scope} {lv : Nat} {g0 g : G} {H0 Hb H : Hp} {zb : Addr → Prop} {σ : L2.St} {env : Env} {st : Store} (s : List Stmt) (D : Ends), SCtx X W N sc lv → SI X.K g0 H0 zb Hb g H σ env st →
  mSs N m sc s = true → Rqs X lv (rqSs m) → PostS X.K X.mg W g0 H0 zb Hb (evSs m env st) D → WSs X s D σ H
theorem SCtx.hk {X : Cx} {W : WX} {N : List Str} {sc : Scope} {lv : Nat} (c : SCtx X W N sc lv) : X.env.scope.kind = .function := by rw [c.sce]; exact c.c.kind
theorem sims_pass : SimS .pass := by
  intro X W N sc lv g0 g H0 Hb H zb σ env st s D c si hm hr h
  have h : ∀ g H σ, SI X.K g0 H0 zb Hb g H σ env st → D.nx σ H := h
  cases s <;> try exact no_false hm
  · rename_i e p
    cases e <;> try exact no_false hm
    rename_i k j q
    cases k <;> try exact no_false hm
    exact WS.of ps_doc (h g H σ si)
  · exact WS.of ps_pass (h g H σ si)
theorem sims_brk : SimS .brk := by
  intro X W N sc lv g0 g H0 Hb H zb σ env st s D c si hm hr h
  have h : ∀ g H σ, SI X.K g0 H0 zb Hb g H σ env st → D.bk σ H := h
  cases s <;> try exact no_false hm
  exact WS.of ps_break (h g H σ si)
theorem sims_cnt : SimS .cnt := by
  intro X W N sc lv g0 g H0 Hb H zb σ env st s D c si hm hr h
  have h : ∀ g H σ, SI X.K g0 H0 zb Hb g H σ env st → D.ct σ H := h
  cases s <;> try exact no_false hm
  exact WS.of ps_continue (h g H σ si)
theorem sims_never : SimS .never := fun {X W N sc lv g0 g H0 Hb H zb σ env st} s D c si hm hr h => h.elim
theorem sims_exp {e : Ex} (he : SimE e) : SimS (.exp e) := by
  intro X W N sc lv g0 g H0 Hb H zb σ env st s D c si hm hr h
  cases s <;> try exact no_false hm
  rename_i e' p
  obtain ⟨h1, h2⟩ := cond_true hm
  refine WS.of (ps_expr pe_we (sw_none h1)) (he e' true _ (si.at_ c) h2 hr (PostS.sr si h fun x st1 g1 v H1 i1 s1 r1 h1 => ?_))
  exact h1 g1 H1 σ i1
theorem step_val {K : PySem.W.Frag} {g0 g g1 : G} {H0 Hb H H1 : Hp} {zb : Addr → Prop} {st1 : Store} {σ : L2.St} {env : Env} {st : Store} {v : V} {x : RV} (si : SI K g0 H0 zb Hb g H σ env st) (i1 : SI K g0 H0 zb Hb g1 H1 σ env st1) (s1 : Step g H g1 H1) (r : ROut K false g1 H1 H v x) :
    ∃ g2, SI K g0 H0 zb Hb g2 H1 σ env st1 ∧ RVal K g2 H1 v x.v := by
  obtain ⟨g2, s2, o2, r2⟩ := r.frozenV s1 i1.ok
  exact ⟨g2, si.step s2 o2, r2⟩
theorem sims_ret {e : Ex} (he : SimE e) : SimS (.ret e) := by
  intro X W N sc lv g0 g H0 Hb H zb σ env st s D c si hm hr h
  cases s <;> try exact no_false hm
  rename_i o p
  -- the plain road
  have go : ∀ e', mE N e sc e' = true → PostS X.K X.mg W g0 H0 zb Hb ((evE e false env st).sr env fun x st => .rt x st) D → WS X (.Return (some e') p) D σ H := by
    intro e' hm h
    refine WS.of (ps_ret pe_we) (he e' false _ (si.at_ c) hm hr (PostS.sr si h fun x st1 g1 v H1 i1 s1 r1 h1 => ?_))
    exact h1 g1 H1 v i1.s i1.ok (based_e _ _ _ _ _ _ (fun a ha => si.s.gone a ha) r1)
  cases o with
  | none =>
    cases e <;> try exact no_false hm
    rename_i l
    cases l <;> try exact no_false hm
    refine WS.of ps_retN ?_
    exact h g H .non si.s si.ok .none
  | some e' =>
    have hm : mE N e sc e' = true := hm
    cases e with
    | var i =>
      cases hs : env[i]? with
      | none =>
        refine go e' hm ?_
        simp only [evS, hs] at h
        exact h
      | some sl =>
        cases sl with
        | un =>
          refine go e' hm ?_
          simp only [evS, hs] at h
          exact h
        | val v =>
          refine go e' hm ?_
          simp only [evS, hs] at h
          exact h
        | own d =>
          simp only [evS, hs] at h
          obtain ⟨x, ex, so⟩ := si.en.slot hs
          obtain ⟨a, rfl, oa⟩ := so
          cases e' with
          | Name x pos =>
            obtain ⟨hm, h3⟩ := cond_true (show (decide (N[i]? = some x) && isVis sc x && okName x) = true from hm)
            obtain ⟨h1, h2⟩ := cond_true hm
            have h1 : N[i]? = some x := of_decide_eq_true h1
            have hd := okName_debug h3
            refine WS.of (ps_ret (pe_var (by rw [c.c.eN]; exact h1) (c.c.vis h2) hd.1 hd.2.1)) ⟨_, ex, ?_⟩
            exact h g H _ si.s si.ok ⟨a, rfl, si.new i d a hs ex, oa⟩
          | _ => exact no_false hm
    | _ => exact go e' hm h
theorem sims_set {i : Nat} {own : Bool} {e : Ex} (he : SimE e) (hlc : ∀ elt ow tg it ifs, e = .comp elt ow tg it ifs → SimE elt ∧ SimI it ∧ SimC ifs) : SimS (.set i own e) := by
  intro X W N sc lv g0 g H0 Hb H zb σ env st s D c si hm hr h
  cases s <;> try exact no_false hm
  rename_i ts e' p
  rcases ts with _ | ⟨t, _ | ⟨_, _⟩⟩ <;> (try exact no_false hm) <;> cases t <;> try exact no_false hm
  rename_i y py
  obtain ⟨hm, h4⟩ := cond_true hm
  obtain ⟨hm, h3⟩ := cond_true hm
  obtain ⟨h1, h2⟩ := cond_true hm
  have h1 : N[i]? = some y := of_decide_eq_true h1
  have hl := c.c.loc h2
  have hN : X.N.Nodup := by rw [c.c.eN]; exact c.c.nd
  have hi : X.N[i]? = some y := by rw [c.c.eN]; exact h1
  have fin : Post X.K X.mg (WS_ W σ) (relE X.K false) g H (evE e false env st) (fun v H1 => gName i v σ H1 D.nx) := by
    refine PostS.sr si (show PostS X.K X.mg W g0 H0 zb Hb ((evE e false env st).sr env fun x st => bif own then (match x with
        | ⟨true, .dat d⟩ => .nx (List.set env i (.own d)) st
        | _ => .no) else .nx (List.set env i (.val x.v)) st) D from h) fun x st1 g1 v H1 i1 s1 r1 h1 => ?_
    cases own with
    | false =>
      have h1 : ∀ g H σ, SI X.K g0 H0 zb Hb g H σ (List.set env i (.val x.v)) st1 → D.nx σ H := h1
      obtain ⟨g2, i2, r2⟩ := step_val si i1 s1 r1
      exact h1 g2 H1 _ (i2.setVal i r2)
    | true =>
      obtain ⟨fr, x⟩ := x
      cases fr <;> cases x <;> try exact h1.elim
      rename_i d
      have h1 : ∀ g H σ, SI X.K g0 H0 zb Hb g H σ (List.set env i (.own d)) st1 → D.nx σ H := h1
      obtain ⟨a, rfl, na, oa⟩ := r1
      refine h1 g1 H1 _ (i1.setOwn i oa (fun j d' hj e1 e2 => ?_) (si.s.gone a na))
      obtain ⟨z, ez, so⟩ := si.en.slot e1
      obtain ⟨b, rfl, ob⟩ := so
      rw [e2] at ez
      cases ez
      exact ob.ne na
  cases hsw : swB sc y py e' with
  | false =>
    refine WS.of (ps_set hN hi hl.1 pe_we (by rw [sw_name c.hk, c.sce, hsw]) hl.2) ?_
    exact he e' false _ (si.at_ c) h3 hr fin
  | true =>
    rw [hsw] at h4
    cases e <;> try exact no_false h4
    rename_i elt ow tg it ifs
    obtain ⟨a1, a2, a3⟩ := hlc _ _ _ _ _ rfl
    cases e' <;> try exact no_false h3
    rename_i elt' gs scope pos
    rcases gs with _ | ⟨⟨tg', it', ifs', n⟩, _ | ⟨_, _⟩⟩ <;> try exact no_false h3
    obtain ⟨hm, h18⟩ := cond_true h3
    obtain ⟨hm, h17⟩ := cond_true hm
    obtain ⟨hm, h16⟩ := cond_true hm
    obtain ⟨hm, h15⟩ := cond_true hm
    obtain ⟨hm, h14⟩ := cond_true hm
    obtain ⟨hm, h13⟩ := cond_true hm
    obtain ⟨h11, h12⟩ := cond_true hm
    have h11 : n = 0 := of_decide_eq_true h11
    subst h11
    have hfold : ∀ x, foldedSetIterable it' X.env x = pure x := by
      intro x
      cases it' <;> first | rfl | exact no_false h14
    have hloc : X.env.scope.names.lookup y = some .local := by
      rw [c.sce]
      have q := (cond_true (cond_true (show (sc.names.lookup y == some .local && py.line == pos.line && !(scope.names.any fun (n, k) => n == y && (k == .local || k == .cell))) = true from hsw)).1).1
      exact eq_of_beq q
    refine WS.of (ps_setLc c.c.calm hN hi hloc (by rw [sw_name c.hk, c.sce, hsw]) pi_wi (blk_ok c.c h12) pg_gB (pt_tB h16) pe_eB hfold) ?_
    exact lc_ok a1 a2 a3 false _ (si.at_ c) h12 h13 h15 h16 h17 h18 hr fin
end MP
/-! Statements: the model does what is reckoned. -/
namespace MP
open PySem PyProof.Rows L2 PySem.Spec
mutual
def tgSlots : Tg → List Nat
  | .nm i => [i]
  | .tup ts => tgsSlots ts
def tgsSlots : Tgs → List Nat
  | .nil => []
  | .cons t ts => tgSlots t ++ tgsSlots ts
end
mutual
theorem tgIn_slots : ∀ (t : Tg) {vs : List Nat}, (∀ i ∈ tgSlots t, i ∈ vs) → tgIn t vs = true
  | .nm i, vs, h => List.contains_iff_mem.mpr (h i (List.mem_singleton.mpr rfl))
  | .tup ts, vs, h => tgsIn_slots ts h
theorem tgsIn_slots : ∀ (t : Tgs) {vs : List Nat}, (∀ i ∈ tgsSlots t, i ∈ vs) → tgsIn t vs = true
  | .nil, vs, h => rfl
  | .cons t ts, vs, h => Bool.and_eq_true_iff.mpr ⟨tgIn_slots t fun i hi => h i (List.mem_append_left _ hi), tgsIn_slots ts fun i hi => h i (List.mem_append_right _ hi)⟩
end
mutual
theorem own_bind : ∀ (t : Tg) {d : MP.D} {env env' : Env} {j : Nat} {x : MP.D}, bindTg t d env = some env' → env'[j]? = some (.own x) → j ∉ tgSlots t ∧ env[j]? = some (.own x)
  | .nm i, d, env, env', j, x, h, e => by
    have h : some (List.set env i (.val (.dat d))) = some env' := h
    cases h
    obtain ⟨n, e⟩ := set_other (t := .un) (fun _ h => by cases h) e
    exact ⟨fun q => n (List.mem_singleton.mp q).symm, e⟩
  | .tup ts, d, env, env', j, x, h, e => by
    cases d <;> try exact no_some h
    · exact owns_bind ts h e
    · exact owns_bind ts h e
theorem owns_bind : ∀ (t : Tgs) {d : List MP.D} {env env' : Env} {j : Nat} {x : MP.D}, bindTgs t d env = some env' → env'[j]? = some (.own x) → j ∉ tgsSlots t ∧ env[j]? = some (.own x)
  | .nil, d, env, env', j, x, h, e => by
    cases d <;> try exact no_some h
    have h : some env = some env' := h
    cases h
    exact ⟨List.not_mem_nil, e⟩
  | .cons t ts, d, env, env', j, x, h, e => by
    cases d <;> try exact no_some h
    rename_i d ds
    have h : (match bindTg t d env with | some env' => bindTgs ts ds env' | none => none) = some env' := h
    cases h1 : bindTg t d env with
    | none =>
      rw [h1] at h
      exact no_some h
    | some env1 =>
      rw [h1] at h
      obtain ⟨n2, e2⟩ := owns_bind ts h e
      obtain ⟨n1, e1⟩ := own_bind t h1 e2
      exact ⟨fun q => (List.mem_append.mp q).elim n1 n2, e1⟩
end
theorem wipe_get {σ : L2.St} {j : Nat} : ∀ {vs : List Nat}, j ∉ vs → (L2.wipe σ vs)[j]? = σ[j]?
  | [], _ => rfl
  | v :: vs, h => by
    show ((L2.wipe σ vs).set v none)[j]? = _
    rw [List.getElem?_set_ne (fun e => h (by rw [e]; exact List.mem_cons_self)), wipe_get fun q => h (List.mem_cons_of_mem _ q)]
section
variable {K : PySem.W.Frag} {g0 g : G} {H0 Hb H : Hp} {zb : Addr → Prop} {st : Store} {σ : L2.St} {env env' : Env}
/-- a target's slots are stored -/
theorem si_tg {X : Cx} {W : WX} {N : List Str} {sc : Scope} {lv : Nat} {t : Tg} {e : Expr} {v : V} {d : MP.D} {Q : L2.St → Hp → Prop} (c : CtxOk X W N sc lv) (si : SI X.K g0 H0 zb Hb g H σ env st) (hm : mTg N t sc e = true) (r : RD X.K g.Z H v d) (hb : bindTg t d env = some env')
    (q : ∀ σ', SI X.K g0 H0 zb Hb g H σ' env' st → Q σ' H) : WG X e v σ H Q := by
  refine tg_ok c (tgSlots t) t hm si.en r hb fun σ' en' w => q σ' ⟨si.s, si.ok, en', fun i d a e1 e2 => ?_, si.h⟩
  obtain ⟨n, e3⟩ := own_bind t hb e1
  have w := w (tgIn_slots t fun _ h => h)
  refine si.new i d a e3 ?_
  have q1 : (L2.wipe σ (tgSlots t))[i]? = σ[i]? := wipe_get n
  have q2 : (L2.wipe σ' (tgSlots t))[i]? = σ'[i]? := wipe_get n
  rw [← q1, ← w, q2]
  exact e2
end
theorem sole_tuple {env : PySem.Env} {e : Expr} {ts : List Expr} {k : Nat} {p : Pos} {l : Nat} : swapsWithSole [.Tuple ts k p] e l env = pure false := sw_tuple (env := env) (e := e) (ts := ts) (k := k) (p := p) (l := l)
theorem sims_setT {ts : Tgs} {e : Ex} (he : SimE e) : SimS (.setT ts e) := by
  intro X W N sc lv g0 g H0 Hb H zb σ env st s D c si hm hr h
  cases s <;> try exact no_false hm
  rename_i us e' p
  rcases us with _ | ⟨t, _ | ⟨_, _⟩⟩ <;> (try exact no_false hm) <;> cases t <;> try exact no_false hm
  rename_i es k tp
  obtain ⟨hm, h3⟩ := cond_true hm
  obtain ⟨hT, h2⟩ := cond_true hm
  have h3 : ssB sc (.Tuple es k tp) e' = some none := of_decide_eq_true h3
  have hw : swappedStores [.Tuple es k tp] e' X.env = pure none := ss_ok c.hk (by rw [c.sce]; exact h3)
  refine WS.of (ps_asg pe_we pg_wg sole_tuple hw) ?_
  refine he e' false _ (si.at_ c) h2 hr (PostS.sr si h fun x st1 g1 v H1 i1 s1 r1 h1 => ?_)
  obtain ⟨d, ed, h1⟩ := h1.dat
  obtain ⟨g2, i2, r2⟩ := step_val si i1 s1 r1
  rw [ed] at r2
  cases hb : bindTg (.tup ts) d env with
  | none =>
    rw [hb] at h1
    exact h1.elim
  | some env' =>
    rw [hb] at h1
    exact si_tg (t := .tup ts) c.c i2 (show mTg N (.tup ts) sc (.Tuple es k tp) = true from hT) r2 hb fun σ' i3 => h1 g2 H1 σ' i3
theorem sims_par {ts : List Nat} {es : Exs} (hs : SimA es) : SimS (.par ts es) := by
  intro X W N sc lv g0 g H0 Hb H zb σ env st s D c si hm hr h
  cases s <;> try exact no_false hm
  rename_i us e' p
  rcases us with _ | ⟨t, _ | ⟨_, _⟩⟩ <;> (try exact no_false hm) <;> cases t <;> (try exact no_false hm) <;> cases e' <;> try exact no_false hm
  rename_i tl k tp vs k2 p2
  obtain ⟨h0, hm⟩ := cond_true hm
  have hN : X.N.Nodup := by rw [c.c.eN]; exact c.c.nd
  have run : ∀ (Q : List V → Hp → Prop), (∀ g1 H1 ds st1 us, SI X.K g0 H0 zb Hb g1 H1 σ env st1 → RDs X.K g1.Z H1 us ds → PostS X.K X.mg W g0 H0 zb Hb (match putVals ts ds env with
    | some env' => .nx env' st1
    | none => .no) D → Q us H1) → WA X vs σ H Q := fun Q q => hs vs Q (si.at_ c) h0 hr (PostS.sr si h fun ds st1 g1 us H1 i1 s1 r1 h1 => q g1 H1 ds st1 us i1 r1 h1)
  rcases ts with _ | ⟨i, _ | ⟨j, _ | ⟨l, _ | ⟨_, _⟩⟩⟩⟩ <;> try exact no_false hm
  · rcases tl with _ | ⟨t1, _ | ⟨t2, _ | ⟨_, _⟩⟩⟩ <;> (try (cases t1 <;> exact no_false hm)) <;> (try exact no_false hm) <;> cases t1 <;> (try exact no_false hm) <;> cases t2 <;> (try exact no_false hm)
    rename_i x px y py
    obtain ⟨hm, h7⟩ := cond_true hm
    obtain ⟨hm, h6⟩ := cond_true hm
    obtain ⟨hm, h5⟩ := cond_true hm
    obtain ⟨hm, h4⟩ := cond_true hm
    obtain ⟨hm, h3⟩ := cond_true hm
    obtain ⟨h1, h2⟩ := cond_true hm
    have h1 := of_decide_eq_true h1
    have h2 := of_decide_eq_true h2
    have h3 := of_decide_eq_true h3
    have h4 := of_decide_eq_true h4
    have h5 := of_decide_eq_true h5
    have h6 := of_decide_eq_true h6
    have h7 := of_decide_eq_true h7
    rcases vs with _ | ⟨a, _ | ⟨b, _ | ⟨_, _⟩⟩⟩ <;> try (cases h1)
    refine WS.of (ps_par c.c.calm hN (by rw [c.c.eN]; exact h2) (by rw [c.c.eN]; exact h3) h4 (by rw [c.sce]; exact h5) (by rw [c.sce]; exact h6) pa_wa (ss_ok c.hk (by rw [c.sce]; exact h7)) sole_tuple) ?_
    refine run _ fun g1 H1 ds st1 us i1 r1 h1 => ?_
    rcases ds with _ | ⟨d1, _ | ⟨d2, _ | ⟨_, _⟩⟩⟩ <;> try exact h1.elim
    obtain _ | ⟨r1, _ | ⟨r2, _⟩⟩ := r1
    rename_i v w us hus
    cases hus
    exact ⟨v, w, rfl, h1 g1 H1 _ ((i1.setVal (x := .dat d1) i r1).setVal (x := .dat d2) j r2)⟩
  · rcases tl with _ | ⟨t1, _ | ⟨t2, _ | ⟨t3, _ | ⟨_, _⟩⟩⟩⟩ <;> (try exact no_false hm) <;> cases t1 <;> (try exact no_false hm) <;> cases t2 <;> (try exact no_false hm) <;> cases t3 <;> (try exact no_false hm)
    rename_i x px y py z pz
    obtain ⟨hm, h11⟩ := cond_true hm
    obtain ⟨hm, h10⟩ := cond_true hm
    obtain ⟨hm, h9⟩ := cond_true hm
    obtain ⟨hm, h8⟩ := cond_true hm
    obtain ⟨hm, h7⟩ := cond_true hm
    obtain ⟨hm, h6⟩ := cond_true hm
    obtain ⟨hm, h5⟩ := cond_true hm
    obtain ⟨hm, h4⟩ := cond_true hm
    obtain ⟨hm, h3⟩ := cond_true hm
    obtain ⟨h1, h2⟩ := cond_true hm
    have h1 := of_decide_eq_true h1
    have h2 := of_decide_eq_true h2
    have h3 := of_decide_eq_true h3
    have h4 := of_decide_eq_true h4
    have h5 := of_decide_eq_true h5
    have h6 := of_decide_eq_true h6
    have h7 := of_decide_eq_true h7
    have h8 := of_decide_eq_true h8
    have h9 := of_decide_eq_true h9
    have h10 := of_decide_eq_true h10
    have h11 := of_decide_eq_true h11
    rcases vs with _ | ⟨a, _ | ⟨b, _ | ⟨b3, _ | ⟨_, _⟩⟩⟩⟩ <;> try (cases h1)
    refine WS.of (ps_par3 c.c.calm hN (by rw [c.c.eN]; exact h2) (by rw [c.c.eN]; exact h3) (by rw [c.c.eN]; exact h4) h5 h6 h7 (by rw [c.sce]; exact h8) (by rw [c.sce]; exact h9) (by rw [c.sce]; exact h10) pa_wa (ss_ok c.hk (by rw [c.sce]; exact h11)) sole_tuple) ?_
    refine run _ fun g1 H1 ds st1 us i1 r1 h1 => ?_
    rcases ds with _ | ⟨d1, _ | ⟨d2, _ | ⟨d3, _ | ⟨_, _⟩⟩⟩⟩ <;> try exact h1.elim
    obtain _ | ⟨r1, _ | ⟨r2, _ | ⟨r3, _⟩⟩⟩ := r1
    rename_i u v w us hus
    cases hus
    exact ⟨_, _, _, rfl, h1 g1 H1 _ (((i1.setVal (x := .dat d1) i r1).setVal (x := .dat d2) j r2).setVal (x := .dat d3) l r3)⟩
/-! ### new lists stored by a tuple of targets -/
inductive RSl (K : PySem.W.Frag) (g : G) (H H0 : Hp) : List V → List Slot → Prop
  | nil : RSl K g H H0 [] []
  | val {v : V} {d : MP.D} {vs : List V} {ss : List Slot} : RD K g.Z H v d → RSl K g H H0 vs ss → RSl K g H H0 (v :: vs) (.val (.dat d) :: ss)
  | own {a : Addr} {d : MP.D} {vs : List V} {ss : List Slot} : H0 a = none → OwnAt K g H a d → (∀ (i : Nat) d', ss[i]? = some (.own d') → vs[i]? ≠ some (.ref a)) → RSl K g H H0 vs ss → RSl K g H H0 (.ref a :: vs) (.own d :: ss)
section
variable {K : PySem.W.Frag} {mg : Str → Option Value} {g g1 g0 : G} {H H0 H1 H2 Hb : Hp} {zb : Addr → Prop} {st st1 : Store} {σ : L2.St} {env env' : Env}
theorem RSl.none : ∀ {vs : List V} {ss : List Slot} {i : Nat} {d : MP.D} {a : Addr}, RSl K g H H0 vs ss → ss[i]? = some (.own d) → vs[i]? = some (.ref a) → H0 a = Option.none
  | _, _, _, _, _, .nil, e, _ => by simp at e
  | _, _, 0, _, _, .val _ _, e, _ => by simp at e
  | _, _, 0, _, _, .own n _ _ _, e, q => by
    simp at q
    subst q
    exact n
  | _, _, i + 1, _, _, .val _ r, e, q => RSl.none (i := i) r (by simpa using e) (by simpa using q)
  | _, _, i + 1, _, _, .own _ _ _ r, e, q => RSl.none (i := i) r (by simpa using e) (by simpa using q)
theorem RSl.base (h : ∀ a, H1 a = Option.none → H0 a = Option.none) : ∀ {vs : List V} {ss : List Slot}, RSl K g H H1 vs ss → RSl K g H H0 vs ss
  | _, _, .nil => .nil
  | _, _, .val r t => .val r (t.base h)
  | _, _, .own n o p t => .own (h _ n) o p (t.base h)
theorem RSl.step (s : Step g H g1 H1) (o : Ok K g H st) : ∀ {vs : List V} {ss : List Slot}, RSl K g H H0 vs ss → RSl K g1 H1 H0 vs ss
  | _, _, .nil => .nil
  | _, _, .val r t => .val (RD.holds (s.holds o) r) (t.step s o)
  | _, _, .own n oa p t => .own n (oa.step s o) p (t.step s o)
abbrev relS (K : PySem.W.Frag) : Hp → G → Hp → List V → List Slot → Prop := fun H0 g H v x => RSl K g H H0 v x
def SimR (fs : List Bool) (m : Exs) : Prop := ∀ {X : Cx} {W : WX} {N : List Str} {sc : Scope} {lv : Nat} {g : G} {H : Hp} {σ : L2.St} {env : Env} {st : Store} (es : List Expr) (Q : List V → Hp → Prop), At X W N sc lv g H σ env st → mEs N m sc es = true → Rqs X lv (rqEs m) →
  Post X.K X.mg (WS_ W σ) (relS X.K) g H (evR fs m env st) Q → WA X es σ H Q
theorem Post.two {α β γ δ : Type} {W : Value → Option Addr → Hp → Prop} {Rl : Hp → G → Hp → β → α → Prop} {Rm : Hp → G → Hp → δ → γ → Prop} {r : R α} {f : α → Store → R γ} {Q : δ → Hp → Prop} {Q1 : β → Hp → Prop} (s1 : Step g H g1 H1) (h : Post K mg W Rm g H (r.bind f) Q)
    (k : ∀ x st g3 v H3, Step g1 H1 g3 H3 → Ok K g3 H3 st → Rl H1 g3 H3 v x → Post K mg W Rm g H (f x st) Q → Q1 v H3) : Post K mg W Rl g1 H1 r Q1 := by
  cases r with
  | ok x st => exact fun g' v H' s o q => k x st g' v H' s o q h
  | exc c ds st => exact fun g' cls d H' s o q => h g' cls d H' (s1.trans s) o q
  | no => exact h
theorem simR_nil : SimR [] .nil := by
  intro X W N sc lv g H σ env st es Q at_ hm hr h
  cases es <;> try exact no_false hm
  exact WA.of pa_nil (h g [] H .refl at_.ok .nil)
theorem simR_no {fs : List Bool} {m : Exs} (hn : ∀ env st, evR fs m env st = .no) : SimR fs m := by
  intro X W N sc lv g H σ env st es Q at_ hm hr h
  rw [hn] at h
  exact h.elim
theorem simR_cons {b : Bool} {fs : List Bool} {e : Ex} {es : Exs} (ih : SimR fs es) : SimR (b :: fs) (.cons e es) := by
  intro X W N sc lv g H σ env st l Q at_ hm hr h
  cases l <;> try exact no_false hm
  rename_i e' r'
  obtain ⟨hm, h3⟩ := cond_true hm
  obtain ⟨h1, h2⟩ := cond_true hm
  have h : Post X.K X.mg (WS_ W σ) (relS X.K) g H ((evE e false env st).bind fun x st => bif b then (match x with
    | ⟨true, .dat d⟩ => (evR fs es env st).bind fun ss st => .ok (.own d :: ss) st
    | _ => .no) else (datOf x st).bind fun d st => (evR fs es env st).bind fun ss st => .ok (.val (.dat d) :: ss) st) Q := h
  refine WA.of (pa_cons pe_we pa_wa (starEach_cons h1)) ((sim e).1 e' false _ at_ h2 hr.left (Post.two .refl h fun x st1 g1 v H1 s1 o1 r1 h1 => ?_))
  cases b with
  | false =>
    have h1 : Post X.K X.mg (WS_ W σ) (relS X.K) g H ((datOf x st1).bind fun d st => (evR fs es env st).bind fun ss st => .ok (.val (.dat d) :: ss) st) Q := h1
    obtain ⟨d, ed, h1⟩ := Post.dat h1
    obtain ⟨g2, s2, o2, r2, _⟩ := r1.frozen s1 o1 ed
    refine ih r' _ (at_.on s2 o2) h3 hr.right (Post.two s2 h1 fun vs st3 g3 us H3 s3 o3 r3 h3 => ?_)
    exact h3 g3 (v :: us) H3 (s2.trans s3) o3 (.val (RD.holds (s3.holds o2) r2) (r3.base fun a q => s2.gone a q))
  | true =>
    obtain ⟨fr, y⟩ := x
    cases fr with
    | false => exact (show False from h1).elim
    | true =>
      cases y with
      | loc _ => exact (show False from h1).elim
      | dat d =>
        obtain ⟨a, rfl, n0, oa⟩ := r1
        refine ih r' _ (at_.on s1 o1) h3 hr.right (Post.two s1 h1 fun vs st3 g3 us H3 s3 o3 r3 h3 => ?_)
        refine h3 g3 (.ref a :: us) H3 (s1.trans s3) o3 (.own n0 (oa.step s3 o1) (fun i d' e1 e2 => ?_) (r3.base fun a q => s1.gone a q))
        exact oa.ne (r3.none e1 e2)
theorem simR : ∀ (fs : List Bool) (m : Exs), SimR fs m
  | [], .nil => simR_nil
  | _ :: _, .nil => simR_no fun _ _ => rfl
  | [], .cons _ _ => simR_no fun _ _ => rfl
  | [], .star _ _ => simR_no fun _ _ => rfl
  | _ :: _, .star _ _ => simR_no fun _ _ => rfl
  | _ :: fs, .cons _ es => simR_cons (simR fs es)
def putV : List Nat → List V → L2.St → L2.St
  | i :: is, v :: vs, σ => putV is vs (σ.set i (some v))
  | _, _, σ => σ
theorem si_puts (hg : ∀ a, H1 a = none → H0 a = none) : ∀ (ts : List Nat) {us : List V} {ss : List Slot} {σ : L2.St} {env env' : Env}, SI K g0 H0 zb Hb g H σ env st → RSl K g H H1 us ss →
    (∀ (j : Nat) d b a d' (m : Nat), env[j]? = some (.own d) → σ[j]? = some (some (.ref b)) → ss[m]? = some (.own d') → us[m]? = some (.ref a) → b ≠ a) → putSlots ts ss env = some env' → SI K g0 H0 zb Hb g H (putV ts us σ) env' st ∧ us.length = ts.length
  | [], us, ss, σ, env, env', si, r, ap, hp => by
    cases r with
    | nil =>
      cases hp
      exact ⟨si, rfl⟩
    | val _ _ => cases hp
    | own _ _ _ _ => cases hp
  | i :: is, us, ss, σ, env, env', si, r, ap, hp => by
    cases r with
    | nil => cases hp
    | val r1 r2 =>
      rename_i v d vs ss
      obtain ⟨h1, h2⟩ := si_puts hg is (si.setVal (x := .dat d) i r1) r2 (fun j d' b a d'' m e1 e2 e3 e4 => by
        obtain ⟨n, e1⟩ := set_other (t := .un) (fun _ h => by cases h) e1
        rw [List.getElem?_set_ne n] at e2
        exact ap j d' b a d'' (m + 1) e1 e2 (by simpa using e3) (by simpa using e4)) hp
      exact ⟨h1, congrArg Nat.succ h2⟩
    | own n0 oa pa r2 =>
      rename_i a d vs ss
      have far : ∀ (j : Nat) (d' : MP.D), j ≠ i → env[j]? = some (Slot.own d') → σ[j]? ≠ some (some (V.ref a)) := fun j d' _ e1 e2 => ap j d' a a d 0 e1 e2 rfl rfl rfl
      obtain ⟨h1, h2⟩ := si_puts hg is (si.setOwn i oa far (hg a n0)) r2 (fun j d' b c d'' m e1 e2 e3 e4 => by
        by_cases hj : i = j
        · subst hj
          rw [List.getElem?_set] at e2
          split at e2
          · split at e2
            · cases e2
              exact fun q => pa m d'' e3 (q ▸ e4)
            · cases e2
          · rename_i h
            exact absurd rfl h
        · rw [List.getElem?_set_ne hj] at e1 e2
          exact ap j d' b c d'' (m + 1) e1 e2 (by simpa using e3) (by simpa using e4)) hp
      exact ⟨h1, congrArg Nat.succ h2⟩
end
theorem sims_parO {ts : List Nat} {fs : List Bool} {es : Exs} : SimS (.parO ts fs es) := by
  intro X W N sc lv g0 g H0 Hb H zb σ env st s D c si hm hr h
  cases s <;> try exact no_false hm
  rename_i us e' p
  rcases us with _ | ⟨t, _ | ⟨_, _⟩⟩ <;> (try exact no_false hm) <;> cases t <;> (try exact no_false hm) <;> cases e' <;> try exact no_false hm
  rename_i tl k tp vs k2 p2
  obtain ⟨h0, hm⟩ := cond_true hm
  have hN : X.N.Nodup := by rw [c.c.eN]; exact c.c.nd
  have run : ∀ (Q : List V → Hp → Prop), (∀ g1 H1 ss st1 us, SI X.K g0 H0 zb Hb g1 H1 σ env st1 → RSl X.K g1 H1 H us ss → (∀ (j : Nat) (d : MP.D) (b : Addr), env[j]? = some (Slot.own d) → σ[j]? = some (some (V.ref b)) → H b ≠ none) → (∀ a, H a = none → H0 a = none) → PostS X.K X.mg W g0 H0 zb Hb (match putSlots ts ss env with
    | some env' => .nx env' st1
    | none => .no) D → Q us H1) → WA X vs σ H Q := fun Q q => simR fs es vs Q (si.at_ c) h0 hr (PostS.sr si h fun ss st1 g1 us H1 i1 s1 r1 h1 => q g1 H1 ss st1 us i1 r1 (fun j d b e1 e2 => by
      obtain ⟨x, ex, so⟩ := si.en.slot e1
      rw [e2] at ex
      cases ex
      obtain ⟨a, ea, oa⟩ := so
      cases ea
      exact oa.ne) si.s.gone h1)
  rcases ts with _ | ⟨i, _ | ⟨j, _ | ⟨l, _ | ⟨_, _⟩⟩⟩⟩ <;> try exact no_false hm
  · rcases tl with _ | ⟨t1, _ | ⟨t2, _ | ⟨_, _⟩⟩⟩ <;> (try (cases t1 <;> exact no_false hm)) <;> (try exact no_false hm) <;> cases t1 <;> (try exact no_false hm) <;> cases t2 <;> (try exact no_false hm)
    rename_i x px y py
    obtain ⟨hm, h5⟩ := cond_true hm
    obtain ⟨hm, h4⟩ := cond_true hm
    obtain ⟨hm, h3⟩ := cond_true hm
    obtain ⟨h1, h2⟩ := cond_true hm
    have h1 := of_decide_eq_true h1
    have h2 := of_decide_eq_true h2
    have h3 := of_decide_eq_true h3
    have h4 := of_decide_eq_true h4
    rcases vs with _ | ⟨a, _ | ⟨b, _ | ⟨_, _⟩⟩⟩ <;> try (cases h1)
    rcases Bool.or_eq_true_iff.mp h5 with hq | hq
    · obtain ⟨hq, h7⟩ := cond_true hq
      obtain ⟨h5, h6⟩ := cond_true hq
      have h5 := of_decide_eq_true h5
      have h6 := of_decide_eq_true h6
      have h7 := of_decide_eq_true h7
      refine WS.of (ps_par c.c.calm hN (by rw [c.c.eN]; exact h2) (by rw [c.c.eN]; exact h3) h4 (by rw [c.sce]; exact h5) (by rw [c.sce]; exact h6) pa_wa (ss_ok c.hk (by rw [c.sce]; exact h7)) sole_tuple) ?_
      refine run _ fun g1 H1 ss st1 us i1 r1 ho hg h1 => ?_
      cases hp : putSlots [i, j] ss env with
      | none =>
        rw [hp] at h1
        exact h1.elim
      | some env' =>
        rw [hp] at h1
        obtain ⟨i2, hl⟩ := si_puts hg [i, j] i1 r1 (fun k d b a d' m e1 e2 e3 e4 q => ho k d b e1 e2 (q ▸ r1.none e3 e4)) hp
        match us, hl with
        | [v, w], _ => exact ⟨v, w, rfl, h1 g1 H1 _ i2⟩
    · obtain ⟨hq, h7⟩ := cond_true hq
      obtain ⟨h5, h6⟩ := cond_true hq
      have h7 := of_decide_eq_true h7
      refine WS.of (ps_asg (pe_tup pa_wa) (pg_tup c.c.calm (pgs_cons (pg_name hN (by rw [c.c.eN]; exact h2) (c.c.loc h5).1 (c.c.loc h5).2) (pgs_cons (pg_name hN (by rw [c.c.eN]; exact h3) (c.c.loc h6).1 (c.c.loc h6).2) pgs_nil))) sole_tuple (ss_ok c.hk (by rw [c.sce]; exact h7))) ?_
      refine run _ fun g1 H1 ss st1 us i1 r1 ho hg h1 => ?_
      cases hp : putSlots [i, j] ss env with
      | none =>
        rw [hp] at h1
        exact h1.elim
      | some env' =>
        rw [hp] at h1
        have hl : us.length = 2 := (si_puts hg [i, j] i1 r1 (fun k d b a d' m e1 e2 e3 e4 q => ho k d b e1 e2 (q ▸ r1.none e3 e4)) hp).2
        refine ⟨by rw [hl]; decide, fun q hq => ?_⟩
        have i1' := i1.step (.new (u := .tup us) hq) (i1.ok.new hq)
        have r1' := r1.step (.new (u := .tup us) hq) i1.ok
        obtain ⟨i2, _⟩ := si_puts hg [i, j] i1' r1' (fun k d b a d' m e1 e2 e3 e4 q => ho k d b e1 e2 (q ▸ r1'.none e3 e4)) hp
        match us, hl with
        | [v, w], _ => exact ⟨q, [v, w], rfl, .inl (.inl upd_same), rfl, v, [w], rfl, w, [], rfl, rfl, h1 g1 _ _ i2⟩
  · rcases tl with _ | ⟨t1, _ | ⟨t2, _ | ⟨t3, _ | ⟨_, _⟩⟩⟩⟩ <;> (try exact no_false hm) <;> cases t1 <;> (try exact no_false hm) <;> cases t2 <;> (try exact no_false hm) <;> cases t3 <;> (try exact no_false hm)
    rename_i x px y py z pz
    obtain ⟨hm, h11⟩ := cond_true hm
    obtain ⟨hm, h10⟩ := cond_true hm
    obtain ⟨hm, h9⟩ := cond_true hm
    obtain ⟨hm, h8⟩ := cond_true hm
    obtain ⟨hm, h7⟩ := cond_true hm
    obtain ⟨hm, h6⟩ := cond_true hm
    obtain ⟨hm, h5⟩ := cond_true hm
    obtain ⟨hm, h4⟩ := cond_true hm
    obtain ⟨hm, h3⟩ := cond_true hm
    obtain ⟨h1, h2⟩ := cond_true hm
    have h1 := of_decide_eq_true h1
    have h2 := of_decide_eq_true h2
    have h3 := of_decide_eq_true h3
    have h4 := of_decide_eq_true h4
    have h5 := of_decide_eq_true h5
    have h6 := of_decide_eq_true h6
    have h7 := of_decide_eq_true h7
    have h8 := of_decide_eq_true h8
    have h9 := of_decide_eq_true h9
    have h10 := of_decide_eq_true h10
    have h11 := of_decide_eq_true h11
    rcases vs with _ | ⟨a, _ | ⟨b, _ | ⟨b3, _ | ⟨_, _⟩⟩⟩⟩ <;> try (cases h1)
    refine WS.of (ps_par3 c.c.calm hN (by rw [c.c.eN]; exact h2) (by rw [c.c.eN]; exact h3) (by rw [c.c.eN]; exact h4) h5 h6 h7 (by rw [c.sce]; exact h8) (by rw [c.sce]; exact h9) (by rw [c.sce]; exact h10) pa_wa (ss_ok c.hk (by rw [c.sce]; exact h11)) sole_tuple) ?_
    refine run _ fun g1 H1 ss st1 us i1 r1 ho hg h1 => ?_
    cases hp : putSlots [i, j, l] ss env with
    | none =>
      rw [hp] at h1
      exact h1.elim
    | some env' =>
      rw [hp] at h1
      obtain ⟨i2, hl⟩ := si_puts hg [i, j, l] i1 r1 (fun k d b a d' m e1 e2 e3 e4 q => ho k d b e1 e2 (q ▸ r1.none e3 e4)) hp
      match us, hl with
      | [u, v, w], _ => exact ⟨_, _, _, rfl, h1 g1 H1 _ i2⟩
end MP
/-! Statements: branches, loops, lists of one's own. -/
namespace MP
open PySem PyProof.Rows L2 PySem.Spec
theorem sims_aug {i : Nat} {o : Op2} {e : Ex} (he : SimE e) : SimS (.aug i o e) := by
  intro X W N sc lv g0 g H0 Hb H zb σ env st s D c si hm hr h
  cases s <;> try exact no_false hm
  rename_i t op e' p
  cases t <;> try exact no_false hm
  rename_i x px
  obtain ⟨hm, h4⟩ := cond_true hm
  obtain ⟨hm, h3⟩ := cond_true hm
  obtain ⟨h1, h2⟩ := cond_true hm
  have h1 : N[i]? = some x := of_decide_eq_true h1
  have hl := c.c.loc h2
  have hN : X.N.Nodup := by rw [c.c.eN]; exact c.c.nd
  have hi : X.N[i]? = some x := by rw [c.c.eN]; exact h1
  cases hs : env[i]? with
  | none =>
    simp only [evS, hs] at h
    exact h.elim
  | some sl =>
    cases sl with
    | un =>
      simp only [evS, hs] at h
      exact h.elim
    | own _ =>
      simp only [evS, hs] at h
      exact h.elim
    | val w =>
      cases w with
      | loc n =>
        simp only [evS, hs] at h
        exact h.elim
      | dat w =>
        cases w <;> (try (simp only [evS, hs] at h; exact h.elim))
        rename_i a
        simp only [evS, hs] at h
        obtain ⟨w, hw, so⟩ := si.en.slot hs
        obtain ⟨v, rfl, rv⟩ := so
        have ev : v = .int a := RT.int (.inl rv)
        subst ev
        have fin : ∀ (f : Int → Int → Int), (∀ a b : Int, augI o a b = some (f a b)) → WE X e' σ H fun y H1 => ipI f (.int a) y H1 fun z H2 => D.nx (σ.set i (some z)) H2 := by
          intro f hf
          refine he e' true _ (si.at_ c) h3 hr (PostS.sr si h fun y st1 g1 u H1 i1 s1 r1 h1 => ?_)
          obtain ⟨b, ed, h1⟩ := h1.int
          rw [hf] at h1
          have eu := (r1.rt ed).int
          subst eu
          exact ⟨a, b, rfl, rfl, h1 g1 H1 _ (i1.setVal (x := .dat (.int (f a b))) i (.int _))⟩
        cases o <;> (try exact no_false h4) <;> cases op <;> try exact no_false h4
        · exact WS.of (ps_aug hN hi hl.1 pe_we ip_add hl.2) ⟨_, hw, fin _ fun _ _ => rfl⟩
        · exact WS.of (ps_aug hN hi hl.1 pe_we ip_sub hl.2) ⟨_, hw, fin _ fun _ _ => rfl⟩
theorem sims_ite {e : Ex} {a b : Sms} (he : SimT e) (ha : SimSs a) (hb : SimSs b) : SimS (.ite e a b) := by
  intro X W N sc lv g0 g H0 Hb H zb σ env st s D c si hm hr h
  cases s <;> try exact no_false hm
  rename_i e' a' b' p
  obtain ⟨hm, h3⟩ := cond_true hm
  obtain ⟨h1, h2⟩ := cond_true hm
  have h : PostS X.K X.mg W g0 H0 zb Hb ((evE e true env st).sr env fun x st => (boolOf x st).sr env fun k st => bif k then evSs a env st else evSs b env st) D := h
  rw [← bind_sr (f := boolOf)] at h
  refine WS.of (ps_if pt_wt pss_wss pss_wss) ((he e' _ (si.at_ c) h1 hr.left (PostS.sr si h fun k st1 g1 k' H1 i1 s1 r1 h1' => ?_)).1)
  have r1 : k' = k := r1
  subst r1
  cases k' with
  | true =>
    rw [if_pos rfl]
    exact ha a' D c i1 h2 hr.right.left h1'
  | false =>
    simp only [if_neg Bool.false_ne_true]
    exact hb b' D c i1 h3 hr.right.right h1'
theorem sims_whil {e : Ex} {b : Sms} (he : SimT e) (hb : SimSs b) : SimS (.whil e b) := by
  intro X W N sc lv g0 g H0 Hb H zb σ env st s D c si hm hr h
  cases s <;> try exact no_false hm
  rename_i e' b' o p
  obtain ⟨hm, h3⟩ := cond_true hm
  obtain ⟨h1, h2⟩ := cond_true hm
  cases o with
  | cons _ _ => exact no_false h3
  | nil =>
    refine WS.of (ps_while c.c.passes pt_wt pss_wss) ?_
    refine ⟨fun m σ H => ∃ g env st, SI X.K g0 H0 zb Hb g H σ env st ∧ PostS X.K X.mg W g0 H0 zb Hb (whileL (fun env st => (evE e true env st).bind fun x st => boolOf x st) (evSs b) m env st) D, ⟨WF, g, env, st, si, h⟩, ?_⟩
    rintro m σ H ⟨g, env, st, si, h⟩
    cases m with
    | zero => exact h.elim
    | succ m =>
      refine (he e' _ (si.at_ c) h1 hr.left (PostS.sr si (show PostS X.K X.mg W g0 H0 zb Hb (((evE e true env st).bind fun x st => boolOf x st).sr env fun k st => bif k then turn (evSs b env st) (whileL (fun env st => (evE e true env st).bind fun x st => boolOf x st) (evSs b) m) else .nx env st) D from h) fun k st1 g1 k' H1 i1 s1 r1 h1' => ?_)).1
      have r1 : k' = k := r1
      subst r1
      cases k' with
      | true =>
        rw [if_pos rfl]
        refine ⟨fun σ H => ∃ g env st, SI X.K g0 H0 zb Hb g H σ env st ∧ PostS X.K X.mg W g0 H0 zb Hb (whileL (fun env st => (evE e true env st).bind fun x st => boolOf x st) (evSs b) m env st) D, fun σ' H' q => ⟨m, Nat.lt_succ_self m, q⟩, ?_⟩
        exact hb b' _ c i1 h2 hr.right (PostS.turn h1' fun env st g H σ i q => ⟨g, env, st, i, q⟩)
      | false =>
        simp only [if_neg Bool.false_ne_true]
        exact h1' g1 H1 σ i1
theorem sims_for {tg : Tg} {it : It} {b : Sms} (hi : SimI it) (hb : SimSs b) : SimS (.forr tg it b) := by
  intro X W N sc lv g0 g H0 Hb H zb σ env st s D c si hm hr h
  cases s <;> try exact no_false hm
  rename_i tg' it' b' o p
  obtain ⟨hm, h5⟩ := cond_true hm
  obtain ⟨hm, h4⟩ := cond_true hm
  obtain ⟨hm, h3⟩ := cond_true hm
  obtain ⟨h1, h2⟩ := cond_true hm
  cases o with
  | cons _ _ => exact no_false h5
  | nil =>
    have hfold : ∀ x, foldedSetIterable it' X.env x = pure x := by
      intro x
      cases it' <;> first | rfl | exact no_false h2
    refine WS.of (ps_for c.c.passes c.c.calm pi_wi pg_wg pss_wss hfold) ?_
    refine hi tg' it' _ (si.at_ c) h3 hr.left (PostS.sr si h fun items st1 g1 J H1 i1 s1 pres h1' => ?_)
    have pres : Pres X.K g1 H1 J items := pres
    refine ⟨fun i m σ H => i + m = items.length ∧ ∃ g env st, SI X.K g0 H0 g1.Z H1 g H σ env st ∧ PostS X.K X.mg W g0 H0 g1.Z H1 (forL tg (evSs b) (items.drop i) env st) D, ⟨items.length, Nat.zero_add _, g1, env, st1, ⟨i1.s, i1.ok, i1.en, i1.new, .refl⟩, by rw [List.drop_zero]; exact h1'.rebase i1.h⟩, ?_⟩
    rintro i m σ H ⟨him, g, env, st, si, h⟩
    by_cases hlt : i < items.length
    · refine .inr ⟨pres.go g H i si.h hlt, fun σ H => ∃ m', m' < m ∧ (i + 1) + m' = items.length ∧ ∃ g env st, SI X.K g0 H0 g1.Z H1 g H σ env st ∧ PostS X.K X.mg W g0 H0 g1.Z H1 (forL tg (evSs b) (items.drop (i + 1)) env st) D, fun σ' H' ⟨m', hm', q⟩ => ⟨m', hm', q⟩, fun x H2 hy => ?_⟩
      obtain ⟨d, hd, sy, oy, rx⟩ := pres.yld g H st i x H2 si.h si.ok hy hlt
      have hdrop : items.drop i = d :: items.drop (i + 1) := by
        have e := List.drop_eq_getElem_cons hlt
        rw [List.getElem?_eq_getElem hlt] at hd
        rw [e, Option.some.inj hd]
      rw [hdrop] at h
      have i2 := si.step sy oy
      have h : PostS X.K X.mg W g0 H0 g1.Z H1 (match bindTg tg d env with
        | none => .no
        | some env' => turn (evSs b env' st) (forL tg (evSs b) (items.drop (i + 1)))) D := h
      cases hbt : bindTg tg d env with
      | none =>
        rw [hbt] at h
        exact h.elim
      | some env' =>
        rw [hbt] at h
        refine si_tg c.c i2 h1 rx hbt fun σ' i3 => ?_
        exact hb b' _ c i3 h4 hr.right (PostS.turn h fun env st g H σ i q => ⟨m - 1, by omega, by omega, g, env, st, i, q⟩)
    · refine .inl ⟨?_, ?_⟩
      · have e : i = items.length := by omega
        subst e
        exact pres.stop g H si.h
      · have e : items.drop i = [] := List.drop_eq_nil_of_le (by omega)
        rw [e] at h
        exact h g H σ si
end MP
/-! Statements: lists of one's own, cells; all together. -/
namespace MP
open PySem PyProof.Rows L2 PySem.Spec
/-- a slot with a list of ours -/
theorem own_slot {K : PySem.W.Frag} {g0 g : G} {H0 Hb H : Hp} {zb : Addr → Prop} {st : Store} {σ : L2.St} {env : Env} {i : Nat} {xs : List MP.D} (si : SI K g0 H0 zb Hb g H σ env st) (hs : env[i]? = some (.own (.list xs))) :
    ∃ a vs, σ[i]? = some (some (.ref a)) ∧ H a = some (.lst vs) ∧ RDs K g.Z H vs xs ∧ ¬ g.Z a ∧ a ∉ g.rho := by
  obtain ⟨x, ex, so⟩ := si.en.slot hs
  obtain ⟨a, rfl, vs, e, r, z, n⟩ := so
  exact ⟨a, vs, ex, e, r, z, n⟩
theorem own_dict {K : PySem.W.Frag} {g0 g : G} {H0 Hb H : Hp} {zb : Addr → Prop} {st : Store} {σ : L2.St} {env : Env} {i : Nat} {xs : List (MP.D × MP.D)} (si : SI K g0 H0 zb Hb g H σ env st) (hs : env[i]? = some (.own (.dict xs))) :
    ∃ a vs, σ[i]? = some (some (.ref a)) ∧ H a = some (.dK vs) ∧ RKs K g.Z H vs xs ∧ ¬ g.Z a ∧ a ∉ g.rho := by
  obtain ⟨x, ex, so⟩ := si.en.slot hs
  obtain ⟨a, rfl, vs, e, r, z, n⟩ := so
  exact ⟨a, vs, ex, e, r, z, n⟩
theorem sims_app {i : Nat} {e : Ex} (he : SimE e) : SimS (.app i e) := by
  intro X W N sc lv g0 g H0 Hb H zb σ env st s D c si hm hr h
  cases s <;> try exact no_false hm
  rename_i e0 p
  cases e0 <;> try exact no_false hm
  rename_i f args kws cp
  cases f <;> try exact no_false hm
  rename_i o m ap
  cases o <;> try exact no_false hm
  rename_i x px
  rcases args with _ | ⟨e', _ | ⟨_, _⟩⟩ <;> try exact no_false hm
  cases kws <;> try exact no_false hm
  obtain ⟨hm, h7⟩ := cond_true hm
  obtain ⟨hm, h6⟩ := cond_true hm
  obtain ⟨hm, h5⟩ := cond_true hm
  obtain ⟨hm, h4⟩ := cond_true hm
  obtain ⟨hm, h3⟩ := cond_true hm
  obtain ⟨h1, h2⟩ := cond_true hm
  have h1 : N[i]? = some x := of_decide_eq_true h1
  have h4 : m = "append" := of_decide_eq_true h4
  subst h4
  have h5 : ap.endLine = cp.line := of_decide_eq_true h5
  have hd := okName_debug h3
  cases hs : env[i]? with
  | none =>
    simp only [evS, hs] at h
    exact h.elim
  | some sl =>
    cases sl <;> (try (simp only [evS, hs] at h; exact h.elim))
    rename_i d
    cases d <;> (try (simp only [evS, hs] at h; exact h.elim))
    rename_i xs
    simp only [evS, hs] at h
    obtain ⟨a, vs, ex, ea, _⟩ := own_slot si hs
    refine WS.of (ps_expr (pe_bm PySem.F.plainAttrs_list PySem.F.slot_list_append PySem.F.type_list_append mt_append (pe_var (by rw [c.c.eN]; exact h1) (c.c.vis h2) hd.1 hd.2.1) (pa_cons pe_we pa_nil (starEach_cons h6)) rfl
      (by rw [starEach_cons h6]; rfl) (by rw [h5]; exact beq_self_eq_true _) (starEach_cons h6) rfl) rfl) ?_
    refine ⟨_, ex, .inl ⟨rfl, vs, .inl (.inl ea)⟩, ?_⟩
    refine he e' false _ (si.at_ c) h7 hr (PostS.sr si h fun y st1 g1 v H1 i1 s1 r1 h1 => ?_)
    obtain ⟨d, ed, h1⟩ := h1.dat
    obtain ⟨hz, h1⟩ := h1.cond
    obtain ⟨g2, i2, r2⟩ := step_val si i1 s1 r1
    rw [ed] at r2
    obtain ⟨a', vs', ex', ea', rd, nz, nr⟩ := own_slot i2 hs
    rw [ex] at ex'
    cases ex'
    exact ⟨a, vs', v, rfl, rfl, ea', by rw [rd.length]; exact of_decide_eq_true hz, h1 g2 _ σ (i2.mut hs ex ea' nz nr (rd.append (.cons r2 .nil)))⟩
theorem sims_popd {i : Nat} : SimS (.popd i) := by
  intro X W N sc lv g0 g H0 Hb H zb σ env st s D c si hm hr h
  cases s <;> try exact no_false hm
  rename_i e0 p
  cases e0 <;> try exact no_false hm
  rename_i f args kws cp
  cases f <;> try exact no_false hm
  rename_i o m ap
  cases o <;> try exact no_false hm
  rename_i x px
  cases args <;> cases kws <;> try exact no_false hm
  obtain ⟨hm, h5⟩ := cond_true hm
  obtain ⟨hm, h4⟩ := cond_true hm
  obtain ⟨hm, h3⟩ := cond_true hm
  obtain ⟨h1, h2⟩ := cond_true hm
  have h1 : N[i]? = some x := of_decide_eq_true h1
  have h4 : m = "pop" := of_decide_eq_true h4
  subst h4
  have h5 : ap.endLine = cp.line := of_decide_eq_true h5
  have hd := okName_debug h3
  cases hs : env[i]? with
  | none =>
    simp only [evS, hs] at h
    exact h.elim
  | some sl =>
    cases sl <;> (try (simp only [evS, hs] at h; exact h.elim))
    rename_i d
    cases d <;> (try (simp only [evS, hs] at h; exact h.elim))
    rename_i xs
    simp only [evS, hs] at h
    obtain ⟨a, vs, ex, ea, rd, nz, nr⟩ := own_slot si hs
    refine WS.of (ps_expr (pe_bm0 PySem.F.plainAttrs_list PySem.F.slot_list_pop PySem.F.type_list_pop mt_pop (pe_var (by rw [c.c.eN]; exact h1) (c.c.vis h2) hd.1 hd.2.1) rfl (by rw [h5]; exact beq_self_eq_true _)) rfl) ?_
    cases hl : xs.getLast? with
    | none =>
      rw [hl] at h
      exact h.elim
    | some d =>
      rw [hl] at h
      obtain ⟨w, hw, rw1⟩ := rd.last hl
      exact ⟨_, ex, .inl ⟨rfl, vs, .inl (.inl ea)⟩, a, vs, w, rfl, rfl, ea, hw, h g _ σ (si.mut hs ex ea nz nr rd.dropLast)⟩
theorem sims_clr {i : Nat} : SimS (.clr i) := by
  intro X W N sc lv g0 g H0 Hb H zb σ env st s D c si hm hr h
  cases s <;> try exact no_false hm
  rename_i e0 p
  cases e0 <;> try exact no_false hm
  rename_i f args kws cp
  cases f <;> try exact no_false hm
  rename_i o m ap
  cases o <;> try exact no_false hm
  rename_i x px
  cases args <;> cases kws <;> try exact no_false hm
  obtain ⟨hm, h5⟩ := cond_true hm
  obtain ⟨hm, h4⟩ := cond_true hm
  obtain ⟨hm, h3⟩ := cond_true hm
  obtain ⟨h1, h2⟩ := cond_true hm
  have h1 : N[i]? = some x := of_decide_eq_true h1
  have h4 : m = "clear" := of_decide_eq_true h4
  subst h4
  have h5 : ap.endLine = cp.line := of_decide_eq_true h5
  have hd := okName_debug h3
  cases hs : env[i]? with
  | none =>
    simp only [evS, hs] at h
    exact h.elim
  | some sl =>
    cases sl <;> (try (simp only [evS, hs] at h; exact h.elim))
    rename_i d
    cases d <;> (try (simp only [evS, hs] at h; exact h.elim))
    rename_i xs
    simp only [evS, hs] at h
    obtain ⟨a, vs, ex, ea, rd, nz, nr⟩ := own_slot si hs
    refine WS.of (ps_expr (pe_bm0 PySem.F.plainAttrs_list PySem.F.slot_list_clear PySem.F.type_list_clear mt_clear (pe_var (by rw [c.c.eN]; exact h1) (c.c.vis h2) hd.1 hd.2.1) rfl (by rw [h5]; exact beq_self_eq_true _)) rfl) ?_
    exact ⟨_, ex, .inl ⟨rfl, vs, .inl (.inl ea)⟩, a, vs, rfl, rfl, ea, h g _ σ (si.mut hs ex ea nz nr .nil)⟩
theorem sims_rais {x : Str} : SimS (.rais x) := by
  intro X W N sc lv g0 g H0 Hb H zb σ env st s D c si hm hr h
  cases s <;> try exact no_false hm
  rename_i eo co p
  rcases eo with _ | e <;> try exact no_false hm
  cases e <;> try exact no_false hm
  rename_i f args kws cp
  cases f <;> cases args <;> cases kws <;> cases co <;> try exact no_false hm
  rename_i y py
  obtain ⟨hm, h3⟩ := cond_true hm
  obtain ⟨h1, h2⟩ := cond_true hm
  have h1 : x = y := of_decide_eq_true h1
  subst h1
  obtain ⟨hl, C, gC, T, _⟩ := hr.head
  have hd := okName_debug h3
  refine WS.of (ps_raise c.c.calm c.c.takes (pmk0 (k := 0) T gC (c.c.room.mono hl) (c.c.gl h2) hd.1)) ?_
  exact h g H σ (.ref C) none si ⟨gC, rfl⟩
theorem isCE_cases {e : Ex} (h : isCE e = true) : (∃ l, e = .cst l) ∨ (∃ z, e = .tup (.cons (.cst (.str z)) .nil)) ∨ (∃ z, e = .lst (.cons (.cst (.str z)) .nil)) ∨ ∃ i, e = .cmp .isNot (.var i) (.cst .none) := by
  unfold isCE at h
  split at h
  · exact .inl ⟨_, rfl⟩
  · exact .inr (.inl ⟨_, rfl⟩)
  · exact .inr (.inr (.inl ⟨_, rfl⟩))
  · exact .inr (.inr (.inr ⟨_, rfl⟩))
  · cases h
theorem sims_tryR {b : Sms} {x : Str} {e : Ex} (hb : SimSs b) : SimS (.tryR b x e) := by
  intro X W N sc lv g0 g H0 Hb H zb σ env st s D c si hm hr h
  cases s <;> try exact no_false hm
  rename_i body hs oe fb p
  rcases hs with _ | ⟨hd, tl2⟩
  · exact no_false hm
  rcases hd with ⟨ty, nm, suite, hp⟩
  rcases ty with _ | ty <;> try exact no_false hm
  cases ty <;> try exact no_false hm
  rename_i y py
  cases nm <;> try exact no_false hm
  rcases suite with _ | ⟨s1, tl⟩ <;> try exact no_false hm
  cases s1 <;> try exact no_false hm
  rename_i ro rp
  rcases ro with _ | e' <;> try exact no_false hm
  cases tl <;> try exact no_false hm
  cases tl2 <;> try exact no_false hm
  cases oe <;> cases fb <;> try exact no_false hm
  obtain ⟨hm, h6⟩ := cond_true hm
  obtain ⟨hm, h5⟩ := cond_true hm
  obtain ⟨hm, h4⟩ := cond_true hm
  obtain ⟨hm, h3⟩ := cond_true hm
  obtain ⟨h1, h2⟩ := cond_true hm
  have h2 : x = y := of_decide_eq_true h2
  subst h2
  obtain ⟨hl, C, gC, T, ex⟩ := hr.head
  have hdn := okName_debug h4
  have rb : Rqs X lv (rqSs b) := hr.tail.left
  -- the suite
  let ts : Addr → Value → Option Addr → TS := fun a cls d D σ H => ∀ oe pn, Zc cls d oe → (∃ vs, oe.data = .fields vs) → WSs (X.suite a ((a, oe) :: pn)) [.Return (some e') rp] D σ H
  have suite : ∀ (env' : Env) (st' : Store) (g1 : G) (H1 : Hp) (σ1 : L2.St), SI X.K g0 H0 zb Hb g1 H1 σ1 env' st' → PostS X.K X.mg W g0 H0 zb Hb ((evE e false env' st').sr env' fun x st => .rt x st) D → ∀ a cls d, ts a cls d D σ1 H1 := by
    intro env' st' g1 H1 σ1 i1 hp a cls d oe pn hz hf
    rcases isCE_cases h5 with ⟨l, rfl⟩ | ⟨z, rfl⟩ | ⟨z, rfl⟩ | ⟨i, rfl⟩
    · have hp : PostS X.K X.mg W g0 H0 zb Hb (.rt (plain l.d) st') D := hp
      cases e' <;> try exact no_false h6
      rename_i k j pos
      cases l <;> cases k <;> try exact no_false h6
      · exact WSs.of (pss_one (ps_ret pe_non)) (hp g1 H1 .non i1.s i1.ok .none)
      · have := of_decide_eq_true h6
        subst this
        exact WSs.of (pss_one (ps_ret pe_bl)) (hp g1 H1 (.bl _) i1.s i1.ok (.bool _))
      · have := of_decide_eq_true h6
        subst this
        exact WSs.of (pss_one (ps_ret pe_int)) (hp g1 H1 (.int _) i1.s i1.ok (.int _))
      · have := of_decide_eq_true h6
        subst this
        exact WSs.of (pss_one (ps_ret pe_str)) (hp g1 H1 (.str _) i1.s i1.ok (.str _))
    · have hp : PostS X.K X.mg W g0 H0 zb Hb (.rt (plain (.tuple [.str z])) st') D := hp
      cases e' <;> try exact no_false h6
      rename_i es k pos
      rcases es with _ | ⟨e1, _ | ⟨_, _⟩⟩ <;> try exact no_false h6
      · have h9 := (cond_true (cond_true h6).1).2
        cases e1 <;> try exact no_false h9
        rename_i kk jj ps
        cases kk <;> try exact no_false h9
        have := of_decide_eq_true h9
        subst this
        refine WSs.of (pss_one (ps_ret (pe_tup (pa_cons pe_str pa_nil)))) ⟨by show 1 ≤ sizeLine; decide, fun q hq => ?_⟩
        exact hp g1 _ (.ref q) (i1.s.trans (.new hq)) (i1.ok.new hq) (RD.new_tup i1.ok hq (.cons (.str _) .nil))
      · obtain ⟨_, h8⟩ := cond_true h6
        exact no_false h8
    · have hp : PostS X.K X.mg W g0 H0 zb Hb (.rt (fresh (.list [.str z])) st') D := hp
      cases e' <;> try exact no_false h6
      rename_i es pos
      rcases es with _ | ⟨e1, _ | ⟨_, _⟩⟩ <;> try exact no_false h6
      · have h9 := (cond_true (cond_true h6).1).2
        cases e1 <;> try exact no_false h9
        rename_i kk jj ps
        cases kk <;> try exact no_false h9
        have := of_decide_eq_true h9
        subst this
        refine WSs.of (pss_one (ps_ret (pe_lst (pa_cons pe_str pa_nil)))) ⟨by show 1 ≤ sizeLine; decide, fun q hq => ?_⟩
        exact hp g1 _ (.ref q) (i1.s.trans (.new hq)) (i1.ok.new hq) ⟨q, rfl, i1.s.gone q hq, OwnAt.new_lst i1.ok hq (.cons (.str _) .nil)⟩
      · obtain ⟨_, h8⟩ := cond_true h6
        exact no_false h8
    · cases e' <;> try exact no_false h6
      rename_i a' os bs pos
      rcases os with _ | ⟨o', _ | ⟨_, _⟩⟩ <;> try exact no_false h6
      rcases bs with _ | ⟨b', _ | ⟨_, _⟩⟩ <;> try exact no_false h6
      obtain ⟨hm, k4⟩ := cond_true h6
      obtain ⟨hm, k3⟩ := cond_true hm
      obtain ⟨k1, k2⟩ := cond_true hm
      have k1 : cpS .isNot = o' := of_decide_eq_true k1
      subst k1
      obtain ⟨y, py, rfl⟩ : ∃ y py, a' = .Name y py := by cases a' <;> first | exact ⟨_, _, rfl⟩ | exact no_false k2
      obtain ⟨km, j3⟩ := cond_true k2
      obtain ⟨j1, j2⟩ := cond_true km
      have j1 : N[i]? = some y := of_decide_eq_true j1
      have jd := okName_debug j3
      obtain ⟨jk, pk, rfl⟩ : ∃ jk pk, b' = .Constant .none jk pk := by
        cases b' with
        | Constant v j k => cases v <;> first | exact ⟨_, _, rfl⟩ | exact no_false k3
        | _ => exact no_false k3
      simp only [evE] at hp
      have hu : (X.suite a ((a, oe) :: pn)).A.units + 65 < cLine := by
        have := room_u c.c.room
        show X.A.units + 65 < cLine
        omega
      cases hs : env'[i]? with
      | none => rw [hs] at hp; exact hp.elim
      | some sl =>
        rw [hs] at hp
        obtain ⟨w0, hy, so⟩ := i1.en.slot hs
        cases sl with
        | un => exact hp.elim
        | val v =>
          obtain ⟨w, rfl, r⟩ := so
          cases v with
          | loc n => exact hp.elim
          | dat d =>
            refine WSs.of (pss_one (ps_ret (pe_cmpR op_wo pe_we pe_we rfl))) ?_
            refine WE.of (pe_var (by show X.N[i]? = some y; rw [c.c.eN]; exact j1) (c.c.vis j2) jd.1 jd.2.1) ⟨w, hy, ?_⟩
            refine WE.of pe_non ?_
            refine cmp_ok (.inl r) (.inl .none) rfl hu i1.ok (b := !isNone d) (by cases d <;> rfl) ?_
            have hp : PostS X.K X.mg W g0 H0 zb Hb (.rt (plain (.bool (!isNone d))) st') D := by
              have e : cmpD .isNot d .none = some (!isNone d) := by cases d <;> rfl
              have hp : PostS X.K X.mg W g0 H0 zb Hb ((ofB (cmpD .isNot d .none) st').sr env' fun x st => .rt x st) D := hp
              rw [e] at hp
              exact hp
            exact hp g1 H1 (.bl _) i1.s i1.ok (.bool _)
        | own d =>
          obtain ⟨w, rfl, r⟩ := so
          refine WSs.of (pss_one (ps_ret (pe_cmpR op_wo pe_we pe_we rfl))) ?_
          refine WE.of (pe_var (by show X.N[i]? = some y; rw [c.c.eN]; exact j1) (c.c.vis j2) jd.1 jd.2.1) ⟨_, hy, ?_⟩
          refine WE.of pe_non ?_
          refine cmp_ok (.inr ⟨w, rfl, r⟩) (.inl .none) rfl hu i1.ok (b := !isNone d) (by cases d <;> rfl) ?_
          have hp : PostS X.K X.mg W g0 H0 zb Hb (.rt (plain (.bool (!isNone d))) st') D := by
            have e : cmpD .isNot d .none = some (!isNone d) := by cases d <;> rfl
            have hp : PostS X.K X.mg W g0 H0 zb Hb ((ofB (cmpD .isNot d .none) st').sr env' fun x st => .rt x st) D := hp
            rw [e] at hp
            exact hp
          exact hp g1 H1 (.bl _) i1.s i1.ok (.bool _)
  refine WS.of (ps_try_only c.stk c.frm ⟨c.c.gl h3, hdn.1, .inl gC⟩ c.c.takes (ts := ts)
    (tb := fun W' D' σ' H' => ∀ pn xe, Takes (X.tr pn xe) W' → PassesOwn (model X.prog X.w) X.A X.env xe → WSs (X.tr pn xe) body D' σ' H')
    (fun W' pn xe tk ps => ⟨fun pins s σ H D I q => q pn xe tk ps pins s I⟩)
    (fun a oe cls d pn hz hf => ⟨fun pins s σ H D I q => q oe pn hz hf pins s I⟩)) ?_
  intro pn xe tk ps
  have c' : SCtx (X.tr pn xe) (wOnly X.K (.ref C) ts W D) N sc lv := ⟨⟨c.c.eN, c.c.nd, c.c.kind, c.c.calm, c.c.guards, c.c.room, tk, ps, c.c.look, c.c.fn⟩, c.sce, c.stk, c.frm⟩
  refine hb (X := X.tr pn xe) body D c' si h1 rb ?_
  have h : PostS X.K X.mg W g0 H0 zb Hb (match evSs b env st with
    | .ex c' _ env' st' => bif decide (c' = x) then (evE e false env' st').sr env' fun x st => .rt x st else .no
    | r => r) D := h
  cases hv : evSs b env st with
  | nx env' st' =>
    rw [hv] at h
    exact h
  | rt y st' =>
    rw [hv] at h
    exact h
  | br env' st' =>
    rw [hv] at h
    exact h
  | ct env' st' =>
    rw [hv] at h
    exact h
  | no =>
    rw [hv] at h
    exact h.elim
  | ex cn ds env' st' =>
    rw [hv] at h
    obtain ⟨hc, hq⟩ := h.cond
    have hc : cn = x := of_decide_eq_true hc
    clear h
    subst hc
    intro g1 H1 σ1 cls d i1 ei
    have ec : cls = .ref C := by
      have := ei.1
      have gC' : X.mg cn = some (.ref C) := gC
      rw [show (X.tr pn xe).mg cn = X.mg cn from rfl, gC'] at this
      exact (Option.some.inj this).symm
    subst ec
    exact ⟨true, ex, fun _ a _ => suite env' st' g1 H1 σ1 i1 hq a _ d, fun z => by cases z⟩
theorem sims_tryY {b : Sms} {x : Str} {i : Nat} {kk : Str} (hb : SimSs b) : SimS (.tryY b x i kk) := by
  intro X W N sc lv g0 g H0 Hb H zb σ env st s D c si hm hr h
  cases s <;> try exact no_false hm
  rename_i body hs oe fb p
  rcases hs with _ | ⟨hd, tl2⟩
  · exact no_false hm
  rcases hd with ⟨ty, nm, suite, hp⟩
  rcases ty with _ | ty <;> try exact no_false hm
  cases ty <;> try exact no_false hm
  rename_i y py
  rcases nm with _ | n <;> try exact no_false hm
  rcases suite with _ | ⟨s1, tl⟩ <;> try exact no_false hm
  cases s1 <;> try exact no_false hm
  rename_i ro rp
  rcases ro with _ | e' <;> try exact no_false hm
  cases e' <;> try exact no_false hm
  rename_i f args kws cp
  cases f <;> try exact no_false hm
  rename_i fy fp
  rcases args with _ | ⟨a1, _ | ⟨a2, _ | ⟨_, _⟩⟩⟩ <;> try exact no_false hm
  all_goals (cases a1 <;> try exact no_false hm)
  all_goals (try (cases a2 <;> try exact no_false hm))
  all_goals (try (cases kws <;> try exact no_false hm))
  all_goals (try (cases tl <;> try exact no_false hm))
  all_goals (try (cases tl2 <;> try exact no_false hm))
  all_goals (try (cases oe <;> cases fb <;> try exact no_false hm))
  rename_i n2 np2 k2 kp2
  obtain ⟨hm, h13⟩ := cond_true hm
  obtain ⟨hm, h12⟩ := cond_true hm
  obtain ⟨hm, h11⟩ := cond_true hm
  obtain ⟨hm, h10⟩ := cond_true hm
  obtain ⟨hm, h9⟩ := cond_true hm
  obtain ⟨hm, h8⟩ := cond_true hm
  obtain ⟨hm, h7⟩ := cond_true hm
  obtain ⟨hm, h6⟩ := cond_true hm
  obtain ⟨hm, h5⟩ := cond_true hm
  obtain ⟨hm, h4⟩ := cond_true hm
  obtain ⟨hm, h3⟩ := cond_true hm
  obtain ⟨h1, h2⟩ := cond_true hm
  have h2 : x = y := of_decide_eq_true h2
  subst h2
  have h5 : fy = "isinstance" := of_decide_eq_true h5
  subst h5
  have h7 : n2 = n := of_decide_eq_true h7
  subst h7
  have h8 : N[i]? = some n2 := of_decide_eq_true h8
  have h9 : sc.names.lookup n2 = some .local := of_decide_eq_true h9
  have h11 : kk = k2 := of_decide_eq_true h11
  subst h11
  obtain ⟨C, DK, gC, gK, EC, kt, ex⟩ := hr.head
  have hni : X.mg "isinstance" = none := hr.tail.head
  have hdn := okName_debug h4
  have hdn2 := okName_debug h10
  have hdk := okName_debug h13
  have rb : Rqs X lv (rqSs b) := hr.tail.tail
  have hvis : isVis sc n2 = true := by unfold isVis; rw [h9]
  have hln : X.env.kindOf n2 = some .local := by
    show X.env.scope.names.lookup n2 = some .local
    rw [c.sce]
    exact h9
  let ts : Addr → Value → Option Addr → TS := fun a cls d D σ H => ∀ oe pn, Zc cls d oe → (∃ vs, oe.data = .fields vs) → WSs (X.suite a ((a, oe) :: pn)) [.Return (some (.Call (.Name "isinstance" fp) [.Name n2 np2, .Name kk kp2] [] cp)) rp] D σ H
  refine WS.of (ps_try_as (i := i) c.stk c.frm (by rw [c.c.eN]; exact c.c.nd) (by rw [c.c.eN]; exact h8) hln ⟨c.c.gl h3, hdn.1, .inl gC⟩ c.c.takes (ts := ts)
    (tb := fun W' D' σ' H' => ∀ pn xe, Takes (X.tr pn xe) W' → PassesOwn (model X.prog X.w) X.A X.env xe → WSs (X.tr pn xe) body D' σ' H')
    (fun W' pn xe tk ps => ⟨fun pins s σ H D I q => q pn xe tk ps pins s I⟩)
    (fun a oe cls d pn hz hf => ⟨fun pins s σ H D I q => q oe pn hz hf pins s I⟩)) ?_
  intro pn xe tk ps
  have c' : SCtx (X.tr pn xe) (wAs X.K (.ref C) i ts W D) N sc lv := ⟨⟨c.c.eN, c.c.nd, c.c.kind, c.c.calm, c.c.guards, c.c.room, tk, ps, c.c.look, c.c.fn⟩, c.sce, c.stk, c.frm⟩
  refine hb (X := X.tr pn xe) body D c' si h1 rb ?_
  have h : PostS X.K X.mg W g0 H0 zb Hb (match evSs b env st with
    | .ex c' ds env' st' => bif decide (c' = x) && ds.isEmpty then (match env'[i]? with
      | some _ => .rt (plain (.bool true)) st'
      | none => .no) else .no
    | r => r) D := h
  cases hv : evSs b env st with
  | nx env' st' =>
    rw [hv] at h
    exact h
  | rt y st' =>
    rw [hv] at h
    exact h
  | br env' st' =>
    rw [hv] at h
    exact h
  | ct env' st' =>
    rw [hv] at h
    exact h
  | no =>
    rw [hv] at h
    exact h.elim
  | ex cn ds env' st' =>
    rw [hv] at h
    obtain ⟨hc, hq⟩ := h.cond
    obtain ⟨hc, hds⟩ := cond_true hc
    have hc : cn = x := of_decide_eq_true hc
    clear h
    subst hc
    intro g1 H1 σ1 cls d i1 ei
    have hd : d = none := by
      cases ds with
      | nil => exact ei.2
      | cons z zs => cases hds
    have ec : cls = .ref C := by
      have := ei.1
      have gC' : X.mg cn = some (.ref C) := gC
      rw [show (X.tr pn xe).mg cn = X.mg cn from rfl, gC'] at this
      exact (Option.some.inj this).symm
    subst ec
    subst hd
    refine ⟨true, ex, fun _ a na oe pn' hz hf => ?_, fun z => by cases z⟩
    have hN : (X.suite a ((a, oe) :: pn')).N[i]? = some n2 := by show X.N[i]? = some n2; rw [c.c.eN]; exact h8
    cases hsl : env'[i]? with
    | none => rw [hsl] at hq; exact hq.elim
    | some sl =>
    rw [hsl] at hq
    obtain ⟨w0, hy, _⟩ := i1.en.slot hsl
    have hl1 : i < σ1.length := (List.getElem?_eq_some_iff.mp hy).1
    refine WSs.of (pss_one (ps_ret (pe_callB (call_isE EC hz hf) (c.c.gl h6) hni (by decide +kernel) (pa_cons (pe_var hN (c.c.vis hvis) hdn2.1 hdn2.2.1) (pa_cons (pe_glob (v := .ref DK) (c.c.gl h12) gK rfl hdk.1) pa_nil (starEach_cons rfl)) (starEach_cons rfl)) (by decide) (by decide)
      (starEach_cons rfl) rfl))) ?_
    refine ⟨.ref a, List.getElem?_set_self hl1, ?_⟩
    exact ⟨.ref DK, .ref DK, true, rfl, fun u r => r, kt, hq g1 H1 (.bl _) i1.s i1.ok (.bool _)⟩
theorem sims_popt {j i : Nat} : SimS (.popt j i) := by
  intro X W N sc lv g0 g H0 Hb H zb σ env st s D c si hm hr h
  cases s <;> try exact no_false hm
  rename_i ts e' p
  rcases ts with _ | ⟨t, _ | ⟨_, _⟩⟩ <;> (try exact no_false hm) <;> cases t <;> (try exact no_false hm) <;> cases e' <;> try exact no_false hm
  rename_i y py f args kws cp
  cases f <;> try exact no_false hm
  rename_i o m ap
  cases o <;> try exact no_false hm
  rename_i x px
  cases args <;> cases kws <;> try exact no_false hm
  obtain ⟨hm, h7⟩ := cond_true hm
  obtain ⟨hm, h6⟩ := cond_true hm
  obtain ⟨hm, h5⟩ := cond_true hm
  obtain ⟨hm, h4⟩ := cond_true hm
  obtain ⟨hm, h3⟩ := cond_true hm
  obtain ⟨h1, h2⟩ := cond_true hm
  have h1 : N[j]? = some y := of_decide_eq_true h1
  have h3 : N[i]? = some x := of_decide_eq_true h3
  have h6 : m = "pop" := of_decide_eq_true h6
  subst h6
  have h7 : ap.endLine = cp.line := of_decide_eq_true h7
  have hd := okName_debug h5
  have hl := c.c.loc h2
  have hN : X.N.Nodup := by rw [c.c.eN]; exact c.c.nd
  cases hs : env[i]? with
  | none =>
    simp only [evS, hs] at h
    exact h.elim
  | some sl =>
    cases sl <;> (try (simp only [evS, hs] at h; exact h.elim))
    rename_i d
    cases d <;> (try (simp only [evS, hs] at h; exact h.elim))
    rename_i xs
    simp only [evS, hs] at h
    obtain ⟨a, vs, ex, ea, rd, nz, nr⟩ := own_slot si hs
    refine WS.of (ps_set hN (by rw [c.c.eN]; exact h1) hl.1 (pe_bm0 PySem.F.plainAttrs_list PySem.F.slot_list_pop PySem.F.type_list_pop mt_pop (pe_var (by rw [c.c.eN]; exact h3) (c.c.vis h4) hd.1 hd.2.1) rfl (by rw [h7]; exact beq_self_eq_true _)) rfl hl.2) ?_
    cases hl : xs.getLast? with
    | none =>
      rw [hl] at h
      exact h.elim
    | some d =>
      rw [hl] at h
      cases hji : j == i with
      | true =>
        rw [hji] at h
        exact h.elim
      | false =>
        rw [hji] at h
        obtain ⟨w, hw, rw1⟩ := rd.last hl
        have i2 := si.mut hs ex ea nz nr rd.dropLast
        exact ⟨_, ex, .inl ⟨rfl, vs, .inl (.inl ea)⟩, a, vs, w, rfl, rfl, ea, hw, h g _ _ (i2.setVal (x := .dat d) j (RD.holds (holds_own ea nz) rw1))⟩
end MP
/-! Statements: stores into lists and cells; all together. -/
namespace MP
open PySem PyProof.Rows L2 PySem.Spec
theorem plain_sub {env : PySem.Env} {o i : Expr} {pos : Pos} (h : plainIx i = true) : ∀ v, assign (.Subscript o i pos) env v = (do
      let a ← holding [v] (eval o env)
      let b ← holding [v, a] (eval i env)
      standAt pos
      holding [v, a, b] (setItem a b v)
      release [v, a, b] []) := by
  intro v
  cases i <;> first | rfl | exact no_false h
theorem plain_each {env : PySem.Env} {o i : Expr} {pos : Pos} : (assignEach [.Subscript o i pos] env).map (·.2) = [assign (.Subscript o i pos) env] := rfl
theorem sole_sub {env : PySem.Env} {e a b : Expr} {p : Pos} {l : Nat} : swapsWithSole [.Subscript a b p] e l env = pure false := sw_sub (env := env) (e := e) (a := a) (b := b) (p := p) (l := l)
theorem sims_setix {i : Nat} {k e : Ex} (hk : SimE k) (he : SimE e) : SimS (.setix i k e) := by
  intro X W N sc lv g0 g H0 Hb H zb σ env st s D c si hm hr h
  cases s <;> try exact no_false hm
  rename_i ts e' p
  rcases ts with _ | ⟨t, tr⟩
  · exact no_false hm
  cases t <;> try exact no_false hm
  rename_i o k' tp
  cases o <;> try exact no_false hm
  rename_i x px
  cases tr with
  | cons _ _ => exact no_false hm
  | nil =>
    obtain ⟨hm, h6⟩ := cond_true hm
    obtain ⟨hm, h5⟩ := cond_true hm
    obtain ⟨hm, h4⟩ := cond_true hm
    obtain ⟨hm, h3⟩ := cond_true hm
    obtain ⟨h1, h2⟩ := cond_true hm
    have h1 : N[i]? = some x := of_decide_eq_true h1
    have hd := okName_debug h3
    refine WS.of (ps_asg pe_we (pg_sub (pe_var (by rw [c.c.eN]; exact h1) (c.c.vis h2) hd.1 hd.2.1) pe_we set_list (plain_sub h4)) sole_sub rfl plain_each) ?_
    refine he e' false _ (si.at_ c) h6 hr.right (PostS.sr si h fun y st1 g1 v H1 i1 s1 r1 h1 => ?_)
    obtain ⟨d, ed, h1⟩ := h1.dat
    obtain ⟨g2, i2, r2⟩ := step_val si i1 s1 r1
    rw [ed] at r2
    cases hs : env[i]? with
    | none =>
      simp only [hs] at h1
      exact h1.elim
    | some sl =>
      cases sl <;> (try (simp only [hs] at h1; exact h1.elim))
      rename_i dd
      cases dd <;> (try (simp only [hs] at h1; exact h1.elim))
      rename_i xs
      simp only [hs] at h1
      obtain ⟨a, vs, ex, ea, _⟩ := own_slot i2 hs
      refine ⟨_, ex, ?_⟩
      refine hk k' true _ (i2.at_ c) h5 hr.left (PostS.sr i2 h1 fun z st3 g3 w H3 i3 s3 r3 h3 => ?_)
      obtain ⟨n, en, h3⟩ := h3.int
      have ew := (r3.rt en).int
      subst ew
      obtain ⟨a', vs', ex', ea', rd, nz, nr⟩ := own_slot i3 hs
      rw [ex] at ex'
      cases ex'
      cases hj : L2.ixN xs.length n with
      | none =>
        rw [hj] at h3
        exact h3.elim
      | some j =>
        rw [hj] at h3
        have r2' := RD.holds (s3.holds i2.ok) r2
        exact ⟨a, vs', n, j, rfl, rfl, ea', by rw [rd.length]; exact hj, h3 g3 _ σ (i3.mut hs ex ea' nz nr (rd.set r2' j))⟩
theorem sims_dput {i : Nat} {k e : Ex} (hk : SimE k) (he : SimE e) : SimS (.dput i k e) := by
  intro X W N sc lv g0 g H0 Hb H zb σ env st s D c si hm hr h
  cases s <;> try exact no_false hm
  rename_i ts e' p
  rcases ts with _ | ⟨t, tr⟩
  · exact no_false hm
  cases t <;> try exact no_false hm
  rename_i o k' tp
  cases o <;> try exact no_false hm
  rename_i x px
  cases tr with
  | cons _ _ => exact no_false hm
  | nil =>
    obtain ⟨hm, h6⟩ := cond_true hm
    obtain ⟨hm, h5⟩ := cond_true hm
    obtain ⟨hm, h4⟩ := cond_true hm
    obtain ⟨hm, h3⟩ := cond_true hm
    obtain ⟨h1, h2⟩ := cond_true hm
    have h1 : N[i]? = some x := of_decide_eq_true h1
    have hd := okName_debug h3
    refine WS.of (ps_dput (by have := room_u c.c.room; omega) (pe_var (by rw [c.c.eN]; exact h1) (c.c.vis h2) hd.1 hd.2.1) pe_we pe_we sw_sub) ?_
    refine he e' false _ (si.at_ c) h6 hr.right (PostS.sr si h fun y st1 g1 v H1 i1 s1 r1 h1 => ?_)
    obtain ⟨d, ed, h1⟩ := h1.dat
    obtain ⟨g2, i2, r2⟩ := step_val si i1 s1 r1
    rw [ed] at r2
    cases hs : env[i]? with
    | none =>
      simp only [hs] at h1
      exact h1.elim
    | some sl =>
      cases sl <;> (try (simp only [hs] at h1; exact h1.elim))
      rename_i dd
      cases dd <;> (try (simp only [hs] at h1; exact h1.elim))
      rename_i xs
      simp only [hs] at h1
      obtain ⟨a, vs, ex, ea, _⟩ := own_dict i2 hs
      refine ⟨_, ex, ?_⟩
      refine hk k' true _ (i2.at_ c) h5 hr.left (PostS.sr i2 h1 fun z st3 g3 w H3 i3 s3 r3 h3 => ?_)
      obtain ⟨n, en, h3⟩ := h3.int
      have ew := (r3.rt en).int
      subst ew
      obtain ⟨a', vs', ex', ea', rd, nz, nr⟩ := own_dict i3 hs
      rw [ex] at ex'
      cases ex'
      obtain ⟨hz, h3⟩ := h3.cond
      have r2' := RD.holds (s3.holds i2.ok) r2
      refine ⟨a, _, rfl, DPut.k (k := .inl n) ea' (by rw [rd.length]; exact of_decide_eq_true hz), h3 g3 _ σ (i3.mutD hs ex ea' nz nr (rd.put r2'))⟩
/-- a cell with a dict, at a key that it has -/
theorem rkv_put {K : PySem.W.Frag} {g : G} {H : Hp} {s : Str} {v : V} {x : Val} (r : RVal K g H v x) : ∀ {vs : List (Key × V)} {xs : List (Str × Val)}, RKV K g H vs xs →
    RKV K g H (vs.map fun kv => if kv.1 = .inr s then (kv.1, v) else kv) (xs.map fun p => bif p.1 == s then (p.1, x) else p)
  | _, _, .nil => .nil
  | _, _, .cons (k := k) q t => by
    by_cases e : k = s
    · subst e
      have e2 : (k == k) = true := beq_self_eq_true k
      simp only [List.map_cons, if_pos, e2, cond_true]
      exact .cons r (rkv_put r t)
    · have e2 : (k == s) = false := beq_eq_false_iff_ne.mpr e
      have e3 : ¬ (Sum.inr k : Key) = .inr s := fun h => e (Sum.inr.inj h)
      simp only [List.map_cons, if_neg e3, e2, cond_false]
      exact .cons q (rkv_put r t)
theorem rkv_has {K : PySem.W.Frag} {g : G} {H : Hp} {s : Str} : ∀ {vs : List (Key × V)} {xs : List (Str × Val)}, RKV K g H vs xs → (xs.lookup s).isSome = true → (vs.any fun kv => decide (kv.1 = .inr s)) = true
  | _, _, .nil, h => by cases h
  | _, _, .cons (k := k) (xs := xs) q t, h => by
    by_cases e : k = s
    · subst e
      simp
    · have ne : (s == k) = false := beq_eq_false_iff_ne.mpr (Ne.symm e)
      rw [List.lookup_cons, ne] at h
      rw [List.any_cons, rkv_has t h, Bool.or_true]
theorem RKV.length {K : PySem.W.Frag} {g : G} {H : Hp} : ∀ {vs : List (Key × V)} {xs : List (Str × Val)}, RKV K g H vs xs → vs.length = xs.length
  | _, _, .nil => rfl
  | _, _, .cons _ t => congrArg Nat.succ t.length
theorem SI.cell {K : PySem.W.Frag} {g0 g : G} {H0 Hb H : Hp} {zb : Addr → Prop} {st : Store} {σ : L2.St} {env : Env} {n : Nat} {a : Addr} {u : HO} {cl : Cell} (si : SI K g0 H0 zb Hb g H σ env st) (hn : g.rho[n]? = some a) (hc : CellIs K g (upd H a u) a cl) : SI K g0 H0 zb Hb g (upd H a u) σ env (st.set n cl) := by
  have hmem := List.mem_of_getElem? hn
  have hh := holds_cell (u := u) si.ok hmem
  refine ⟨si.s.cell hmem, si.ok.setCell hn hh hc, ⟨si.en.len, fun j s y e1 e2 => ?_, si.en.apart⟩, si.new, si.h.trans hh⟩
  have q := si.en.at_ j s y e1 e2
  cases s with
  | un => trivial
  | val v =>
    obtain ⟨w, ew, rw1⟩ := q
    exact ⟨w, ew, rw1.holds hh⟩
  | own d' =>
    obtain ⟨b, eb, ob⟩ := q
    refine ⟨b, eb, ?_⟩
    cases d' <;> try exact ob.elim
    · obtain ⟨ws, e3, r3, q3⟩ := ob
      have nb : b ≠ a := fun e => q3.2 (e ▸ hmem)
      exact ⟨ws, by rw [upd_ne nb]; exact e3, RDs.holds hh r3, q3⟩
    · obtain ⟨ws, e3, r3, q3⟩ := ob
      have nb : b ≠ a := fun e => q3.2 (e ▸ hmem)
      exact ⟨ws, by rw [upd_ne nb]; exact e3, RKs.holds hh r3, q3⟩
theorem sims_setloc {a k e : Ex} (ha : SimE a) (hk : SimE k) (he : SimE e) : SimS (.setloc a k e) := by
  intro X W N sc lv g0 g H0 Hb H zb σ env st s D c si hm hr h
  cases s <;> try exact no_false hm
  rename_i ts e' p
  rcases ts with _ | ⟨t, _ | ⟨_, _⟩⟩ <;> (try exact no_false hm) <;> cases t <;> (try exact no_false hm)
  rename_i a' k' tp
  obtain ⟨hm, h4⟩ := cond_true hm
  obtain ⟨hm, h3⟩ := cond_true hm
  obtain ⟨h1, h2⟩ := cond_true hm
  refine WS.of (ps_dput (by have := room_u c.c.room; omega) pe_we pe_we pe_we sw_sub) ?_
  refine he e' false _ (si.at_ c) h4 hr.right (PostS.sr si h fun y st1 g1 v H1 i1 s1 r1 h1 => ?_)
  obtain ⟨g2, i2, r2⟩ := step_val si i1 s1 r1
  refine ha a' false _ (i2.at_ c) h2 hr.left.left (PostS.sr i2 h1 fun z st3 g3 w H3 i3 s3 r3 h5 => ?_)
  refine hk k' true _ (i3.at_ c) h3 hr.left.right (PostS.sr i3 h5 fun z' st4 g4 w' H4 i4 s4 r4 h4 => ?_)
  obtain ⟨fr, z⟩ := z
  obtain ⟨fr', z'⟩ := z'
  cases z with
  | dat d => exact h4.elim
  | loc n =>
    cases z' with
    | loc n => exact h4.elim
    | dat d =>
      cases d <;> try exact h4.elim
      rename_i key
      have r3 : RVal X.K g3 H3 w (.loc n) := by cases fr <;> exact r3
      have r3 := r3.step s4 i3.ok
      obtain ⟨b, eb, rfl⟩ := r3
      have ew := (r4.rt (d := .str key) rfl).str
      subst ew
      cases hn : st4[n]? with
      | none =>
        simp only [hn] at h4
        exact h4.elim
      | some cl =>
        cases cl with
        | lst _ =>
          simp only [hn] at h4
          exact h4.elim
        | dic kvs =>
          simp only [hn] at h4
          obtain ⟨hz, h4⟩ := h4.cond
          obtain ⟨hz1, hz2⟩ := cond_true hz
          obtain ⟨kv, ekv, rkv⟩ := i4.ok.cell n b _ eb hn
          have r2' := (r2.step s3 i2.ok).step s4 i3.ok
          refine ⟨b, _, rfl, .inl ⟨kv, .inr key, ekv, rfl, by rw [rkv.length]; exact of_decide_eq_true hz2, rfl⟩, ?_⟩
          have hh := holds_cell (u := .dK (putK kv (.inr key) v)) i4.ok (List.mem_of_getElem? eb)
          have e : putK kv (.inr key) v = kv.map fun kv => if kv.1 = .inr key then (kv.1, v) else kv := by
            unfold putK
            rw [if_pos (rkv_has rkv hz1)]
          have q := rkv_put (s := key) (r2'.holds hh) (rkv.holds hh)
          rw [← e] at q
          exact h4 g4 _ σ (i4.cell eb ⟨_, upd_same, q⟩)
theorem sims_frz {i : Nat} : SimS (.frz i) := fun {X W N sc lv g0 g H0 Hb H zb σ env st} s D c si hm hr h => no_false hm
theorem simss_nil : SimSs .nil := by
  intro X W N sc lv g0 g H0 Hb H zb σ env st l D c si hm hr h
  cases l with
  | cons _ _ => exact no_false hm
  | nil =>
    have h : ∀ g H σ, SI X.K g0 H0 zb Hb g H σ env st → D.nx σ H := h
    exact WSs.of pss_nil (h g H σ si)
theorem simss_step {s : Sm} {ss : Sms} (h1 : SimS s) (h2 : SimSs ss) (hn : ∀ N sc l, mSs N (.cons s ss) sc l = match l with
    | s' :: l' => mS N s sc s' && mSs N ss sc l'
    | [] => false) : SimSs (.cons s ss) := by
  intro X W N sc lv g0 g H0 Hb H zb σ env st l D c si hm hr h
  rw [hn] at hm
  cases l with
  | nil => exact no_false hm
  | cons s' l' =>
    obtain ⟨m1, m2⟩ := cond_true hm
    refine WSs.of (pss_cons ps_ws pss_wss) ?_
    exact h1 s' _ c si m1 hr.left (PostS.seq h fun env st g H σ i q => h2 l' D c i m2 hr.right q)
theorem simss_frz {i : Nat} {ss : Sms} (h2 : SimSs ss) : SimSs (.cons (.frz i) ss) := by
  intro X W N sc lv g0 g H0 Hb H zb σ env st l D c si hm hr h
  have h : PostS X.K X.mg W g0 H0 zb Hb ((match env[i]? with
    | some (.own d) => .nx (List.set env i (.val (.dat d))) st
    | _ => .no : SR).seq (evSs ss)) D := by
    have e : evSs (.cons (.frz i) ss) env st = (match env[i]? with
      | some (.own d) => .nx (List.set env i (.val (.dat d))) st
      | _ => .no : SR).seq (evSs ss) := by
      rfl
    rw [← e]
    exact h
  cases hs : env[i]? with
  | none =>
    rw [hs] at h
    exact h.elim
  | some sl =>
    cases sl with
    | un =>
      rw [hs] at h
      exact h.elim
    | val v =>
      rw [hs] at h
      exact h.elim
    | own d =>
      rw [hs] at h
      obtain ⟨g', si'⟩ := si.frz hs
      exact h2 l D c si' hm hr h
theorem simss_never {ss : Sms} : SimSs (.cons .never ss) := fun {X W N sc lv g0 g H0 Hb H zb σ env st} s D c si hm hr h => h.elim
mutual
theorem simS : (m : Sm) → SimS m
  | .pass => sims_pass
  | .exp e => sims_exp (sim e).1
  | .ret e => sims_ret (sim e).1
  | .set i own e => sims_set (sim e).1 fun elt ow tg it ifs _ => ⟨(sim elt).1, simXi it, (simXo ifs).2⟩
  | .setT ts e => sims_setT (sim e).1
  | .par ts es => sims_par (simXs es).2.1
  | .parO ts fs es => sims_parO
  | .aug i o e => sims_aug (sim e).1
  | .ite c a b => sims_ite (sim c).2 (simSs a) (simSs b)
  | .whil c b => sims_whil (sim c).2 (simSs b)
  | .forr tg it b => sims_for (simXi it) (simSs b)
  | .brk => sims_brk
  | .cnt => sims_cnt
  | .app i e => sims_app (sim e).1
  | .popd i => sims_popd
  | .popt j i => sims_popt
  | .setix i k e => sims_setix (sim k).1 (sim e).1
  | .dput i k e => sims_dput (sim k).1 (sim e).1
  | .setloc a k e => sims_setloc (sim a).1 (sim k).1 (sim e).1
  | .frz i => sims_frz
  | .never => sims_never
  | .clr i => sims_clr
  | .rais c => sims_rais
  | .tryR b c e => sims_tryR (simSs b)
  | .tryY b c i k => sims_tryY (simSs b)
theorem simSs : (m : Sms) → SimSs m
  | .nil => simss_nil
  | .cons s ss => match s with
    | .frz i => simss_frz (simSs ss)
    | .never => simss_never
    | .pass => simss_step (simS .pass) (simSs ss) fun _ _ _ => rfl
    | .exp e => simss_step (simS (.exp e)) (simSs ss) fun _ _ _ => rfl
    | .ret e => simss_step (simS (.ret e)) (simSs ss) fun _ _ _ => rfl
    | .set i own e => simss_step (simS (.set i own e)) (simSs ss) fun _ _ _ => rfl
    | .setT ts e => simss_step (simS (.setT ts e)) (simSs ss) fun _ _ _ => rfl
    | .par ts es => simss_step (simS (.par ts es)) (simSs ss) fun _ _ _ => rfl
    | .parO ts fs es => simss_step (simS (.parO ts fs es)) (simSs ss) fun _ _ _ => rfl
    | .aug i o e => simss_step (simS (.aug i o e)) (simSs ss) fun _ _ _ => rfl
    | .ite c a b => simss_step (simS (.ite c a b)) (simSs ss) fun _ _ _ => rfl
    | .whil c b => simss_step (simS (.whil c b)) (simSs ss) fun _ _ _ => rfl
    | .forr tg it b => simss_step (simS (.forr tg it b)) (simSs ss) fun _ _ _ => rfl
    | .brk => simss_step (simS .brk) (simSs ss) fun _ _ _ => rfl
    | .cnt => simss_step (simS .cnt) (simSs ss) fun _ _ _ => rfl
    | .app i e => simss_step (simS (.app i e)) (simSs ss) fun _ _ _ => rfl
    | .popd i => simss_step (simS (.popd i)) (simSs ss) fun _ _ _ => rfl
    | .popt j i => simss_step (simS (.popt j i)) (simSs ss) fun _ _ _ => rfl
    | .setix i k e => simss_step (simS (.setix i k e)) (simSs ss) fun _ _ _ => rfl
    | .dput i k e => simss_step (simS (.dput i k e)) (simSs ss) fun _ _ _ => rfl
    | .setloc a k e => simss_step (simS (.setloc a k e)) (simSs ss) fun _ _ _ => rfl
    | .clr i => simss_step (simS (.clr i)) (simSs ss) fun _ _ _ => rfl
    | .rais c => simss_step (simS (.rais c)) (simSs ss) fun _ _ _ => rfl
    | .tryR b c e => simss_step (simS (.tryR b c e)) (simSs ss) fun _ _ _ => rfl
    | .tryY b c i k => simss_step (simS (.tryY b c i k)) (simSs ss) fun _ _ _ => rfl
end
end MP
/-! A def's promise from its text. -/
namespace MP
open PySem PyProof.Rows L2 PySem.Spec
theorem rvals_start {K : PySem.W.Frag} {g : G} {H : Hp} {vs : List V} {vals : List Val} {N : List Str} (r : RVals K g H vs vals) : EnvOk K g H (L2.start N vs) (vals.map Slot.val ++ List.replicate (N.length - vals.length) .un) := by
  have hl := r.length
  have low : ∀ (i : Nat), i < vals.length → (vals.map Slot.val ++ List.replicate (N.length - vals.length) .un)[i]? = vals[i]?.map Slot.val := fun i hi => by
    rw [List.getElem?_append_left (by rw [List.length_map]; exact hi), List.getElem?_map]
  have high : ∀ (i : Nat) (s : Slot), ¬ i < vals.length → (vals.map Slot.val ++ List.replicate (N.length - vals.length) .un)[i]? = some s → s = .un := fun i s hi e => by
    rw [List.getElem?_append_right (by rw [List.length_map]; omega), List.getElem?_replicate] at e
    split at e <;> cases e
    rfl
  have noown : ∀ (i : Nat) (d : MP.D), (vals.map Slot.val ++ List.replicate (N.length - vals.length) .un)[i]? ≠ some (.own d) := fun i d e => by
    by_cases hi : i < vals.length
    · rw [low i hi] at e
      cases q : vals[i]? with
      | none =>
        rw [q] at e
        cases e
      | some v =>
        rw [q] at e
        cases e
    · cases high i _ hi e
  refine ⟨?_, fun i s x e1 e2 => ?_, fun i j d d' a e1 => (noown i d e1).elim⟩
  · unfold L2.start
    rw [List.length_append, List.length_append, List.length_map, List.length_map, List.length_replicate, List.length_replicate, hl]
  · by_cases hi : i < vals.length
    · rw [low i hi] at e1
      cases q : vals[i]? with
      | none =>
        rw [q] at e1
        cases e1
      | some v =>
        rw [q] at e1
        cases e1
        obtain ⟨w, hw, rw1⟩ := r.get q
        unfold L2.start at e2
        rw [List.getElem?_append_left (by rw [List.length_map, hl]; exact hi), List.getElem?_map, hw] at e2
        cases e2
        exact ⟨w, rfl, rw1⟩
    · cases high i s hi e1
      trivial
/-- THE RULE: a def of the text reckons what its small text reckons -/
theorem fnG_of {P : Program} {w : World} {K : PySem.W.Frag} {mg : Str → Option Value} {base : Heap} {lv : Nat} {x qual : Str} {st : Stmt} {f : Addr} {fd : FuncData} {N ps : List Str} {m : Sms} (F : Fun K x qual st f fd) (S : FnScope N ps (defScope st))
    (hm : mSs N m (defScope st) (defBody st) = true) (hr : ∀ r ∈ rqSs m, ReqOk P w K mg base lv r) : FnG P w K mg base (lv + 1) f fd ps (spOf K mg ps.length (fnOf ps.length N.length m)) := by
  obtain ⟨oc, od, kV, doc, pm, an, cdv, ct, slots, rfl, lk, hcd⟩ := F.ex
  refine ⟨fun vs H Q E h => ?_, fun A outer s H args us vs Q E hg hrm e0 hb r hsp => ?_⟩
  · obtain ⟨g, vals, st', rv, _, hl, _⟩ := h
    rw [rv.length, hl]
  · obtain ⟨g, vals, st', rv, ok, hl, post⟩ := hsp
    have hl' : vs.length = ps.length := by rw [rv.length, hl]
    have KX : K.In s.heap := e0.mod.kin.keeps fun b o q => (e0.bs b o q).1
    have lim : s.heap.NoLimit := e0.mod.nolimit.keeps fun b o q => (e0.bs b o q).1
    have kinds : ∀ y ∈ ps.zip us, (defScope st).names.lookup y.1 = some .local ∨ ((defScope st).names.lookup y.1 = some .cell ∧ ((cellsFrom (s.heap.objs.size + 1) (defScope st).names []).lookup y.1).isSome = true) := by
      rintro ⟨n, v⟩ hy
      exact (S.par n (List.of_mem_zip hy).1).imp id fun q => ⟨q, PySem.W.cellsFrom_some _ _ _ (.inl q)⟩
    refine codeAny_call_function hrm.depth (KX _ _ lk) rfl S.co S.gen rfl (PySem.W.codeRec_of KX hcd) (hb _ _ _ _ ?_)
    refine wpAny_newFunctionEnv_cells S.kind kinds fun env he s1 ic => ?_
    subst he
    refine ⟨lim.keeps ic.toInCall.keep, codeAny_func ?_⟩
    have I : Inv (cxOf (L2.CX P w) P w K mg base N qual (defScope st) f cdv A outer s H E) [] (L2.start N vs) H s1 := inv_start S hrm.hd e0 hl' r ic
    have cx : CtxOk (cxOf (L2.CX P w) P w K mg base N qual (defScope st) f cdv A outer s H E) (fun cls d _ H' => E cls d H') N (defScope st) lv :=
      ⟨rfl, S.nd, S.kind, rfl, hg, hrm.deeper _, takes_of rfl rfl rfl rfl, passes_of rfl, fun x k h => .inl h, fun x h => rfl⟩
    have si : SI K g H g.Z H g H (L2.start N vs) (vals.map Slot.val ++ List.replicate (N.length - vals.length) .un) st' := by
      have en := rvals_start (N := N) rv
      refine ⟨.refl, ok, en, fun i d a e1 e2 => ?_, .refl⟩
      exfalso
      by_cases hi : i < vals.length
      · rw [List.getElem?_append_left (by rw [List.length_map]; exact hi), List.getElem?_map] at e1
        cases q : vals[i]? with
        | none =>
          rw [q] at e1
          cases e1
        | some v =>
          rw [q] at e1
          cases e1
      · rw [List.getElem?_append_right (by rw [List.length_map]; omega), List.getElem?_replicate] at e1
        split at e1 <;> cases e1
    have post : PostS K mg (fun cls d _ H' => E cls d H') g H g.Z H (evSs m (vals.map Slot.val ++ List.replicate (N.length - vals.length) .un) st') { nx := fun _ H' => Q .non H', rt := Q } := by
      have post : Post K mg E (relE K false) g H (bif decide (vals.length = ps.length) then
        (match evSs m (vals.map Slot.val ++ List.replicate (N.length - ps.length) .un) st' with
          | .nx _ st => .ok (plain .none) st
          | .rt x st => .ok x st
          | .ex c ds _ st => .exc c ds st
          | _ => .no) else .no) Q := post
      obtain ⟨_, post⟩ := post.cond
      rw [← hl] at post
      cases q : evSs m (vals.map Slot.val ++ List.replicate (N.length - vals.length) .un) st' with
      | nx e s =>
        rw [q] at post
        exact fun g' H' σ' i => post g' .non H' i.s i.ok .none
      | rt y s =>
        rw [q] at post
        exact fun g' H' v i o ro => post g' v H' i o ro
      | ex c ds e s =>
        rw [q] at post
        exact fun g' H' σ' cls d i ei => post g' cls d H' i.s i.ok ei
      | br e s =>
        rw [q] at post
        exact post.elim
      | ct e s =>
        rw [q] at post
        exact post.elim
      | no =>
        rw [q] at post
        exact post.elim
    refine wpAny_mono (simSs m (defBody st) _ ⟨cx, rfl, rfl, rfl⟩ si hm (fun r hr' => hr r hr') post [] s1 I) (fun fl s' hs => ?_) fun e s' hs => hs
    have fin : ∀ {σ' : L2.St} {H' : Hp} {v : V} {u : Value}, Inv (cxOf (L2.CX P w) P w K mg base N qual (defScope st) f cdv A outer s H E) [] σ' H' s' → RelV v u → Q v H' → CE outer P w H s Q u s' :=
      fun {σ' H' v u} J r q => ⟨v, H', J.os, J.bare, J.base, J.hok, r, q⟩
    cases fl with
    | next =>
      obtain ⟨σ', H', J, q⟩ := hs
      exact fin (v := .non) (u := Value.none) J rfl q
    | ret u =>
      obtain ⟨v, σ', H', J, r, q⟩ := hs
      exact fin J r q
    | brk =>
      obtain ⟨_, _, _, q⟩ := hs
      exact False.elim q
    | cont =>
      obtain ⟨_, _, _, q⟩ := hs
      exact False.elim q
theorem fnOf_len {np ns : Nat} {m : Sms} {vals : List Val} {st : Store} (h : vals.length ≠ np) : fnOf np ns m vals st = .no := by
  show (bif decide (vals.length = np) then _ else R.no) = _
  rw [decide_eq_false h]
  rfl
/-- .. as the module's name has it -/
theorem globFn_of {P : Program} {w : World} {K : PySem.W.Frag} {mg : Str → Option Value} {base : Heap} {lv lv' : Nat} {x q : Str} {st : Stmt} {f : Addr} {fd : FuncData} {N ps : List Str} {m : Sms} (F : Fun K x q st f fd) (S : FnScope N ps (defScope st)) (hb : Binds K fd ps []) (hg : mg x = some (.ref f))
    (hm : mSs N m (defScope st) (defBody st) = true) (hr : ∀ r ∈ rqSs m, ReqOk P w K mg base lv r) (hl : lv + 1 ≤ lv') : GlobFn P w K mg base lv' x (fnOf ps.length N.length m) :=
  ⟨lv + 1, f, fd, ps, hl, hg, F.kp, hb, fnG_of F S hm hr, fun vals st h => fnOf_len h⟩
end MP
/-! The law's own call. -/
namespace MP
open PySem PyProof.Rows L2 PySem.Spec
def scriptD (ns : List Int) : MP.D := .list (ns.map PyData.int)
theorem rds_ints {K : PySem.W.Frag} {Z : Addr → Prop} {H : Hp} : ∀ ns : List Int, RDs K Z H (ns.map V.int) (ns.map PyData.int)
  | [] => .nil
  | n :: ns => .cons (.int n) (rds_ints ns)
/-- a def that reckons True of the script keeps its promise -/
theorem sp_law {K : PySem.W.Frag} {mg : Str → Option Value} {sem : Fn} {H : Hp} {a : Addr} {ns : List Int} (hS : SqL K H a (ns.map V.int)) (hs : ∃ fr st, sem [.dat (scriptD ns)] [] = .ok ⟨fr, .dat (.bool true)⟩ st) :
    spOf K mg 1 sem [.ref a] H (fun v _ => v = .bl true) fun _ _ _ => False := by
  obtain ⟨fr, st, e⟩ := hs
  have zs : SqZ K (fun b => b = a ∧ H a ≠ none) H a (ns.map V.int) := by
    rcases hS with q | q
    · exact .inl ⟨⟨rfl, by rcases q with q | ⟨_, q⟩ <;> (rw [q]; exact fun z => by cases z)⟩, q⟩
    · exact .inr (.inr q)
  refine ⟨⟨fun b => b = a ∧ H a ≠ none, []⟩, [.dat (scriptD ns)], [], .cons (.list zs (rds_ints ns)) .nil, ⟨fun b _ => List.not_mem_nil, fun b z => z.1 ▸ z.2, rfl, List.nodup_nil, fun n b c h => by simp at h⟩, rfl, ?_⟩
  rw [e]
  intro g' v H' s o r
  cases fr with
  | false =>
    cases (show RD K g'.Z H' v (.bool true) from r)
    rfl
  | true =>
    obtain ⟨b, _, _, q⟩ := r
    exact q.elim
/-- where nothing but the script may be tracked, the call can be entered -/
theorem entered {P : Program} {w : World} {K : PySem.W.Frag} {mg mb : Str → Option Value} {s : Shared} {a : Addr} {vs : List Value} {ns : List Int} (KX : K.In s.heap) (hns : s.heap.Ns mainGlobals mg) (hb : s.heap.Ns builtinsNs mb) (hbb : ∀ x : Str, x ≠ "__name__" → mb x = bootBuiltins x)
    (hlim : s.heap.NoLimit) (hgen : s.gens = #[]) (ha : s.heap.get? a = some { cls := .type "list", data := .seq vs.toArray }) (H : Hp) (hO : ∀ b u, H b = some u → b = a ∧ u = .frz { cls := .type "list", data := .seq vs.toArray } (.lst (ns.map V.int)) ∧ K.lookup a = none) (hok : HOk P w H s.heap) :
    Env0 P w K mg (hidT s.heap H) callerA [] s H ∧ K.In (hidT s.heap H) ∧ (hidT s.heap H).Ns mainGlobals mg := by
  have free : ∀ {b : Addr} {o : Obj}, s.heap.get? b = some o → (b = a → K.lookup a = none → False) → H b = none := fun {b o} e h => by
    cases q : H b with
    | none => rfl
    | some u =>
      obtain ⟨h1, _, h3⟩ := hO b u q
      exact (h h1 h3).elim
  have kin : K.In (hidT s.heap H) := fun b o e => hidT_get (KX b o e) (free (KX b o e) fun h1 h3 => by
    subst h1
    rw [h3] at e
    cases e)
  have ns' : ∀ {b : Addr} {m : Str → Option Value}, s.heap.Ns b m → (hidT s.heap H).Ns b m := by
    rintro b m ⟨o, es, ep, e, d, r⟩
    refine ⟨o, es, ep, hidT_get e (free e fun h1 _ => ?_), d, r⟩
    subst h1
    rw [ha] at e
    cases e
    cases (show Data.seq vs.toArray _ = Data.dict es ep from d)
  have hlim' : (hidT s.heap H).NoLimit := by
    obtain ⟨mc, h1, h2⟩ := hlim
    exact ⟨mc, ns' h1, h2⟩
  exact ⟨⟨rfl, ⟨kin, ns' hns, ⟨mb, ns' hb, hbb⟩, hlim'⟩, fun b o e => of_hidT e, Nat.le_of_eq (hidT_size _ _), trivial, fun b h => (by cases h), hok, .of_eq hgen⟩, kin, ns' hns⟩
theorem law_callG {P : Program} {w : World} {K : PySem.W.Frag} {mg mb : Str → Option Value} {k : Nat} {fa a : Addr} {fd : FuncData} {x : Str} {sem : Fn} {s : Shared} {vs : List Value} {ns : List Int}
    (KX : K.In s.heap) (hns : s.heap.Ns mainGlobals mg) (hb : s.heap.Ns builtinsNs mb) (hbb : ∀ x : Str, x ≠ "__name__" → mb x = bootBuiltins x) (hlim : s.heap.NoLimit) (hgen : s.gens = #[])
    (ha : s.heap.get? a = some { cls := .type "list", data := .seq vs.toArray }) (hi : IntsAre vs ns) (hl : ns.length ≤ sizeLine) (hr : Room k callerA)
    (F : ∀ base : Heap, K.In base → base.Ns mainGlobals mg → FnG P w K mg base k fa fd [x] (spOf K mg 1 sem)) (hbind : ∀ (s : Shared) (u : Value), BindsTo s fd ⟨[u], []⟩ [(x, u)])
    (hs : ∃ fr st, sem [.dat (scriptD ns)] [] = .ok ⟨fr, .dat (.bool true)⟩ st) :
    codeAny (model P w) callerA (.call (.ref fa) ⟨[.ref a], []⟩) (fun r s' => r = .ok (.ret (.bool true)) ∧ OldK s.heap s'.heap ∧ s'.os = s.os ∧ AllBare s'.gens) s := by
  have rv := vals_ints hi
  have lenV := hi.length
  obtain ⟨H, hO, hS, hok⟩ : ∃ H : Hp, (∀ b u, H b = some u → b = a ∧ u = .frz { cls := .type "list", data := .seq vs.toArray } (.lst (ns.map V.int)) ∧ K.lookup a = none) ∧ SqL K H a (ns.map V.int) ∧ HOk P w H s.heap := by
    cases hk : K.lookup a with
    | none =>
      refine ⟨fun b => if b = a then some (.frz { cls := .type "list", data := .seq vs.toArray } (.lst (ns.map V.int))) else none, fun b u q => ?_, .inl (.inr ⟨_, if_pos rfl⟩), fun b u q => ?_⟩
      · by_cases h : b = a
        · subst h
          cases (if_pos rfl).symm.trans q
          exact ⟨rfl, rfl, rfl⟩
        · cases (if_neg h).symm.trans q
      · by_cases h : b = a
        · subst h
          cases (if_pos rfl).symm.trans q
          exact ⟨ha, by simpa using hl, vs, _, rv, ha⟩
        · cases (if_neg h).symm.trans q
    | some o =>
      have e := KX a o hk
      rw [ha] at e
      cases e
      exact ⟨fun _ => none, fun _ _ q => (by cases q), .inr ⟨_, vs.toArray, _, hk, rfl, rfl, rfl, by rw [List.size_toArray, lenV]; exact hl, by simpa using rv⟩, fun _ _ q => (by cases q)⟩
  obtain ⟨e0, kin, nsb⟩ := entered KX hns hb hbb hlim hgen ha H hO hok
  refine codeAny_mono ((F _ kin nsb).run callerA [] s H ⟨[.ref a], []⟩ [.ref a] [.ref a] _ _ rfl hr e0 (hbind s (.ref a)) (.cons rfl .nil) (sp_law hS hs)) fun r s' h => ?_
  cases r with
  | error e =>
    obtain ⟨_, _, _, _, _, _, _, _, _, _, _, _, no⟩ := h
    exact no.elim
  | ok fl =>
    cases fl with
    | ret u =>
      obtain ⟨v, H', eo, eb, un, hok', r', q⟩ := h
      subst q
      have eu : u = Value.bool true := r'
      subst eu
      refine ⟨rfl, OldK.of_keep fun b o e => ?_, eo, eb⟩
      cases q : H b with
      | none => exact un.keep b o e q (by simp [frs]) (by simp)
      | some u =>
        obtain ⟨h1, h2, _⟩ := hO b u q
        subst h2
        obtain ⟨e1, _⟩ := hok b _ q
        obtain ⟨e2, _⟩ := hok' b _ (un.frzs b _ _ q)
        rw [e] at e1
        cases e1
        exact e2
    | next => exact h.elim
    | brk => exact h.elim
    | cont => exact h.elim
end MP
namespace MP
open PySem PyProof.Rows L2 PySem.Spec
theorem walk_ofG {l : PySem.W.OpenLaw} {n k : Nat} {q : Program} {loose : List Str} {XP : (Str → Option Value) → Heap → Prop} {YP : World → Heap → Prop} {d : DefRec} {K : Params → PySem.W.Frag} {x : Str} {sem : Fn}
    (hn : l.most = some n) (hz : n ≤ sizeLine) (hdf : d.params.defaults = []) (hr : Room k callerA) (hY : ∀ (w : World) (h : Heap), YP w h → (K w.params).In h)
    (F : ∀ (w : World) (mg : Str → Option Value) (fa : Addr) (h : Heap), (K w.params).In h → h.Ns mainGlobals mg → mg d.name = some (.ref fa) → ∃ fd : FuncData, (∀ (s : Shared) (u : Value), BindsTo s fd ⟨[u], []⟩ [(x, u)]) ∧
      ∀ base : Heap, (K w.params).In base → base.Ns mainGlobals mg → FnG l.prog w (K w.params) mg base k fa fd [x] (spOf (K w.params) mg 1 sem))
    (hs : ∀ ns : List Int, ns.length ≤ n → ∃ fr st, sem [.dat (scriptD ns)] [] = .ok ⟨fr, .dat (.bool true)⟩ st) : PySem.W.WalkO q loose XP YP l.row.toRowW d [] (fun f vs => PySem.call f vs) := by
  refine Att.attach_call hn hdf fun w s0 s1 mg mb fa o pm cd doc a vs ns G Y ho hd hcd hmg hobj hints hlen hgen => ?_
  obtain ⟨fd, hb, hF⟩ := F w mg fa _ (hY w _ Y) G.T.g hmg
  exact law_callG (hY w _ Y) G.T.g G.T.b G.T.builtins G.T.nolimit hgen hobj hints (Nat.le_trans hlen hz) hr hF hb (hs ns hlen)
end MP
/-! What a text's defs ask for, in short lists. -/
namespace MP
open PySem PyProof.Rows L2 PySem.Spec
def ReqsOk (P : Program) (w : World) (K : PySem.W.Frag) (mg : Str → Option Value) (base : Heap) (lv : Nat) : List Req → Prop
  | [] => True
  | r :: l => ReqOk P w K mg base lv r ∧ ReqsOk P w K mg base lv l
section
variable {P : Program} {w : World} {K : PySem.W.Frag} {mg : Str → Option Value} {base : Heap} {lv : Nat}
theorem ReqsOk.get : ∀ {l : List Req} {i : Nat}, ReqsOk P w K mg base lv l → i < l.length → ReqOk P w K mg base lv (l.getD i (.non ""))
  | [], _, _, h => by cases h
  | r :: l, 0, h, _ => h.1
  | r :: l, i + 1, h, q => by
    rw [List.getD_cons_succ]
    exact h.2.get (Nat.lt_of_succ_lt_succ q)
theorem reqs_of {l L : List Req} (ix : List Nat) (e : L = ix.map fun i => l.getD i (.non "")) (hb : (ix.all fun i => decide (i < l.length)) = true) (h : ReqsOk P w K mg base lv l) : ∀ r ∈ L, ReqOk P w K mg base lv r := by
  intro r hr
  rw [e] at hr
  obtain ⟨i, hi, rfl⟩ := List.mem_map.mp hr
  exact h.get (of_decide_eq_true (List.all_eq_true.mp hb i hi))
theorem GlobFn.up {x : Str} {sem : Fn} {lv' : Nat} (h : GlobFn P w K mg base lv x sem) (hl : lv ≤ lv') : GlobFn P w K mg base lv' x sem := by
  obtain ⟨k, f, fd, ps, hk, q⟩ := h.ex
  exact ⟨k, f, fd, ps, Nat.le_trans hk hl, q⟩
/-- a def of the text, its places in the heap known -/
theorem globFn_in {h : Heap} {lv : Nat} {x : Str} {st : Stmt} {f : Addr} {N ps : List Str} {m : Sms} {oc : Value} {od an : Option Addr} {osl : Array (Option Value)} {kV doc pm cdv ct : Value} (X : K.In h) (G : h.Ns mainGlobals mg)
    (a : PySem.W.nsIn K mainGlobals x = some (some (.ref f))) (l : K.lookup f = some ⟨oc, od, .func (PySem.W.fnOf x x (defArgs st) (defBody st) (defScope st) .none kV doc pm an cdv ct), osl⟩)
    (c : PySem.W.codeIn K cdv x = true) (k : PySem.W.keepIn K (.ref f) = true) (S : FnScope N ps (defScope st))
    (hb : ∀ (kV doc pm : Value) (an : Option Addr) (cdv ct : Value) (us : List Value), us.length = ps.length → bindArgs (PySem.W.fnOf x x (defArgs st) (defBody st) (defScope st) .none kV doc pm an cdv ct) ⟨us, []⟩ = pure (ps.zip us))
    (hm : mSs N m (defScope st) (defBody st) = true) (hr : ∀ r ∈ rqSs m, ReqOk P w K mg base lv r) : GlobFn P w K mg base (lv + 1) x (fnOf ps.length N.length m) :=
  globFn_of (fun_mk l c k) S ((fun_mk l c k).binds hb) (PySem.W.mg_of X G a) hm hr (Nat.le_refl _)
/-! a constant of the text, its places in the heap known -/
mutual
inductive CV (K : PySem.W.Frag) : Value → MP.D → Prop
  | none : CV K .none .none
  | bool (b : Bool) : CV K (.bool b) (.bool b)
  | int {i : Int} (t : Tok) : CV K (.int i t) (.int i)
  | str {x : Str} (t : Tok) : CV K (.str x t) (.str x)
  | k {p : Addr} {u : Option Addr} {vs : List Value} {n : Nat} {sl : Array (Option Value)} {ds : List MP.D} (h : K.lookup p = some ⟨.type "tuple", u, .seq vs.toArray n, sl⟩) (r : CVs K vs ds) (hz : decide (vs.length ≤ 1000) = true := by rfl) : CV K (.ref p) (.tuple ds)
inductive CVs (K : PySem.W.Frag) : List Value → List MP.D → Prop
  | nil : CVs K [] []
  | cons {v : Value} {vs : List Value} {d : MP.D} {ds : List MP.D} (h : CV K v d) (r : CVs K vs ds) : CVs K (v :: vs) (d :: ds)
end
mutual
theorem CV.rd {K : PySem.W.Frag} : ∀ {u : Value} {d : MP.D}, CV K u d → ∃ v, RelV v u ∧ ∀ Z H, RD K Z H v d
  | _, _, .none => ⟨.non, rfl, fun _ _ => .none⟩
  | _, _, .bool b => ⟨.bl b, rfl, fun _ _ => .bool b⟩
  | _, _, .int t => ⟨.int _, ⟨t, rfl⟩, fun _ _ => .int _⟩
  | _, _, .str t => ⟨.str _, ⟨t, rfl⟩, fun _ _ => .str _⟩
  | _, _, .k (p := p) (vs := us) h r hz => by
    obtain ⟨vs, r1, r2⟩ := CVs.rd r
    have z : us.toArray.size ≤ sizeLine := by
      rw [List.size_toArray]
      exact Nat.le_trans (of_decide_eq_true hz) (by decide)
    exact ⟨.ref p, rfl, fun Z H => .tuple (.inr ⟨_, us.toArray, _, h, rfl, rfl, z, r1⟩) (r2 Z H)⟩
theorem CVs.rd {K : PySem.W.Frag} : ∀ {u : List Value} {d : List MP.D}, CVs K u d → ∃ v, Vals v u ∧ ∀ Z H, RDs K Z H v d
  | _, _, .nil => ⟨[], .nil, fun _ _ => .nil⟩
  | _, _, .cons h r => by
    obtain ⟨v, a1, a2⟩ := CV.rd h
    obtain ⟨vs, b1, b2⟩ := CVs.rd r
    exact ⟨v :: vs, .cons a1 b1, fun Z H => .cons (a2 Z H) (b2 Z H)⟩
end
end
end MP
/-! Reckoning with the small language. -/
namespace MP
open PySem PyProof.Rows L2 PySem.Spec
section
variable {α β : Type} {st st1 : Store} {env : Env} {pk : Bool}
@[simp] theorem bind_ok {a : α} {f : α → Store → R β} : (R.ok a st).bind f = f a st := rfl
@[simp] theorem bind_exc {c : Str} {ds : List (Str × MP.D)} {f : α → Store → R β} : (R.exc c ds st : R α).bind f = .exc c ds st := rfl
@[simp] theorem bind_no {f : α → Store → R β} : (R.no : R α).bind f = .no := rfl
@[simp] theorem sr_ok {a : α} {f : α → Store → SR} : (R.ok a st).sr env f = f a st := rfl
@[simp] theorem sr_no {f : α → Store → SR} : (R.no : R α).sr env f = .no := rfl
@[simp] theorem sr_exc {c : Str} {ds : List (Str × MP.D)} {f : α → Store → SR} : (R.exc c ds st : R α).sr env f = .ex c ds env st := rfl
@[simp] theorem seq_nx {f : Env → Store → SR} : (SR.nx env st).seq f = f env st := rfl
@[simp] theorem seq_rt {f : Env → Store → SR} {x : RV} : (SR.rt x st).seq f = .rt x st := rfl
@[simp] theorem seq_br {f : Env → Store → SR} : (SR.br env st).seq f = .br env st := rfl
@[simp] theorem seq_ct {f : Env → Store → SR} : (SR.ct env st).seq f = .ct env st := rfl
@[simp] theorem turn_nx {f : Env → Store → SR} : turn (SR.nx env st) f = f env st := Eq.trans rfl rfl
@[simp] theorem turn_ct {f : Env → Store → SR} : turn (SR.ct env st) f = f env st := Eq.trans rfl rfl
@[simp] theorem turn_br {f : Env → Store → SR} : turn (SR.br env st) f = .nx env st := Eq.trans rfl rfl
@[simp] theorem turn_rt {f : Env → Store → SR} {x : RV} : turn (SR.rt x st) f = .rt x st := Eq.trans rfl rfl
@[simp] theorem datOf_dat {b : Bool} {d : MP.D} : datOf ⟨b, .dat d⟩ st = .ok d st := Eq.trans rfl rfl
@[simp] theorem intOf_int {b : Bool} {d : Int} : intOf ⟨b, .dat (.int d)⟩ st = .ok d st := Eq.trans rfl rfl
@[simp] theorem boolOf_bool {b : Bool} {d : Bool} : boolOf ⟨b, .dat (.bool d)⟩ st = .ok d st := Eq.trans rfl rfl
@[simp] theorem plain_eq {d : MP.D} : plain d = ⟨false, .dat d⟩ := Eq.trans rfl rfl
@[simp] theorem fresh_eq {d : MP.D} : fresh d = ⟨true, .dat d⟩ := Eq.trans rfl rfl
@[simp] theorem ofBD_some {b : Bool} {d : MP.D} : ofBD (some (b, d)) st = .ok ⟨b, .dat d⟩ st := Eq.trans rfl rfl
@[simp] theorem ofB_some {b : Bool} : ofB (some b) st = .ok (plain (.bool b)) st := Eq.trans rfl rfl
@[simp] theorem rOpt_some {a : α} : rOpt (some a) st = .ok a st := Eq.trans rfl rfl
@[simp] theorem seqOf_l {xs : List MP.D} : seqOf (.list xs) = some xs := Eq.trans rfl rfl
@[simp] theorem seqOf_t {xs : List MP.D} : seqOf (.tuple xs) = some xs := Eq.trans rfl rfl
@[simp] theorem lit_int {i : Int} : (Lit.int i).d = .int i := Eq.trans rfl rfl
@[simp] theorem lit_str {i : Str} : (Lit.str i).d = .str i := Eq.trans rfl rfl
@[simp] theorem lit_bool {i : Bool} : (Lit.bool i).d = .bool i := Eq.trans rfl rfl
@[simp] theorem lit_none : Lit.none.d = .none := Eq.trans rfl rfl
end
theorem seq_of {s : Sm} {ss : Sms} {env env' : Env} {st st' : Store} {r : SR} (h : evS s env st = .nx env' st') (q : evSs ss env' st' = r) : evSs (.cons s ss) env st = r := by
  show (evS s env st).seq (evSs ss) = r
  rw [h]
  exact q
theorem seq_end {s : Sm} {ss : Sms} {env : Env} {st st' : Store} {x : RV} (h : evS s env st = .rt x st') : evSs (.cons s ss) env st = .rt x st' := by
  show (evS s env st).seq (evSs ss) = _
  rw [h]
  rfl
theorem ite_of {c : Ex} {a b : Sms} {env : Env} {st st1 : Store} {fr k : Bool} {r : SR} (h : evE c true env st = .ok ⟨fr, .dat (.bool k)⟩ st1) (q : (bif k then evSs a env st1 else evSs b env st1) = r) : evS (.ite c a b) env st = r := by
  show ((evE c true env st).sr env fun x st => (boolOf x st).sr env fun k st => bif k then evSs a env st else evSs b env st) = r
  rw [h]
  exact q
theorem fn_ret {np ns : Nat} {m : Sms} {vs : List Val} {st st' : Store} {x : RV} (hl : vs.length = np) (h : evSs m (vs.map Slot.val ++ List.replicate (ns - np) .un) st = .rt x st') : fnOf np ns m vs st = .ok x st' := by
  show (bif decide (vs.length = np) then (match evSs m (vs.map Slot.val ++ List.replicate (ns - np) .un) st with
    | .nx _ st => R.ok (plain .none) st
    | .rt x st => R.ok x st
    | .ex c ds _ st => R.exc c ds st
    | _ => R.no) else R.no) = _
  rw [decide_eq_true hl, h]
  rfl
/-! ### loops -/
def TurnsTo (x : SR) (env : Env) (st : Store) : Prop := x = .nx env st ∨ x = .ct env st
theorem forL_nx {tg : Tg} {body : Env → Store → SR} (P : List MP.D → Env → Store → Prop)
    (h : ∀ d r env st, P (d :: r) env st → ∃ env1 env2 st2, bindTg tg d env = some env1 ∧ TurnsTo (body env1 st) env2 st2 ∧ P r env2 st2) : ∀ items env st, P items env st → ∃ env' st', forL tg body items env st = .nx env' st' ∧ P [] env' st'
  | [], env, st, p => ⟨env, st, rfl, p⟩
  | d :: r, env, st, p => by
    obtain ⟨env1, env2, st2, hb, ht, q⟩ := h d r env st p
    obtain ⟨env', st', e, w⟩ := forL_nx P h r env2 st2 q
    refine ⟨env', st', ?_, w⟩
    show (match bindTg tg d env with
      | none => SR.no
      | some env' => turn (body env' st) (forL tg body r)) = _
    rw [hb]
    rcases ht with ht | ht <;> (show turn (body env1 st) (forL tg body r) = _; rw [ht]; exact e)
theorem compL_map {f : MP.D → Store → R (Option MP.D)} {st : Store} (g : MP.D → MP.D) : ∀ {items acc : List MP.D}, (∀ d ∈ items, f d st = .ok (some (g d)) st) → acc.length + items.length ≤ sizeLine → compL f items acc st = .ok (acc ++ items.map g) st
  | [], acc, _, _ => by
    rw [List.map_nil, List.append_nil]
    rfl
  | d :: r, acc, h, hl => by
    have hl' : acc.length + (r.length + 1) ≤ sizeLine := hl
    have e : compL f (d :: r) acc st = compL f r (acc ++ [g d]) st := by
      show (match f d st with
        | .ok (some y) st1 => bif fitsS acc.length then compL f r (acc ++ [y]) st1 else R.no
        | .ok none st1 => compL f r acc st1
        | _ => R.no) = _
      rw [h d List.mem_cons_self]
      have q : fitsS acc.length = true := decide_eq_true (by omega)
      rw [q]
      rfl
    rw [e, compL_map g (fun d hd => h d (List.mem_cons_of_mem _ hd)) (by rw [List.length_append, List.length_singleton]; omega)]
    rw [List.append_assoc]
    rfl
theorem compL_opt {f : MP.D → Store → R (Option MP.D)} {st : Store} (g : MP.D → Option MP.D) : ∀ {items acc : List MP.D}, (∀ d ∈ items, f d st = .ok (g d) st) → acc.length + items.length ≤ sizeLine → compL f items acc st = .ok (acc ++ items.filterMap g) st
  | [], acc, _, _ => by
    rw [List.filterMap_nil, List.append_nil]
    rfl
  | d :: r, acc, h, hl => by
    have hl' : acc.length + (r.length + 1) ≤ sizeLine := hl
    have e : compL f (d :: r) acc st = (match g d with
        | some y => bif fitsS acc.length then compL f r (acc ++ [y]) st else R.no
        | none => compL f r acc st) := by
      show (match f d st with
        | .ok (some y) st1 => bif fitsS acc.length then compL f r (acc ++ [y]) st1 else R.no
        | .ok none st1 => compL f r acc st1
        | _ => R.no) = _
      rw [h d List.mem_cons_self]
      cases g d <;> rfl
    rw [e]
    cases hg : g d with
    | none =>
      rw [List.filterMap_cons_none hg]
      exact compL_opt g (fun d hd => h d (List.mem_cons_of_mem _ hd)) (by omega)
    | some y =>
      have q : fitsS acc.length = true := decide_eq_true (by omega)
      rw [q]
      show compL f r (acc ++ [y]) st = _
      rw [compL_opt g (fun d hd => h d (List.mem_cons_of_mem _ hd)) (by rw [List.length_append, List.length_singleton]; omega), List.filterMap_cons_some hg, List.append_assoc]
      rfl
/-- a comprehension that turns the store -/
theorem compL_ind {f : MP.D → Store → R (Option MP.D)} (P : List MP.D → List MP.D → Store → Prop) (h : ∀ d r acc st, P (d :: r) acc st → ∃ y st1, f d st = .ok y st1 ∧ acc.length < sizeLine ∧ P r (match y with
    | some y => acc ++ [y]
    | none => acc) st1) : ∀ items acc st, P items acc st → ∃ ys st', compL f items acc st = .ok ys st' ∧ P [] ys st'
  | [], acc, st, p => ⟨acc, st, rfl, p⟩
  | d :: r, acc, st, p => by
    obtain ⟨y, st1, e, hz, q⟩ := h d r acc st p
    obtain ⟨ys, st', e2, w⟩ := compL_ind P h r _ st1 q
    refine ⟨ys, st', ?_, w⟩
    show (match f d st with
      | .ok (some y) st1 => bif fitsS acc.length then compL f r (acc ++ [y]) st1 else R.no
      | .ok none st1 => compL f r acc st1
      | _ => R.no) = _
    rw [e]
    cases y with
    | none => exact e2
    | some y =>
      have q : fitsS acc.length = true := decide_eq_true hz
      show (bif fitsS acc.length then _ else _) = _
      rw [q]
      exact e2
theorem fitsS_of {n : Nat} (h : n < 2 ^ 24) : fitsS n = true := decide_eq_true h
section
variable {env : Env} {st st1 st2 : Store} {pk : Bool}
theorem comp_of {elt : Ex} {own : List (Str × Nat)} {tg : Tg} {it : It} {ifs : Opt} {items ys : List MP.D} (hi : evI it env st = .ok items st1) (hc : compL (compF elt own tg ifs env) items [] st1 = .ok ys st2) : evE (.comp elt own tg it ifs) pk env st = .ok ⟨true, .dat (.list ys)⟩ st2 := by
  show ((evI it env st).bind fun items st => (compL (compF elt own tg ifs env) items [] st).bind fun ys st => R.ok (fresh (.list ys)) st) = _
  rw [hi]
  show ((compL (compF elt own tg ifs env) items [] st1).bind fun ys st => R.ok (fresh (.list ys)) st) = _
  rw [hc]
  rfl
theorem for_of {tg : Tg} {it : It} {b : Sms} {items : List MP.D} {r : SR} (hi : evI it env st = .ok items st1) (h : forL tg (evSs b) items env st1 = r) : evS (.forr tg it b) env st = r := by
  show ((evI it env st).sr env fun items st => forL tg (evSs b) items env st) = r
  rw [hi]
  exact h
theorem set_of {i : Nat} {e : Ex} {x : RV} (h : evE e false env st = .ok x st1) : evS (.set i false e) env st = .nx (List.set env i (.val x.v)) st1 := by
  show ((evE e false env st).sr env fun x st => bif false then (match x with
    | ⟨true, .dat d⟩ => SR.nx (List.set env i (.own d)) st
    | _ => .no) else .nx (List.set env i (.val x.v)) st) = _
  rw [h]
  rfl
theorem ret_of {e : Ex} {x : RV} (h : evE e false env st = .ok x st1) (hv : evS (.ret e) env st = (evE e false env st).sr env fun x st => .rt x st := by rfl) : evS (.ret e) env st = .rt x st1 := by
  rw [hv, h]
  rfl
theorem call_of {f : Str} {sem : Fn} {es : Exs} {vs : List Val} {r : R RV} (h : evV es env st = .ok vs st1) (q : sem vs st1 = r) : evE (.call f sem es) pk env st = r := by
  show ((evV es env st).bind fun vs st => sem vs st) = r
  rw [h]
  exact q
theorem rng1_of {a : Ex} {i : Int} {fr : Bool} (h : evE a true env st = .ok ⟨fr, .dat (.int i)⟩ st1) (hi : -(2 ^ 62) ≤ i ∧ i < 2 ^ 62) : evI (.rng1 a) env st = .ok (rangeUp 0 i) st1 := by
  show ((evE a true env st).bind fun x st => (intOf x st).bind fun i st => bif rngOk i then R.ok (rangeUp 0 i) st else .no) = _
  rw [h]
  show (bif rngOk i then R.ok (rangeUp 0 i) st1 else .no) = _
  rw [show rngOk i = true by simp only [rngOk, Bool.and_eq_true, decide_eq_true_eq]; exact hi]
  rfl
end
theorem bin_of {env : Env} {st st1 st2 : Store} {pk : Bool} {o : Op2} {a b : Ex} {f1 f2 fr : Bool} {x y d : MP.D} (ha : evE a true env st = .ok ⟨f1, .dat x⟩ st1) (hb : evE b true env st1 = .ok ⟨f2, .dat y⟩ st2) (h : bin o x y = some (fr, d)) : evE (.bin o a b) pk env st = .ok ⟨fr, .dat d⟩ st2 := by
  show ((evE a true env st).bind fun x st => (datOf x st).bind fun x st => (evE b true env st).bind fun y st => (datOf y st).bind fun y st => ofBD (bin o x y) st) = _
  rw [ha]
  show ((evE b true env st1).bind fun y st => (datOf y st).bind fun y st => ofBD (bin o x y) st) = _
  rw [hb]
  show ofBD (bin o x y) st2 = _
  rw [h]
  rfl
theorem rangeUp_len (i j : Int) : (rangeUp i j).length = (j - i).toNat := by simp [rangeUp]
end MP
/-! What all laws have: the source of draws. -/
namespace MK
open PySem MP
def b__law_open_cells : Sms := (.cons (.set 1 false (.cst (.int 11))) (.cons (.forr (.nm 2) (.seq (.var 0)) (.cons (.set 1 false (.bin .mod (.blt .int (.cons (.bin .add (.bin .add (.bin .mul (.var 1) (.cst (.int 69069))) (.bin .mul (.var 2) (.cst (.int 31)))) (.cst (.int 5))) .nil)) (.cst (.int 2147483629)))) .nil)) (.cons (.set 3 false (.comp (.blt .abs (.cons (.var 2) .nil)) [("_law_cell", 2)] (.nm 2) (.seq (.var 0)) .non)) (.cons (.ret (.dicl ["cells", "left", "mixed", "turn"] (.cons (.toloc (.rev (.var 3))) (.cons (.cst (.int 1)) (.cons (.var 1) (.cons (.cst (.int 0)) .nil)))))) .nil))))
def f__law_open_cells : Fn := fnOf 1 4 b__law_open_cells
def r__law_open_cells : List Req := [.non "int", .non "abs"]
theorem q__law_open_cells : rqSs b__law_open_cells = [0, 1].map fun i => r__law_open_cells.getD i (.non "") := rfl
def b__law_pick : Sms := (.cons (.ite (.cmp .lt (.var 1) (.cst (.int 2))) (.cons (.ret (.cst (.int 0))) .nil) .nil) (.cons (.set 2 false (.ix (.var 0) (.cst (.str "cells")))) (.cons (.whil (.and (.cmp .lt (.ix (.var 0) (.cst (.str "left"))) (.cst (.int 2))) (.cmp .gt (.lenl (.var 2)) (.cst (.int 0)))) (.cons (.setloc (.var 0) (.cst (.str "left")) (.popl (.var 2))) .nil)) (.cons (.set 3 false (.ix (.var 0) (.cst (.str "left")))) (.cons (.ite (.cmp .gt (.var 3) (.cst (.int 1))) (.cons (.setloc (.var 0) (.cst (.str "left")) (.bin .fdiv (.var 3) (.var 1))) (.cons (.ret (.bin .mod (.blt .int (.cons (.var 3) .nil)) (.var 1))) .nil)) .nil) (.cons (.setloc (.var 0) (.cst (.str "turn")) (.bin .add (.ix (.var 0) (.cst (.str "turn"))) (.cst (.int 1)))) (.cons (.set 4 false (.ix (.var 0) (.cst (.str "turn")))) (.cons (.set 5 false (.bin .mod (.blt .int (.cons (.bin .add (.ix (.var 0) (.cst (.str "mixed"))) (.bin .mul (.var 4) (.cst (.int 104729)))) .nil)) (.cst (.int 998244353)))) (.cons (.set 5 false (.bin .mod (.blt .int (.cons (.bin .add (.bin .mul (.var 5) (.var 5)) (.bin .mul (.var 4) (.cst (.int 17)))) .nil)) (.cst (.int 2147483647)))) (.cons (.ret (.bin .mod (.blt .int (.cons (.bin .fdiv (.var 5) (.cst (.int 16))) .nil)) (.var 1))) .nil))))))))))
def f__law_pick : Fn := fnOf 2 6 b__law_pick
def r__law_pick : List Req := [.non "len", .non "int"]
theorem q__law_pick : rqSs b__law_pick = [0, 1, 1, 1, 1].map fun i => r__law_pick.getD i (.non "") := rfl
def Src (r : Store) (cs : List Int) (l m t : Int) : Store := .lst (cs.map PyData.int) :: .dic [("cells", .loc 0), ("left", .dat (.int l)), ("mixed", .dat (.int m)), ("turn", .dat (.int t))] :: r
def IsSrcR (r : Store) (st : Store) : Prop := ∃ cs l m t, st = Src r cs l m t ∧ cs.length ≤ 63
def IsSrc (st : Store) : Prop := ∃ r cs l m t, st = Src r cs l m t ∧ cs.length ≤ 63
theorem IsSrcR.src {r st : Store} (h : IsSrcR r st) : IsSrc st := by
  obtain ⟨cs, l, m, t, e, q⟩ := h
  exact ⟨r, cs, l, m, t, e, q⟩
theorem IsSrc.r {st : Store} (h : IsSrc st) : ∃ r, IsSrcR r st := by
  obtain ⟨r, cs, l, m, t, e, q⟩ := h
  exact ⟨r, cs, l, m, t, e, q⟩
theorem IsSrc.app {st x : Store} (h : IsSrc st) : IsSrc (st ++ x) := by
  obtain ⟨r, cs, l, m, t, rfl, hl⟩ := h
  exact ⟨r ++ x, cs, l, m, t, rfl, hl⟩
theorem pick_lt (n : Int) (h : n < 2) (st : Store) : f__law_pick [.loc 1, .dat (.int n)] st = .ok (plain (.int 0)) st := by
  simp [f__law_pick, fnOf, b__law_pick, evSs, evS, evE, cmpD, h]
def pickT : Ex := (.and (.cmp .lt (.ix (.var 0) (.cst (.str "left"))) (.cst (.int 2))) (.cmp .gt (.lenl (.var 2)) (.cst (.int 0))))
def pickB : Sms := (.cons (.setloc (.var 0) (.cst (.str "left")) (.popl (.var 2))) .nil)
theorem pickT_eq {r : Store} {s1 s3 s4 s5 : Slot} {cs : List Int} {l m t : Int} : ((evE pickT true [.val (.loc 1), s1, .val (.loc 0), s3, s4, s5] (Src r cs l m t)).bind fun x st => boolOf x st) = .ok (decide (l < 2) && decide ((0 : Int) < (cs.map PyData.int).length)) (Src r cs l m t) := by
  have e : evE pickT true [.val (.loc 1), s1, .val (.loc 0), s3, s4, s5] (Src r cs l m t) = (bif decide (l < 2) then (R.ok (plain (.bool (decide ((0 : Int) < (cs.map PyData.int).length)))) (Src r cs l m t)) else .ok (plain (.bool false)) (Src r cs l m t)) := rfl
  rw [e]
  cases decide (l < 2) <;> rfl
theorem pickB_eq {r : Store} {s1 s3 s4 s5 : Slot} {cs : List Int} {c l m t : Int} : evSs pickB [.val (.loc 1), s1, .val (.loc 0), s3, s4, s5] (Src r (cs ++ [c]) l m t) = .nx [.val (.loc 1), s1, .val (.loc 0), s3, s4, s5] (Src r cs c m t) := by
  have e : evE (.popl (.var 2)) false [.val (.loc 1), s1, .val (.loc 0), s3, s4, s5] (Src r (cs ++ [c]) l m t) = .ok (plain (.int c)) (Src r cs l m t) := by
    show (match ((cs ++ [c]).map PyData.int).getLast? with
        | some d => R.ok (plain d) ((Src r (cs ++ [c]) l m t).set 0 (.lst ((cs ++ [c]).map PyData.int).dropLast))
        | none => .no) = _
    simp [Src]
  refine seq_of ?_ rfl
  show ((evE (.popl (.var 2)) false [.val (.loc 1), s1, .val (.loc 0), s3, s4, s5] (Src r (cs ++ [c]) l m t)).sr _ _) = _
  rw [e]
  rfl
theorem pick_while {r : Store} {s1 s3 s4 s5 : Slot} {m t : Int} : ∀ (n : Nat) (cs : List Int) (l : Int), cs.length < n → ∃ cs' l', whileL (fun env st => (evE pickT true env st).bind fun x st => boolOf x st) (evSs pickB) n [.val (.loc 1), s1, .val (.loc 0), s3, s4, s5] (Src r cs l m t) =
    .nx [.val (.loc 1), s1, .val (.loc 0), s3, s4, s5] (Src r cs' l' m t) ∧ cs'.length ≤ cs.length
  | 0, cs, l, h => by omega
  | n + 1, cs, l, h => by
    have go : ∀ q, (bif (decide (l < 2) && decide ((0 : Int) < (cs.map PyData.int).length)) then turn (evSs pickB [.val (.loc 1), s1, .val (.loc 0), s3, s4, s5] (Src r cs l m t)) (whileL (fun env st => (evE pickT true env st).bind fun x st => boolOf x st) (evSs pickB) n) else .nx [.val (.loc 1), s1, .val (.loc 0), s3, s4, s5] (Src r cs l m t)) = q →
        whileL (fun env st => (evE pickT true env st).bind fun x st => boolOf x st) (evSs pickB) (n + 1) [.val (.loc 1), s1, .val (.loc 0), s3, s4, s5] (Src r cs l m t) = q := by
      intro q hr
      show (((evE pickT true [.val (.loc 1), s1, .val (.loc 0), s3, s4, s5] (Src r cs l m t)).bind fun x st => boolOf x st).sr _ _) = q
      rw [pickT_eq]
      exact hr
    by_cases h1 : l < 2
    · rcases List.eq_nil_or_concat cs with rfl | ⟨cs0, c, rfl⟩
      · exact ⟨[], l, go _ (by rw [decide_eq_true h1]; rfl), Nat.le_refl _⟩
      · rw [List.concat_eq_append] at *
        obtain ⟨cs', l', e, hl⟩ := pick_while (s1 := s1) (s3 := s3) (s4 := s4) (s5 := s5) (m := m) (t := t) n cs0 c (by rw [List.length_append] at h; simp at h; omega)
        refine ⟨cs', l', go _ ?_, by rw [List.length_append]; omega⟩
        rw [decide_eq_true h1, decide_eq_true (show (0 : Int) < ((cs0 ++ [c]).map PyData.int).length by simp), pickB_eq]
        exact e
    · exact ⟨cs, l, go _ (by rw [decide_eq_false h1]; rfl), Nat.le_refl _⟩
theorem pick_okR {r : Store} (n : Int) (hn : n.natAbs.log2 < 9000) (st : Store) (h : IsSrcR r st) : ∃ k st', f__law_pick [.loc 1, .dat (.int n)] st = .ok (plain (.int k)) st' ∧ IsSrcR r st' ∧ 0 ≤ k ∧ (2 ≤ n → k < n) ∧ (n < 2 → k = 0) := by
  by_cases h2 : n < 2
  · exact ⟨0, st, pick_lt n h2 st, h, by omega, by omega, fun _ => rfl⟩
  obtain ⟨cs, l, m, t, rfl, hl⟩ := h
  obtain ⟨cs', l', ew, hl'⟩ := pick_while (s1 := .val (.dat (.int n))) (s3 := .un) (s4 := .un) (s5 := .un) (m := m) (t := t) WF cs l (Nat.lt_of_le_of_lt hl (by decide))
  have hd : divOk n = true := by simp [divOk]; omega
  have hm : decide (n ≠ 0) = true := decide_eq_true (by omega)
  have fm : ∀ a : Int, 0 ≤ a.fmod n ∧ a.fmod n < n := fun a => by rw [Int.fmod_eq_emod_of_nonneg _ (by omega)]; exact ⟨Int.emod_nonneg _ (by omega), Int.emod_lt_of_pos _ (by omega)⟩
  by_cases h3 : 1 < l'
  · refine ⟨l'.fmod n, Src r cs' (l'.fdiv n) m t, fn_ret rfl ?_, ⟨cs', _, _, _, rfl, by omega⟩, (fm _).1, fun _ => (fm _).2, fun q => (h2 q).elim⟩
    refine seq_of (ite_of (k := false) (by show R.ok (plain (.bool (decide (n < 2)))) _ = _; rw [decide_eq_false h2]; rfl) rfl) ?_
    refine seq_of rfl (seq_of ew (seq_of rfl (seq_end (ite_of (k := true) (by show R.ok (plain (.bool (decide (1 < l')))) _ = _; rw [decide_eq_true h3]; rfl) ?_))))
    refine seq_of (env' := [.val (.loc 1), .val (.dat (.int n)), .val (.loc 0), .val (.dat (.int l')), .un, .un]) (st' := Src r cs' (l'.fdiv n) m t) ?_ (seq_end ?_)
    · show ((ofBD (bif divOk n then some (false, .int (l'.fdiv n)) else none) (Src r cs' l' m t)).sr _ _) = _
      rw [hd]
      rfl
    · show ((ofBD (bif decide (n ≠ 0) then some (false, .int (l'.fmod n)) else none) (Src r cs' (l'.fdiv n) m t)).sr _ _) = _
      rw [hm]
      rfl
  · have hb : ∀ x : Int, (x.fmod 998244353).natAbs < 2 ^ 64 := fun x => by
      have e : x.fmod 998244353 = x % 998244353 := Int.fmod_eq_emod_of_nonneg _ (by decide)
      have h1 := Int.emod_nonneg x (show (998244353 : Int) ≠ 0 by decide)
      have h2 := Int.emod_lt_of_pos x (show (0 : Int) < 998244353 by decide)
      omega
    have hq : ∀ x : Int, mulOk (x.fmod 998244353) (x.fmod 998244353) = true := fun x => by
      unfold mulOk
      rw [decide_eq_true (hb x)]
      rfl
    have hc : ∀ (x k : Int), k.natAbs < 2 ^ 64 → mulOk x k = true := fun x k hk => by
      unfold mulOk
      rw [decide_eq_true hk, Bool.or_true]
      rfl
    have hs0 : ∀ (x k : Int), k.natAbs < 2 ^ 64 → ofBD (bin .mul (.int x) (.int k)) (Src r cs' l' m (t + 1)) = .ok ⟨false, .dat (.int (x * k))⟩ (Src r cs' l' m (t + 1)) := fun x k hk => by
      show ofBD (bif mulOk x k then some (false, .int (x * k)) else none) _ = _
      rw [hc x k hk]
      rfl
    refine ⟨_, Src r cs' l' m (t + 1), fn_ret (x := plain (.int (((((m + (t + 1) * 104729).fmod 998244353 * (m + (t + 1) * 104729).fmod 998244353 + (t + 1) * 17).fmod 2147483647).fdiv 16).fmod n))) rfl ?_, ⟨cs', _, _, _, rfl, by omega⟩, (fm _).1, fun _ => (fm _).2, fun q => (h2 q).elim⟩
    refine seq_of (ite_of (k := false) (by show R.ok (plain (.bool (decide (n < 2)))) _ = _; rw [decide_eq_false h2]; rfl) rfl) ?_
    refine seq_of rfl (seq_of ew (seq_of rfl (seq_of (ite_of (k := false) (by show R.ok (plain (.bool (decide (1 < l')))) _ = _; rw [decide_eq_false h3]; rfl) rfl) ?_)))
    refine seq_of (env' := [.val (.loc 1), .val (.dat (.int n)), .val (.loc 0), .val (.dat (.int l')), .un, .un]) (st' := Src r cs' l' m (t + 1)) rfl (seq_of rfl ?_)
    have e1 : ∀ {b : Bool}, ixV ⟨b, .loc 1⟩ ⟨false, .dat (.str "mixed")⟩ (Src r cs' l' m (t + 1)) = .ok ⟨false, .dat (.int m)⟩ (Src r cs' l' m (t + 1)) := rfl
    have e2 : divOk 16 = true := by decide
    have hd0 : ¬ n = 0 := by omega
    simp [evSs, evS, evE, evP, bltF, bin, e1, e2, hc, hq, hd0]
theorem pick_ok (n : Int) (hn : n.natAbs.log2 < 9000) (st : Store) (h : IsSrc st) : ∃ k st', f__law_pick [.loc 1, .dat (.int n)] st = .ok (plain (.int k)) st' ∧ IsSrc st' ∧ 0 ≤ k ∧ (2 ≤ n → k < n) ∧ (n < 2 → k = 0) := by
  obtain ⟨r, h⟩ := h.r
  obtain ⟨k, st', e, a, b⟩ := pick_okR n hn st h
  exact ⟨k, st', e, a.src, b⟩
theorem cells_ok (ns : List Int) (hl : ns.length ≤ 63) : ∃ st', f__law_open_cells [.dat (scriptD ns)] [] = .ok ⟨false, .loc 1⟩ st' ∧ IsSrc st' := by
  have hm : ∀ (x k : Int), k.natAbs < 2 ^ 64 → mulOk x k = true := fun x k hk => by
    unfold mulOk
    rw [decide_eq_true hk, Bool.or_true]
    rfl
  obtain ⟨env', st', e, hp⟩ := forL_nx (tg := .nm 2) (body := evSs (.cons (.set 1 false (.bin .mod (.blt .int (.cons (.bin .add (.bin .add (.bin .mul (.var 1) (.cst (.int 69069))) (.bin .mul (.var 2) (.cst (.int 31)))) (.cst (.int 5))) .nil)) (.cst (.int 2147483629)))) .nil))
    (fun r env st => st = [] ∧ (∃ ms, r = ms.map PyData.int) ∧ ∃ (m : Int) (s : Slot), env = [.val (.dat (scriptD ns)), .val (.dat (.int m)), s, .un]) (fun d r env st hp => by
      obtain ⟨rfl, ⟨ms, em⟩, m, s, rfl⟩ := hp
      cases ms with
      | nil => cases em
      | cons c ms =>
        cases em
        refine ⟨_, _, _, rfl, .inl ?_, rfl, ⟨ms, rfl⟩, (m * 69069 + c * 31 + 5).fmod 2147483629, .val (.dat (.int c)), rfl⟩
        simp [evSs, evS, evE, evP, bltF, bin, hm]) (ns.map PyData.int) [.val (.dat (scriptD ns)), .val (.dat (.int 11)), .un, .un] [] ⟨rfl, ⟨ns, rfl⟩, 11, .un, rfl⟩
  obtain ⟨rfl, _, m, s, rfl⟩ := hp
  refine ⟨Src [] (ns.map fun n => ((n.natAbs : Nat) : Int)).reverse 1 m 0, fn_ret rfl ?_, _, _, _, _, _, rfl, by simpa using hl⟩
  refine seq_of rfl (seq_of e ?_)
  have ec : evE (.comp (.blt .abs (.cons (.var 2) .nil)) [("_law_cell", 2)] (.nm 2) (.seq (.var 0)) .non) false [.val (.dat (scriptD ns)), .val (.dat (.int m)), s, .un] [] = .ok (fresh (.list ((ns.map fun n => ((n.natAbs : Nat) : Int)).map PyData.int))) [] := by
    show ((compL _ (ns.map PyData.int) [] []).bind fun ys st => R.ok (fresh (.list ys)) st) = _
    rw [compL_map (fun d => match d with | .int n => .int n.natAbs | d => d) (fun d hd => ?_) (by simp [sizeLine]; omega)]
    · simp [List.map_map, Function.comp_def]
    · obtain ⟨n, _, rfl⟩ := List.mem_map.mp hd
      rfl
  refine seq_of (env' := [.val (.dat (scriptD ns)), .val (.dat (.int m)), s, .val (.dat (.list ((ns.map fun n => ((n.natAbs : Nat) : Int)).map PyData.int)))]) (st' := []) ?_ (seq_end ?_)
  · show ((evE (.comp (.blt .abs (.cons (.var 2) .nil)) [("_law_cell", 2)] (.nm 2) (.seq (.var 0)) .non) false [.val (.dat (scriptD ns)), .val (.dat (.int m)), s, .un] []).sr _ _) = _
    rw [ec]
    rfl
  · unfold Src
    rw [List.map_reverse]
    rfl
end MK
/-! Data: equality, depth, the length of what repr tells. -/
namespace MP
open PySem
mutual
/-- ints of bounded size, bools, None, tuples and lists of such -/
def okD : MP.D → Bool
  | .none => true
  | .bool _ => true
  | .int i => decide (i.natAbs.log2 < 1900)
  | .str x => (PyData.str x).showable && (PyData.str x).canLay0 && decide ((PyData.str x).shown.length ≤ 20)
  | .list xs => okDs xs
  | .tuple xs => okDs xs
  | .dict _ => false
def okDs : List MP.D → Bool
  | [] => true
  | x :: xs => okD x && okDs xs
end
mutual
def wtD : MP.D → Nat
  | .none => 4
  | .bool _ => 5
  | .int i => i.natAbs.log2 + 2
  | .str _ => 20
  | .list xs => wtDs xs + 3
  | .tuple xs => wtDs xs + 3
  | .dict _ => 0
def wtDs : List MP.D → Nat
  | [] => 0
  | x :: xs => wtD x + 2 + wtDs xs
end
mutual
theorem ok_showable : ∀ d : MP.D, okD d = true → d.showable = true
  | .none, _ => rfl
  | .bool _, _ => rfl
  | .int i, h => by
    simp only [okD, decide_eq_true_eq] at h
    rw [PyData.showable, decide_eq_true_eq]
    omega
  | .list xs, h => by
    simp only [PyData.showable]
    exact oks_showable xs h
  | .tuple xs, h => by
    simp only [PyData.showable]
    exact oks_showable xs h
  | .str x, h => by
    simp only [okD, Bool.and_eq_true] at h
    exact h.1.1
  | .dict _, h => by cases h
theorem oks_showable : ∀ d : List MP.D, okDs d = true → PyData.showableAll d = true
  | [], _ => rfl
  | x :: xs, h => by
    obtain ⟨h1, h2⟩ := Bool.and_eq_true_iff.mp (show (okD x && okDs xs) = true from h)
    simp only [PyData.showableAll, ok_showable x h1, oks_showable xs h2, Bool.and_self]
end
mutual
theorem ok_nodict : ∀ d : MP.D, okD d = true → d.hasDict = false
  | .none, _ => rfl
  | .bool _, _ => rfl
  | .int i, h => rfl
  | .list xs, h => by
    simp only [PyData.hasDict]
    exact oks_nodict xs h
  | .tuple xs, h => by
    simp only [PyData.hasDict]
    exact oks_nodict xs h
  | .str _, h => by simp only [PyData.hasDict]
  | .dict _, h => by cases h
theorem oks_nodict : ∀ d : List MP.D, okDs d = true → PyData.hasDictAll d = false
  | [], _ => rfl
  | x :: xs, h => by
    obtain ⟨h1, h2⟩ := Bool.and_eq_true_iff.mp (show (okD x && okDs xs) = true from h)
    simp only [PyData.hasDictAll, ok_nodict x h1, oks_nodict xs h2, Bool.or_self]
end
mutual
theorem ok_lay : ∀ d : MP.D, okD d = true → d.canLay0 = true
  | .none, _ => rfl
  | .bool _, _ => rfl
  | .int i, h => rfl
  | .list xs, h => by
    simp only [PyData.canLay0]
    exact oks_lay xs h
  | .tuple xs, h => by
    simp only [PyData.canLay0]
    exact oks_lay xs h
  | .str x, h => by
    simp only [okD, Bool.and_eq_true] at h
    exact h.1.2
  | .dict _, h => by cases h
theorem oks_lay : ∀ d : List MP.D, okDs d = true → PyData.canLayAll0 d = true
  | [], _ => rfl
  | x :: xs, h => by
    obtain ⟨h1, h2⟩ := Bool.and_eq_true_iff.mp (show (okD x && okDs xs) = true from h)
    simp only [PyData.canLayAll0, ok_lay x h1, oks_lay xs h2, Bool.and_self]
end
theorem int_len (i : Int) : (Str.ofString (toString i)).length ≤ i.natAbs.log2 + 2 := by
  have h := int_text_length_le (a := i) (k := i.natAbs.log2 + 1) (by omega) (by omega)
  rw [ofString_length]
  omega
mutual
theorem shown_wt : ∀ d : MP.D, okD d = true → d.shown.length ≤ wtD d
  | .none, _ => by
    exact Nat.le_of_eq (show (PyData.shown .none).length = 4 from rfl)
  | .bool b, _ => by cases b <;> decide
  | .int i, h => by
    simp only [PyData.shown, wtD]
    exact int_len i
  | .list xs, h => by
    have q := listText_len_le (PyData.shownAll xs)
    have r := showns_wt xs h
    simp only [PyData.shown, wtD]
    omega
  | .tuple xs, h => by
    have q := tupleText_len_le (PyData.shownAll xs)
    have r := showns_wt xs h
    simp only [PyData.shown, wtD]
    omega
  | .str x, h => by
    simp only [okD, Bool.and_eq_true, decide_eq_true_eq] at h
    exact h.2
  | .dict _, h => by cases h
theorem showns_wt : ∀ d : List MP.D, okDs d = true → ((PyData.shownAll d).map (·.length)).sum + 2 * (PyData.shownAll d).length ≤ wtDs d
  | [], _ => Nat.le_refl _
  | x :: xs, h => by
    obtain ⟨h1, h2⟩ := Bool.and_eq_true_iff.mp (show (okD x && okDs xs) = true from h)
    have q := shown_wt x h1
    have r := showns_wt xs h2
    simp only [PyData.shownAll, wtDs, List.map_cons, List.sum_cons, List.length_cons]
    omega
end
theorem showOk_of {d : MP.D} (h : okD d = true) (hd : d.depth ≤ 100) (hw : wtD d ≤ 2 ^ 24) : showOk d = true := by
  unfold showOk
  rw [decide_eq_true hd, ok_showable d h, ok_nodict d h, show fits d.shown.length = true from decide_eq_true (Nat.le_trans (shown_wt d h) hw)]
  rfl
theorem shp_of {d : MP.D} (h : okD d = true) (hd : d.depth ≤ 64) : shp d = true := by
  show (d.canLay0 && decide (d.depth ≤ 64)) = true
  rw [ok_lay d h, decide_eq_true hd]
  rfl
mutual
/-- without bools, equal is the same -/
def noB : MP.D → Bool
  | .none => true
  | .bool _ => false
  | .int _ => true
  | .str _ => true
  | .list xs => noBs xs
  | .tuple xs => noBs xs
  | .dict _ => false
def noBs : List MP.D → Bool
  | [] => true
  | x :: xs => noB x && noBs xs
end
mutual
theorem eqv_same : ∀ (d e : MP.D), noB d = true → noB e = true → (PyData.eqv d e = true ↔ d = e)
  | .none, e, _, h => by cases e <;> simp_all [PyData.eqv, noB]
  | .int i, e, _, h => by cases e <;> simp_all [PyData.eqv, noB]
  | .str i, e, _, h => by cases e <;> simp_all [PyData.eqv, noB]
  | .list xs, e, h1, h2 => by
    cases e with
    | list ys => simpa [PyData.eqv] using eqvs_same xs ys h1 h2
    | _ => simp [PyData.eqv]
  | .tuple xs, e, h1, h2 => by
    cases e with
    | tuple ys => simpa [PyData.eqv] using eqvs_same xs ys h1 h2
    | _ => simp [PyData.eqv]
  | .bool _, _, h, _ => by cases h
  | .dict _, _, h, _ => by cases h
theorem eqvs_same : ∀ (d e : List MP.D), noBs d = true → noBs e = true → (PyData.eqvAll d e = true ↔ d = e)
  | [], [], _, _ => by simp [PyData.eqvAll]
  | [], _ :: _, _, _ => by simp [PyData.eqvAll]
  | _ :: _, [], _, _ => by simp [PyData.eqvAll]
  | x :: xs, y :: ys, h1, h2 => by
    obtain ⟨a1, a2⟩ := Bool.and_eq_true_iff.mp (show (noB x && noBs xs) = true from h1)
    obtain ⟨b1, b2⟩ := Bool.and_eq_true_iff.mp (show (noB y && noBs ys) = true from h2)
    simp [PyData.eqvAll, eqv_same x y a1 b1, eqvs_same xs ys a2 b2]
end
theorem okDs_map {α : Type} {f : α → MP.D} : ∀ {l : List α}, (∀ a ∈ l, okD (f a) = true) → okDs (l.map f) = true
  | [], _ => rfl
  | a :: l, h => by
    show (okD (f a) && okDs (l.map f)) = true
    rw [h a List.mem_cons_self, okDs_map fun b hb => h b (List.mem_cons_of_mem _ hb)]
    rfl
theorem depths_map {α : Type} {f : α → MP.D} {n : Nat} : ∀ {l : List α}, (∀ a ∈ l, (f a).depth ≤ n) → PyData.depthAll (l.map f) ≤ n
  | [], _ => Nat.zero_le _
  | a :: l, h => by
    have q := depths_map fun b hb => h b (List.mem_cons_of_mem (a := b) a hb)
    have r := h a List.mem_cons_self
    rw [List.map_cons, PyData.depthAll]
    omega
theorem wts_map {α : Type} {f : α → MP.D} {n : Nat} : ∀ {l : List α}, (∀ a ∈ l, wtD (f a) ≤ n) → wtDs (l.map f) ≤ (n + 2) * l.length
  | [], _ => Nat.zero_le _
  | a :: l, h => by
    have q := wts_map fun b hb => h b (List.mem_cons_of_mem (a := b) a hb)
    have r := h a List.mem_cons_self
    show wtD (f a) + 2 + wtDs (l.map f) ≤ (n + 2) * (l.length + 1)
    rw [Nat.mul_succ]
    omega
theorem eqvs_len : ∀ {xs ys : List MP.D}, xs.length ≠ ys.length → PyData.eqvAll xs ys = false
  | [], [], h => (h rfl).elim
  | [], _ :: _, _ => by simp [PyData.eqvAll]
  | _ :: _, [], _ => by simp [PyData.eqvAll]
  | x :: xs, y :: ys, h => by simp [PyData.eqvAll, eqvs_len (xs := xs) (ys := ys) (by simpa using h)]
theorem eqD_of {x y : MP.D} (hx : shp x = true) (hy : shp y = true) : eqD x y = some (PyData.eqv x y) := by
  have go : (bif shp x && shp y then some (PyData.eqv x y) else none) = some (PyData.eqv x y) := by
    rw [hx, hy]
    rfl
  cases x <;> cases y <;> first
    | exact go
    | rfl
    | (rename_i xs ys
       show (bif decide (xs.length = ys.length) then (bif shp (.list xs) && shp (.list ys) then some (PyData.eqv (.list xs) (.list ys)) else none) else some false) = _
       by_cases h : xs.length = ys.length
       · rw [decide_eq_true h]
         exact go
       · rw [decide_eq_false h]
         show some false = some (PyData.eqvAll xs ys)
         rw [eqvs_len h])
theorem cmp_eq {x y : MP.D} (hx : shp x = true) (hy : shp y = true) : cmpD .eq x y = some (PyData.eqv x y) := eqD_of hx hy
theorem cmp_ne {x y : MP.D} (hx : shp x = true) (hy : shp y = true) : cmpD .ne x y = some (!PyData.eqv x y) := by
  show (eqD x y).map not = _
  rw [eqD_of hx hy]
  rfl
theorem eqv_dec {x y : MP.D} {p : Prop} [Decidable p] (hx : noB x = true) (hy : noB y = true) (h : x = y ↔ p) : PyData.eqv x y = decide p := by
  have q := eqv_same x y hx hy
  by_cases hp : p
  · rw [decide_eq_true hp, q.mpr (h.mpr hp)]
  · rw [decide_eq_false hp]
    cases e : PyData.eqv x y with
    | false => rfl
    | true => exact (hp (h.mp (q.mp e))).elim
theorem blt_repr {d : MP.D} (h : showOk d = true) : bltF .repr [d] = some (false, PyData.str d.shown) := by
  show (bif showOk d then some (false, PyData.str d.shown) else none) = _
  rw [h]
  rfl
theorem shp_int (i : Int) : shp (.int i) = true := by
  show (PyData.canLay0 (.int i) && decide (PyData.depth (.int i) ≤ 64)) = true
  simp [PyData.canLay0, PyData.depth]
theorem eqv_int (a b : Int) : PyData.eqv (.int a) (.int b) = decide (a = b) := by
  simp only [PyData.eqv]
  rfl
@[simp] theorem cmp_int_eq (a b : Int) : cmpD .eq (.int a) (.int b) = some (decide (a = b)) := by rw [cmp_eq (shp_int a) (shp_int b), eqv_int]
@[simp] theorem cmp_int_ne (a b : Int) : cmpD .ne (.int a) (.int b) = some (!decide (a = b)) := by rw [cmp_ne (shp_int a) (shp_int b), eqv_int]
@[simp] theorem cmp_int_lt (a b : Int) : cmpD .lt (.int a) (.int b) = some (decide (a < b)) := Eq.trans rfl rfl
@[simp] theorem cmp_int_le (a b : Int) : cmpD .le (.int a) (.int b) = some (decide (a ≤ b)) := Eq.trans rfl rfl
@[simp] theorem cmp_int_gt (a b : Int) : cmpD .gt (.int a) (.int b) = some (decide (b < a)) := Eq.trans rfl rfl
@[simp] theorem cmp_int_ge (a b : Int) : cmpD .ge (.int a) (.int b) = some (decide (b ≤ a)) := Eq.trans rfl rfl
@[simp] theorem bin_int_add (a b : Int) : bin .add (.int a) (.int b) = some (false, .int (a + b)) := Eq.trans rfl rfl
@[simp] theorem bin_int_sub (a b : Int) : bin .sub (.int a) (.int b) = some (false, .int (a - b)) := Eq.trans rfl rfl
@[simp] theorem fits_0 : fits 0 = true := by decide
@[simp] theorem fits_1 : fits 1 = true := by decide
@[simp] theorem fits_2 : fits 2 = true := by decide
@[simp] theorem fits_3 : fits 3 = true := by decide
@[simp] theorem fits_4 : fits 4 = true := by decide
@[simp] theorem fits_5 : fits 5 = true := by decide
@[simp] theorem fits_6 : fits 6 = true := by decide
@[simp] theorem fits_7 : fits 7 = true := by decide
@[simp] theorem fits_8 : fits 8 = true := by decide
@[simp] theorem fits_9 : fits 9 = true := by decide
@[simp] theorem fits_10 : fits 10 = true := by decide
@[simp] theorem fits_11 : fits 11 = true := by decide
@[simp] theorem fits_12 : fits 12 = true := by decide
@[simp] theorem fits_13 : fits 13 = true := by decide
@[simp] theorem fits_14 : fits 14 = true := by decide
@[simp] theorem fits_15 : fits 15 = true := by decide
@[simp] theorem fits_16 : fits 16 = true := by decide
@[simp] theorem fitsS_0 : fitsS 0 = true := by decide
@[simp] theorem fitsS_1 : fitsS 1 = true := by decide
@[simp] theorem fitsS_2 : fitsS 2 = true := by decide
@[simp] theorem fitsS_3 : fitsS 3 = true := by decide
@[simp] theorem fitsS_4 : fitsS 4 = true := by decide
end MP
/-! What must hold ahead of a text of the small language, for something to hold behind it. -/
namespace MP
open PySem PyProof.Rows L2 PySem.Spec
section
variable {α β : Type} {st st1 : Store} {env : Env} {pk : Bool}
inductive Tag {α : Sort u} (a : α) : Type
  | mk
def bT (x : R α) (f : α → Store → R β) (_ : Tag f := .mk) : R β := x.bind f
def sT (x : R α) (env : Env) (f : α → Store → SR) (_ : Tag f := .mk) : SR := x.sr env f
def qT (x : SR) (f : Env → Store → SR) (_ : Tag f := .mk) : SR := x.seq f
def Cb {γ : Type} (c : Bool) (x y : γ) (_ : Tag x := .mk) (_ : Tag y := .mk) : γ := bif c then x else y
def oT {γ : Type} (o : Option Env) (no : γ) (f : Env → γ) (_ : Tag f := .mk) : γ := match o with
  | none => no
  | some e => f e
theorem bT_ok {a : α} {f : α → Store → R β} {t : Tag f} : bT (R.ok a st) f t = f a st := Eq.trans rfl rfl
theorem sT_ok {a : α} {f : α → Store → SR} {t : Tag f} : sT (R.ok a st) env f t = f a st := Eq.trans rfl rfl
theorem qT_nx {f : Env → Store → SR} {t : Tag f} : qT (.nx env st) f t = f env st := Eq.trans rfl rfl
theorem qT_rt {x : RV} {f : Env → Store → SR} {t : Tag f} : qT (.rt x st) f t = .rt x st := Eq.trans rfl rfl
theorem qT_br {f : Env → Store → SR} {t : Tag f} : qT (.br env st) f t = .br env st := Eq.trans rfl rfl
theorem qT_ct {f : Env → Store → SR} {t : Tag f} : qT (.ct env st) f t = .ct env st := Eq.trans rfl rfl
theorem bT_exc {c : Str} {ds : List (Str × MP.D)} {f : α → Store → R β} {t : Tag f} : bT (R.exc c ds st) f t = .exc c ds st := Eq.trans rfl rfl
theorem sT_exc {c : Str} {ds : List (Str × MP.D)} {f : α → Store → SR} {t : Tag f} : sT (R.exc c ds st) env f t = .ex c ds env st := Eq.trans rfl rfl
theorem qT_ex {c : Str} {ds : List (Str × MP.D)} {f : Env → Store → SR} {t : Tag f} : qT (.ex c ds env st) f t = .ex c ds env st := Eq.trans rfl rfl
/-- a try: what its clause does -/
def yT (x : SR) (c : Str) (f : Env → Store → SR) (_ : Tag f := .mk) : SR := match x with
  | .ex c' _ env' st' => bif decide (c' = c) then f env' st' else .no
  | r => r
theorem yT_nx {c : Str} {f : Env → Store → SR} {t : Tag f} : yT (.nx env st) c f t = .nx env st := Eq.trans rfl rfl
theorem yT_rt {c : Str} {x : RV} {f : Env → Store → SR} {t : Tag f} : yT (.rt x st) c f t = .rt x st := Eq.trans rfl rfl
theorem yT_br {c : Str} {f : Env → Store → SR} {t : Tag f} : yT (.br env st) c f t = .br env st := Eq.trans rfl rfl
theorem yT_ct {c : Str} {f : Env → Store → SR} {t : Tag f} : yT (.ct env st) c f t = .ct env st := Eq.trans rfl rfl
theorem yT_ex {c : Str} {ds : List (Str × MP.D)} {f : Env → Store → SR} {t : Tag f} : yT (.ex c ds env st) c f t = f env st := by
  show (bif decide (c = c) then f env st else .no) = _
  rw [decide_eq_true rfl]
  rfl
theorem Cb_t {γ : Type} {x y : γ} {t : Tag x} {u : Tag y} : Cb true x y t u = x := Eq.trans rfl rfl
theorem Cb_f {γ : Type} {x y : γ} {t : Tag x} {u : Tag y} : Cb false x y t u = y := Eq.trans rfl rfl
theorem oT_s {γ : Type} {e : Env} {no : γ} {f : Env → γ} {t : Tag f} : oT (some e) no f t = f e := Eq.trans rfl rfl
structure Wp (x : R α) (Q : α → Store → Prop) (t : Tag Q := .mk) : Prop where
  h : match x with
    | .ok a st => Q a st
    | _ => False
structure Outs where
  nx : Env → Store → Prop
  rt : RV → Store → Prop
  br : Env → Store → Prop
  ct : Env → Store → Prop
structure WpS (x : SR) (O : Outs) (t : Tag O := .mk) : Prop where
  h : match x with
    | .nx e st => O.nx e st
    | .rt x st => O.rt x st
    | .br e st => O.br e st
    | .ct e st => O.ct e st
    | _ => False
theorem wp_ok {a : α} {Q : α → Store → Prop} {t : Tag Q} : Wp (.ok a st) Q t = Q a st := propext ⟨fun h => h.h, fun h => ⟨h⟩⟩
theorem wp_no {Q : α → Store → Prop} {t : Tag Q} : Wp .no Q t = False := propext ⟨fun h => h.h, fun h => h.elim⟩
theorem wp_exc {c : Str} {ds : List (Str × MP.D)} {Q : α → Store → Prop} {t : Tag Q} : Wp (.exc c ds st) Q t = False := propext ⟨fun h => h.h, fun h => h.elim⟩
theorem wps_nx {O : Outs} {t : Tag O} : WpS (.nx env st) O t = O.nx env st := propext ⟨fun h => h.h, fun h => ⟨h⟩⟩
theorem wps_rt {x : RV} {O : Outs} {t : Tag O} : WpS (.rt x st) O t = O.rt x st := propext ⟨fun h => h.h, fun h => ⟨h⟩⟩
theorem wps_br {O : Outs} {t : Tag O} : WpS (.br env st) O t = O.br env st := propext ⟨fun h => h.h, fun h => ⟨h⟩⟩
theorem wps_ct {O : Outs} {t : Tag O} : WpS (.ct env st) O t = O.ct env st := propext ⟨fun h => h.h, fun h => ⟨h⟩⟩
theorem wps_no {O : Outs} {t : Tag O} : WpS .no O t = False := propext ⟨fun h => h.h, fun h => h.elim⟩
theorem wps_ex {c : Str} {ds : List (Str × MP.D)} {O : Outs} {t : Tag O} : WpS (.ex c ds env st) O t = False := propext ⟨fun h => h.h, fun h => h.elim⟩
theorem wp_bind {x : R α} {f : α → Store → R β} {Q : β → Store → Prop} {t : Tag f} {u : Tag Q} : Wp (bT x f t) Q u = Wp x fun a st => Wp (f a st) Q u := by
  cases x with
  | ok a st => rw [wp_ok]; rfl
  | exc c ds st => rw [wp_exc]; exact wp_exc
  | no => rw [wp_no]; exact wp_no
theorem wps_sr {x : R α} {f : α → Store → SR} {O : Outs} {t : Tag f} {u : Tag O} : WpS (sT x env f t) O u = Wp x fun a st => WpS (f a st) O u := by
  cases x with
  | ok a st => rw [wp_ok]; rfl
  | exc c ds st => rw [wp_exc]; exact wps_ex
  | no => rw [wp_no]; exact wps_no
theorem wps_seq {x : SR} {f : Env → Store → SR} {O : Outs} {t : Tag f} {u : Tag O} : WpS (qT x f t) O u = WpS x ⟨fun e st => WpS (f e st) O u, O.rt, O.br, O.ct⟩ := by
  cases x with
  | nx e st => rw [wps_nx]; rfl
  | rt e st => rw [wps_rt]; exact wps_rt
  | br e st => rw [wps_br]; exact wps_br
  | ct e st => rw [wps_ct]; exact wps_ct
  | ex _ _ _ _ => rw [wps_ex]; exact wps_ex
  | no => rw [wps_no]; exact wps_no
theorem wps_turn {x : SR} {f : Env → Store → SR} {O : Outs} : WpS (turn x f) O = WpS x ⟨fun e st => WpS (f e st) O, O.rt, O.nx, fun e st => WpS (f e st) O⟩ := by
  cases x with
  | nx e st => rw [wps_nx]; rfl
  | rt e st => rw [wps_rt]; exact wps_rt
  | br e st => rw [wps_br]; exact wps_nx
  | ct e st => rw [wps_ct]; rfl
  | ex _ _ _ _ => rw [wps_ex]; exact wps_ex
  | no => rw [wps_no]; exact wps_no
theorem Wp.ex {x : R α} {Q : α → Store → Prop} (h : Wp x Q) : ∃ a st, x = .ok a st ∧ Q a st := by
  cases x with
  | ok a st => exact ⟨a, st, rfl, h.h⟩
  | exc _ _ _ => exact h.h.elim
  | no => exact h.h.elim
theorem Wp.of {x : R α} {Q : α → Store → Prop} (h : ∃ a st, x = .ok a st ∧ Q a st) : Wp x Q := by
  obtain ⟨a, st, e, q⟩ := h
  rw [e]
  exact ⟨q⟩
theorem Wp.mono {x : R α} {Q Q' : α → Store → Prop} (h : Wp x Q) (k : ∀ a st, Q a st → Q' a st) : Wp x Q' := by
  obtain ⟨a, st, e, q⟩ := h.ex
  exact .of ⟨a, st, e, k a st q⟩
theorem Wp.eq {x : R α} {a : α} {Q : α → Store → Prop} (e : x = .ok a st) (q : Q a st) : Wp x Q := .of ⟨a, st, e, q⟩
theorem WpS.mono {x : SR} {O O' : Outs} (h : WpS x O) (n : ∀ e st, O.nx e st → O'.nx e st) (r : ∀ x st, O.rt x st → O'.rt x st) (b : ∀ e st, O.br e st → O'.br e st) (c : ∀ e st, O.ct e st → O'.ct e st) : WpS x O' := by
  cases x with
  | nx e st => exact ⟨n e st h.h⟩
  | rt e st => exact ⟨r e st h.h⟩
  | br e st => exact ⟨b e st h.h⟩
  | ct e st => exact ⟨c e st h.h⟩
  | ex _ _ _ _ => exact h.h.elim
  | no => exact h.h.elim
theorem WpS.eq {x : SR} {e : Env} {O : Outs} (h : x = .nx e st) (q : O.nx e st) : WpS x O := by
  rw [h]
  exact ⟨q⟩
theorem wps_if {c : Bool} {x y : SR} {O : Outs} {t : Tag x} {u : Tag y} (h1 : c = true → WpS x O) (h2 : c = false → WpS y O) : WpS (Cb c x y t u) O := by
  cases c with
  | true => exact h1 rfl
  | false => exact h2 rfl
theorem wp_if {c : Bool} {x y : R α} {Q : α → Store → Prop} {t : Tag x} {u : Tag y} (h1 : c = true → Wp x Q) (h2 : c = false → Wp y Q) : Wp (Cb c x y t u) Q := by
  cases c with
  | true => exact h1 rfl
  | false => exact h2 rfl
def tT (x : SR) (f : Env → Store → SR) (_ : Tag f := .mk) : SR := turn x f
theorem wps_tT {x : SR} {f : Env → Store → SR} {O : Outs} {t : Tag f} {u : Tag O} : WpS (tT x f t) O u = WpS x ⟨fun e st => WpS (f e st) O, O.rt, O.nx, fun e st => WpS (f e st) O⟩ := wps_turn
theorem tT_nx {f : Env → Store → SR} {t : Tag f} : tT (.nx env st) f t = f env st := Eq.trans rfl rfl
theorem tT_ct {f : Env → Store → SR} {t : Tag f} : tT (.ct env st) f t = f env st := Eq.trans rfl rfl
theorem tT_br {f : Env → Store → SR} {t : Tag f} : tT (.br env st) f t = .nx env st := Eq.trans rfl rfl
theorem tT_rt {x : RV} {f : Env → Store → SR} {t : Tag f} : tT (.rt x st) f t = .rt x st := Eq.trans rfl rfl
theorem tT_ex {c : Str} {ds : List (Str × MP.D)} {f : Env → Store → SR} {t : Tag f} : tT (.ex c ds env st) f t = .ex c ds env st := Eq.trans rfl rfl
theorem bt_nm {i : Nat} {d : MP.D} : bindTg (.nm i) d env = some (List.set env i (.val (.dat d))) := Eq.trans rfl rfl
theorem bt_t {ts : Tgs} {ds : List MP.D} : bindTg (.tup ts) (.tuple ds) env = bindTgs ts ds env := Eq.trans rfl rfl
theorem bt_l {ts : Tgs} {ds : List MP.D} : bindTg (.tup ts) (.list ds) env = bindTgs ts ds env := Eq.trans rfl rfl
def btT (o : Option Env) (ts : Tgs) (r : List MP.D) : Option Env := match o with
  | some env' => bindTgs ts r env'
  | none => none
theorem btT_s {ts : Tgs} {r : List MP.D} : btT (some env) ts r = bindTgs ts r env := Eq.trans rfl rfl
theorem bts_n : bindTgs .nil [] env = some env := Eq.trans rfl rfl
theorem bts_c {t : Tg} {ts : Tgs} {d : MP.D} {r : List MP.D} : bindTgs (.cons t ts) (d :: r) env = btT (bindTg t d env) ts r := by
  show (match bindTg t d env with
    | some env' => bindTgs ts r env'
    | none => none) = _
  cases bindTg t d env <;> rfl
def noO : Env → Store → Prop := fun _ _ => False
theorem wp_fn {np ns : Nat} {m : Sms} {vs : List Val} {Q : RV → Store → Prop} (hl : vs.length = np) (h : WpS (evSs m (vs.map Slot.val ++ List.replicate (ns - np) .un) st) ⟨fun _ st => Q ⟨false, .dat .none⟩ st, Q, noO, noO⟩) : Wp (fnOf np ns m vs st) Q := by
  show Wp (bif decide (vs.length = np) then (match evSs m (vs.map Slot.val ++ List.replicate (ns - np) .un) st with
    | .nx _ st => R.ok (plain .none) st
    | .rt x st => R.ok x st
    | .ex c ds _ st => R.exc c ds st
    | _ => R.no) else R.no) Q
  rw [decide_eq_true hl]
  generalize evSs m (vs.map Slot.val ++ List.replicate (ns - np) .un) st = y at h
  cases y with
  | nx e st => exact ⟨h.h⟩
  | rt e st => exact ⟨h.h⟩
  | br e st => exact h.h.elim
  | ct e st => exact h.h.elim
  | ex _ _ _ _ => exact h.h.elim
  | no => exact h.h.elim
theorem fn_eq {np ns : Nat} {m : Sms} {vs : List Val} {r : R RV} (hl : vs.length = np) (h : (match evSs m (vs.map Slot.val ++ List.replicate (ns - np) .un) st with
    | .nx _ st => R.ok (plain .none) st
    | .rt x st => R.ok x st
    | .ex c ds _ st => R.exc c ds st
    | _ => R.no) = r) : fnOf np ns m vs st = r := by
  rw [← h]
  show (bif decide (vs.length = np) then _ else R.no) = _
  rw [decide_eq_true hl]
  rfl
/-- a value that is told alone -/
def Is (x : RV) (st : Store) : RV → Store → Prop := fun y st' => y = x ∧ st' = st
theorem Wp.is {x : RV} {r : R RV} (h : Wp r (Is x st)) : r = .ok x st := by
  obtain ⟨a, st', e, rfl, rfl⟩ := h.ex
  exact e
/-! ### loops -/
variable {tg : Tg} {body : Env → Store → SR} {O : Outs}
theorem wps_for (P : List MP.D → Env → Store → Prop) (step : ∀ d r env st, P (d :: r) env st → ∃ env1, bindTg tg d env = some env1 ∧ WpS (body env1 st) ⟨P r, O.rt, O.nx, P r⟩)
    (fin : ∀ env st, P [] env st → O.nx env st) : ∀ items env st, P items env st → WpS (forL tg body items env st) O
  | [], env, st, h => ⟨fin env st h⟩
  | d :: r, env, st, h => by
    obtain ⟨env1, hb, hw⟩ := step d r env st h
    show WpS (match bindTg tg d env with
      | none => SR.no
      | some env' => turn (body env' st) (forL tg body r)) O
    rw [hb]
    show WpS (turn (body env1 st) (forL tg body r)) O
    rw [wps_turn]
    exact hw.mono (fun e st q => wps_for P step fin r e st q) (fun _ _ q => q) (fun _ _ q => q) fun e st q => wps_for P step fin r e st q
theorem wps_forT {α : Type} (f : α → MP.D) (P : List α → Env → Store → Prop) (step : ∀ a r env st, P (a :: r) env st → ∃ env1, bindTg tg (f a) env = some env1 ∧ WpS (body env1 st) ⟨P r, O.rt, O.nx, P r⟩)
    (fin : ∀ env st, P [] env st → O.nx env st) : ∀ (items : List α) env st, P items env st → WpS (forL tg body (items.map f) env st) O
  | [], env, st, h => ⟨fin env st h⟩
  | d :: r, env, st, h => by
    obtain ⟨env1, hb, hw⟩ := step d r env st h
    show WpS (match bindTg tg (f d) env with
      | none => SR.no
      | some env' => turn (body env' st) (forL tg body (r.map f))) O
    rw [hb]
    show WpS (turn (body env1 st) (forL tg body (r.map f))) O
    rw [wps_turn]
    exact hw.mono (fun e st q => wps_forT f P step fin r e st q) (fun _ _ q => q) (fun _ _ q => q) fun e st q => wps_forT f P step fin r e st q
theorem wps_forI (P : Env → Store → Prop) {items : List MP.D} {env : Env} {st : Store} (h0 : P env st) (step : ∀ d env st, d ∈ items → P env st → ∃ env1, bindTg tg d env = some env1 ∧ WpS (body env1 st) ⟨P, O.rt, O.nx, P⟩)
    (fin : ∀ env st, P env st → O.nx env st) : WpS (forL tg body items env st) O := by
  refine wps_for (fun r e st => P e st ∧ ∀ d ∈ r, d ∈ items) (fun d r env st h => ?_) (fun env st h => fin env st h.1) items env st ⟨h0, fun _ h => h⟩
  obtain ⟨env1, hb, hw⟩ := step d env st (h.2 d List.mem_cons_self) h.1
  have hr : ∀ d' ∈ r, d' ∈ items := fun d' q => h.2 d' (List.mem_cons_of_mem _ q)
  exact ⟨env1, hb, hw.mono (fun _ _ q => ⟨q, hr⟩) (fun _ _ q => q) (fun _ _ q => q) fun _ _ q => ⟨q, hr⟩⟩
theorem rangeUp_cons {i j : Int} (h : i < j) : rangeUp i j = .int i :: rangeUp (i + 1) j := by
  unfold rangeUp
  obtain ⟨n, hn⟩ : ∃ n : Nat, (j - i).toNat = n + 1 := ⟨(j - i).toNat - 1, by omega⟩
  have hm : (j - (i + 1)).toNat = n := by omega
  rw [hn, hm, List.range_succ_eq_map, List.map_cons, List.map_map]
  congr 1
  · simp
  · refine List.map_congr_left fun k _ => ?_
    show PyData.int (i + ((k + 1 : Nat) : Int)) = PyData.int (i + 1 + (k : Int))
    congr 1
    omega
theorem rangeUp_nil {i j : Int} (h : j ≤ i) : rangeUp i j = [] := by
  unfold rangeUp
  have hm : (j - i).toNat = 0 := by omega
  rw [hm]
  rfl
theorem wps_forR (P : Int → Env → Store → Prop) {j : Int} (step : ∀ k env st, k < j → P k env st → ∃ env1, bindTg tg (.int k) env = some env1 ∧ WpS (body env1 st) ⟨P (k + 1), O.rt, O.nx, P (k + 1)⟩)
    (fin : ∀ k env st, j ≤ k → P k env st → O.nx env st) : ∀ (n : Nat) (i : Int) env st, (j - i).toNat = n → P i env st → WpS (forL tg body (rangeUp i j) env st) O
  | 0, i, env, st, hn, h => by
    rw [rangeUp_nil (by omega)]
    exact ⟨fin i env st (by omega) h⟩
  | n + 1, i, env, st, hn, h => by
    have hi : i < j := by omega
    rw [rangeUp_cons hi]
    obtain ⟨env1, hb, hw⟩ := step i env st hi h
    show WpS (match bindTg tg (.int i) env with
      | none => SR.no
      | some env' => turn (body env' st) (forL tg body (rangeUp (i + 1) j))) O
    rw [hb]
    show WpS (turn (body env1 st) (forL tg body (rangeUp (i + 1) j))) O
    rw [wps_turn]
    exact hw.mono (fun e st q => wps_forR P step fin n (i + 1) e st (by omega) q) (fun _ _ q => q) (fun _ _ q => q) fun e st q => wps_forR P step fin n (i + 1) e st (by omega) q
theorem wps_while {test : Env → Store → R Bool} (P : Nat → Env → Store → Prop) (step : ∀ n env st, P n env st → Wp (test env st) fun k st1 => (k = true → WpS (body env st1) ⟨fun e s => ∃ m, m < n ∧ P m e s, O.rt, O.nx, fun e s => ∃ m, m < n ∧ P m e s⟩) ∧ (k = false → O.nx env st1)) : ∀ fuel n env st, n < fuel → P n env st → WpS (whileL test body fuel env st) O := by
  intro fuel
  induction fuel with
  | zero => intro n env st hn; omega
  | succ fuel ih =>
    intro n env st hn p
    have e : whileL test body (fuel + 1) env st = sT (test env st) env fun k st => bif k then turn (body env st) (whileL test body fuel) else .nx env st := rfl
    rw [e, wps_sr]
    refine (step n env st p).mono fun k st1 ⟨q1, q2⟩ => ?_
    cases k with
    | false => exact ⟨q2 rfl⟩
    | true =>
      show WpS (turn (body env st1) (whileL test body fuel)) O
      rw [wps_turn]
      have go : ∀ e s, (∃ m, m < n ∧ P m e s) → WpS (whileL test body fuel e s) O := fun e s ⟨m, hm, q⟩ => ih m e s (by omega) q
      exact (q1 rfl).mono go (fun _ _ q => q) (fun _ _ q => q) go
/-! ### comprehensions -/
theorem wp_compM {α : Type} {f : MP.D → Store → R (Option MP.D)} {Q : List MP.D → Store → Prop} (e g : α → MP.D) {xs : List α} (h : ∀ a ∈ xs, Wp (f (e a) st) fun y st' => y = some (g a) ∧ st' = st) (hl : xs.length ≤ 2 ^ 24) (hq : Q (xs.map g) st) : Wp (compL f (xs.map e) [] st) Q := by
  have go : ∀ (xs : List α) (acc : List MP.D), (∀ a ∈ xs, Wp (f (e a) st) fun y st' => y = some (g a) ∧ st' = st) → acc.length + xs.length ≤ 2 ^ 24 → compL f (xs.map e) acc st = .ok (acc ++ xs.map g) st := by
    intro xs
    induction xs with
    | nil =>
      intro acc _ _
      show R.ok acc st = _
      rw [List.map_nil, List.append_nil]
    | cons a r ih =>
      intro acc h hl
      obtain ⟨_, _, e1, rfl, rfl⟩ := (h a List.mem_cons_self).ex
      show (match f (e a) _ with
        | .ok (some y) st1 => bif fitsS acc.length then compL f (r.map e) (acc ++ [y]) st1 else R.no
        | .ok none st1 => compL f (r.map e) acc st1
        | _ => R.no) = _
      rw [e1]
      have q : fitsS acc.length = true := fitsS_of (by simp at hl; omega)
      show (bif fitsS acc.length then _ else _) = _
      rw [q]
      show compL f (r.map e) (acc ++ [g a]) _ = _
      rw [ih _ (fun b hb => h b (List.mem_cons_of_mem _ hb)) (by simp at hl ⊢; omega), List.append_assoc]
      rfl
  rw [go xs [] h (by simpa using hl)]
  exact ⟨hq⟩
theorem wp_compF {α : Type} {f : MP.D → Store → R (Option MP.D)} {Q : List MP.D → Store → Prop} (e : α → MP.D) (g : α → Option MP.D) {xs : List α} (h : ∀ a ∈ xs, Wp (f (e a) st) fun y st' => y = g a ∧ st' = st) (hl : xs.length ≤ 2 ^ 24) (hq : Q (xs.filterMap g) st) : Wp (compL f (xs.map e) [] st) Q := by
  have go : ∀ (xs : List α) (acc : List MP.D), (∀ a ∈ xs, Wp (f (e a) st) fun y st' => y = g a ∧ st' = st) → acc.length + xs.length ≤ 2 ^ 24 → compL f (xs.map e) acc st = .ok (acc ++ xs.filterMap g) st := by
    intro xs
    induction xs with
    | nil =>
      intro acc _ _
      show R.ok acc st = _
      rw [List.filterMap_nil, List.append_nil]
    | cons a r ih =>
      intro acc h hl
      obtain ⟨_, _, e1, rfl, rfl⟩ := (h a List.mem_cons_self).ex
      show (match f (e a) _ with
        | .ok (some y) st1 => bif fitsS acc.length then compL f (r.map e) (acc ++ [y]) st1 else R.no
        | .ok none st1 => compL f (r.map e) acc st1
        | _ => R.no) = _
      rw [e1]
      have q : fitsS acc.length = true := fitsS_of (by simp at hl; omega)
      cases hg : g a with
      | none =>
        show compL f (r.map e) acc _ = _
        rw [ih _ (fun b hb => h b (List.mem_cons_of_mem _ hb)) (by simp at hl ⊢; omega), List.filterMap_cons_none hg]
      | some y =>
        show (bif fitsS acc.length then _ else _) = _
        rw [q]
        show compL f (r.map e) (acc ++ [y]) _ = _
        rw [ih _ (fun b hb => h b (List.mem_cons_of_mem _ hb)) (by simp at hl ⊢; omega), List.append_assoc, List.filterMap_cons_some hg]
        rfl
  rw [go xs [] h (by simpa using hl)]
  exact ⟨hq⟩
open MK in
theorem wp_draw {α : Type} {f : MP.D → Store → R (Option MP.D)} {Q : List MP.D → Store → Prop} (P : α → Prop) (e : α → MP.D) {items : List MP.D} (hs : IsSrc st) (h : ∀ d st, IsSrc st → Wp (f d st) fun y st' => IsSrc st' ∧ ∃ a, P a ∧ y = some (e a)) (hl : items.length ≤ 2 ^ 24)
    (hq : ∀ (xs : List α) st', IsSrc st' → xs.length = items.length → (∀ a ∈ xs, P a) → Q (xs.map e) st') : Wp (compL f items [] st) Q := by
  obtain ⟨ys, st', e1, h1, xs, rfl, hz, hp⟩ := compL_ind (f := f) (fun r acc st => IsSrc st ∧ ∃ xs : List α, acc = xs.map e ∧ xs.length + r.length = items.length ∧ ∀ a ∈ xs, P a) (fun d r acc st hp => by
    obtain ⟨h1, xs, rfl, hz, hp⟩ := hp
    obtain ⟨_, st1, e1, h2, a, ha, rfl⟩ := (h d st h1).ex
    simp only [List.length_cons] at hz
    refine ⟨some (e a), st1, e1, ?_, h2, xs ++ [a], by simp, by simp; omega, fun b hb => ?_⟩
    · rw [List.length_map]
      exact Nat.lt_of_lt_of_le (by omega : xs.length < 2 ^ 24) (by decide)
    · rcases List.mem_append.mp hb with q | q
      · exact hp b q
      · rw [List.mem_singleton.mp q]
        exact ha) items [] st ⟨hs, [], rfl, by simp, by simp⟩
  rw [e1]
  exact ⟨hq xs st' h1 (by simpa using hz) hp⟩
/-! ### the evaluator, step by step -/
def varR (s : Option Slot) (pk : Bool) (st : Store) : R RV := match s with
  | some (.val v) => .ok ⟨false, v⟩ st
  | some (.own d) => bif pk then .ok (plain d) st else .no
  | _ => .no
def retR (s : Option Slot) (env : Env) (st : Store) : SR := match s with
  | some (.own d) => .rt ⟨true, .dat d⟩ st
  | s => (varR s false st).sr env fun x st => .rt x st
def ixR (o : Option MP.D) (st : Store) : R RV := match o with
  | some d => .ok ⟨false, .dat d⟩ st
  | none => .no
def optS {γ : Type} (o : Option γ) (f : γ → SR) (_ : Tag f := .mk) : SR := match o with
  | some a => f a
  | none => .no
theorem optS_s {γ : Type} {a : γ} {f : γ → SR} {t : Tag f} : optS (some a) f t = f a := Eq.trans rfl rfl
theorem varR_v {v : Val} : varR (some (.val v)) pk st = .ok ⟨false, v⟩ st := Eq.trans rfl rfl
theorem varR_o {d : MP.D} : varR (some (.own d)) true st = .ok ⟨false, .dat d⟩ st := Eq.trans rfl rfl
theorem retR_o {d : MP.D} : retR (some (.own d)) env st = .rt ⟨true, .dat d⟩ st := Eq.trans rfl rfl
theorem retR_v {v : Val} : retR (some (.val v)) env st = .rt ⟨false, v⟩ st := Eq.trans rfl rfl
theorem ixR_s {d : MP.D} : ixR (some d) st = .ok ⟨false, .dat d⟩ st := Eq.trans rfl rfl
theorem ix_l {f1 f2 : Bool} {xs : List MP.D} {k : Int} : ixV ⟨f1, .dat (.list xs)⟩ ⟨f2, .dat (.int k)⟩ st = ixR (ixD xs k) st := Eq.trans rfl rfl
theorem ix_t {f1 f2 : Bool} {xs : List MP.D} {k : Int} : ixV ⟨f1, .dat (.tuple xs)⟩ ⟨f2, .dat (.int k)⟩ st = ixR (ixD xs k) st := Eq.trans rfl rfl
section
variable {i : Nat} {a b c e k : Ex} {es : Exs} {o : Op2} {q q1 q2 : Cp} {x : Str} {d : MP.D} {lo hi m : Opt} {f : Fn} {g : Blt} {ts : List String} {it : It} {elt : Ex} {own : List (Str × Nat)} {tg tg1 : Tg} {s : Sm} {ss sa sb : Sms} {is : List Nat} {us : Tgs} {w : Bool}
theorem ev_var : evE (.var i) pk env st = varR env[i]? pk st := Eq.trans rfl rfl
theorem ev_cst {c : Lit} : evE (.cst c) pk env st = .ok ⟨false, .dat c.d⟩ st := Eq.trans rfl rfl
theorem ev_glob : evE (.glob x d) pk env st = .ok ⟨false, .dat d⟩ st := Eq.trans rfl rfl
theorem ev_neg : evE (.neg a) pk env st = bT (evE a true env st) fun x st => bT (intOf x st) fun i st => .ok ⟨false, .dat (.int (-i))⟩ st := Eq.trans rfl rfl
theorem ev_not : evE (.not a) pk env st = bT (evE a true env st) fun x st => bT (boolOf x st) fun b st => .ok ⟨false, .dat (.bool (!b))⟩ st := Eq.trans rfl rfl
theorem ev_bin : evE (.bin o a b) pk env st = bT (evE a true env st) fun x st => bT (datOf x st) fun x st => bT (evE b true env st) fun y st => bT (datOf y st) fun y st => ofBD (bin o x y) st := Eq.trans rfl rfl
theorem ev_cmp : evE (.cmp q a b) pk env st = bT (evE a true env st) fun x st => bT (datOf x st) fun x st => bT (evE b true env st) fun y st => bT (datOf y st) fun y st => ofB (cmpD q x y) st := Eq.trans rfl rfl
theorem ev_chain : evE (.chain q1 q2 a b c) pk env st = bT (evE a true env st) fun x st => bT (datOf x st) fun x st => bT (evE b true env st) fun y st => bT (datOf y st) fun y st =>
    bT (rOpt (cmpD q1 x y) st) fun k st => Cb k (bT (evE c true env st) fun z st => bT (datOf z st) fun z st => ofB (cmpD q2 y z) st) (.ok ⟨false, .dat (.bool false)⟩ st) := Eq.trans rfl rfl
theorem ev_and : evE (.and a b) pk env st = bT (evE a true env st) fun x st => bT (boolOf x st) fun k st => Cb k (bT (evE b true env st) fun y st => bT (boolOf y st) fun k st => .ok ⟨false, .dat (.bool k)⟩ st) (.ok ⟨false, .dat (.bool false)⟩ st) := Eq.trans rfl rfl
theorem ev_or : evE (.or a b) pk env st = bT (evE a true env st) fun x st => bT (boolOf x st) fun k st => Cb k (.ok ⟨false, .dat (.bool true)⟩ st) (bT (evE b true env st) fun y st => bT (boolOf y st) fun k st => .ok ⟨false, .dat (.bool k)⟩ st) := Eq.trans rfl rfl
theorem ev_ite : evE (.ite c a b) pk env st = bT (evE c true env st) fun x st => bT (boolOf x st) fun k st => Cb k (evE a pk env st) (evE b pk env st) := Eq.trans rfl rfl
theorem ev_tup : evE (.tup es) pk env st = bT (evA es env st) fun ds st => Cb (fits ds.length) (.ok ⟨false, .dat (.tuple ds)⟩ st) .no := Eq.trans rfl rfl
theorem ev_lst : evE (.lst es) pk env st = bT (evA es env st) fun ds st => Cb (fits ds.length) (.ok ⟨true, .dat (.list ds)⟩ st) .no := Eq.trans rfl rfl
theorem ev_ix : evE (.ix a b) pk env st = bT (evE a true env st) fun x st => bT (evE b true env st) fun y st => ixV x y st := Eq.trans rfl rfl
theorem ev_slice : evE (.slice a lo hi) pk env st = bT (evE a true env st) fun x st => bT (datOf x st) fun x st => bT (evO lo env st) fun l st => bT (evO hi env st) fun h st => ofBD (sliceD x l h) st := Eq.trans rfl rfl
theorem ev_rev : evE (.rev a) pk env st = bT (evE a true env st) fun x st => bT (datOf x st) fun x st => ofBD (revD x) st := Eq.trans rfl rfl
theorem ev_call : evE (.call x f es) pk env st = bT (evV es env st) fun vs st => f vs st := Eq.trans rfl rfl
theorem ev_blt : evE (.blt g es) pk env st = bT (evP es env st) fun ds st => ofBD (bltF g ds) st := Eq.trans rfl rfl
theorem ev_isi : evE (.isi a ts) pk env st = bT (evE a true env st) fun x st => bT (datOf x st) fun x st => .ok ⟨false, .dat (.bool (ts.any (isA x)))⟩ st := Eq.trans rfl rfl
theorem ev_comp : evE (.comp elt own tg it m) pk env st = bT (evI it env st) fun items st => bT (compL (compF elt own tg m env) items [] st) fun ys st => .ok ⟨true, .dat (.list ys)⟩ st := Eq.trans rfl rfl
theorem ev_compF {d : MP.D} : compF elt own tg m env d st = oT (bindTg tg d (wipeE env (own.map (·.2)))) .no fun env' => bT (evC m env' st) fun k st => Cb k (bT (evE elt false env' st) fun y st => bT (datOf y st) fun y st => .ok (some y) st) (.ok none st) := by
  unfold compF oT
  cases bindTg tg d (wipeE env (own.map (·.2))) <;> rfl
theorem ev_comp2 {own1 : List (Str × Nat)} {tg1 : Tg} {it1 : MP.It} {m1 : Opt} : evE (.comp2 elt own tg it m own1 tg1 it1 m1) pk env st = bT (evI it env st) fun items st => bT (compL2 (comp2F elt own tg m own1 tg1 it1 m1 env) items [] st) fun ys st => .ok ⟨true, .dat (.list ys)⟩ st := Eq.trans rfl rfl
theorem ev_comp2F {own1 : List (Str × Nat)} {tg1 : Tg} {it1 : MP.It} {m1 : Opt} {d : MP.D} {acc : List MP.D} : comp2F elt own tg m own1 tg1 it1 m1 env d acc st = oT (bindTg tg d (wipeE env (own.map (·.2)))) .no fun env1 => bT (evC m env1 st) fun k st => Cb k (bT (evI it1 env1 st) fun items1 st => compL (compF elt own1 tg1 m1 env1) items1 acc st) (.ok acc st) := by
  unfold comp2F oT
  cases bindTg tg d (wipeE env (own.map (·.2))) <;> rfl
theorem evA_n : evA .nil env st = .ok [] st := Eq.trans rfl rfl
theorem evA_c : evA (.cons e es) env st = bT (evE e false env st) fun x st => bT (datOf x st) fun d st => bT (evA es env st) fun ds st => .ok (d :: ds) st := Eq.trans rfl rfl
theorem evA_s : evA (.star e es) env st = bT (evE e true env st) fun x st => bT (datOf x st) fun d st => bT (rOpt (seqOf d) st) fun xs st => bT (evA es env st) fun ds st => .ok (xs ++ ds) st := Eq.trans rfl rfl
theorem evV_n : evV .nil env st = .ok [] st := Eq.trans rfl rfl
theorem evV_c : evV (.cons e es) env st = bT (evE e false env st) fun x st => bT (evV es env st) fun ds st => .ok (x.v :: ds) st := Eq.trans rfl rfl
theorem evP_n : evP .nil env st = .ok [] st := Eq.trans rfl rfl
theorem evP_c : evP (.cons e es) env st = bT (evE e true env st) fun x st => bT (datOf x st) fun d st => bT (evP es env st) fun ds st => .ok (d :: ds) st := Eq.trans rfl rfl
theorem evO_n : evO .non env st = .ok none st := Eq.trans rfl rfl
theorem evO_s : evO (.som e) env st = bT (evE e true env st) fun x st => bT (intOf x st) fun i st => .ok (some i) st := Eq.trans rfl rfl
theorem evC_n : evC .non env st = .ok true st := Eq.trans rfl rfl
theorem evC_s : evC (.som e) env st = bT (evE e true env st) fun x st => boolOf x st := Eq.trans rfl rfl
theorem evI_s : evI (.seq e) env st = bT (evE e false env st) fun x st => bT (datOf x st) fun d st => rOpt (seqOf d) st := Eq.trans rfl rfl
theorem evI_1 : evI (.rng1 a) env st = bT (evE a true env st) fun x st => bT (intOf x st) fun i st => Cb (rngOk i) (.ok (rangeUp 0 i) st) .no := Eq.trans rfl rfl
theorem evI_2 : evI (.rng2 a b) env st = bT (evE a true env st) fun x st => bT (intOf x st) fun i st => bT (evE b true env st) fun x st => bT (intOf x st) fun j st => Cb (rngOk i && rngOk j) (.ok (rangeUp i j) st) .no := Eq.trans rfl rfl
theorem evI_3 : evI (.rng3 a b c) env st = bT (evE a true env st) fun x st => bT (intOf x st) fun i st => bT (evE b true env st) fun x st => bT (intOf x st) fun j st => bT (evE c true env st) fun x st => bT (intOf x st) fun k st => Cb (rngOk i && rngOk j && decide (k = -1)) (.ok (rangeDn i j) st) .no := Eq.trans rfl rfl
theorem evI_e : evI (.enum e) env st = bT (evE e false env st) fun x st => bT (datOf x st) fun d st => bT (rOpt (seqOf d) st) fun xs st => .ok (enumL 0 xs) st := Eq.trans rfl rfl
theorem evI_z : evI (.zip a b) env st = bT (evE a false env st) fun x st => bT (datOf x st) fun d st => bT (evE b false env st) fun x st => bT (datOf x st) fun e st => rOpt (zipD d e) st := Eq.trans rfl rfl
theorem listOf_l {xs : List MP.D} : listOf (.list xs) = some xs := Eq.trans rfl rfl
theorem zipD_l {xs ys : List MP.D} : zipD (.list xs) (.list ys) = some (zipL xs ys) := Eq.trans rfl rfl
theorem zipD_t {xs ys : List MP.D} : zipD (.tuple xs) (.tuple ys) = some (zipL xs ys) := Eq.trans rfl rfl
theorem es_pass : evS .pass env st = .nx env st := Eq.trans rfl rfl
theorem es_exp : evS (.exp e) env st = sT (evE e true env st) env fun _ st => .nx env st := Eq.trans rfl rfl
theorem es_set : evS (.set i false e) env st = sT (evE e false env st) env fun x st => .nx (List.set env i (.val x.v)) st := Eq.trans rfl rfl
theorem es_setO : evS (.set i true e) env st = sT (evE e false env st) env fun x st => match x with
    | ⟨true, .dat d⟩ => .nx (List.set env i (.own d)) st
    | _ => .no := Eq.trans rfl rfl
theorem es_setT : evS (.setT us e) env st = sT (evE e false env st) env fun x st => sT (datOf x st) env fun d st => oT (bindTg (.tup us) d env) .no fun env' => .nx env' st := by
  show ((evE e false env st).sr env fun x st => (datOf x st).sr env fun d st => match bindTg (.tup us) d env with
    | some env' => .nx env' st
    | none => .no) = ((evE e false env st).sr env fun x st => (datOf x st).sr env fun d st => match bindTg (.tup us) d env with
    | none => .no
    | some env' => .nx env' st)
  congr 1
  funext x st
  congr 1
  funext d st
  cases bindTg (.tup us) d env <;> rfl
theorem es_par : evS (.par is es) env st = sT (evA es env st) env fun ds st => oT (putVals is ds env) .no fun env' => .nx env' st := by
  show ((evA es env st).sr env fun ds st => match putVals is ds env with
    | some env' => .nx env' st
    | none => .no) = ((evA es env st).sr env fun ds st => match putVals is ds env with
    | none => .no
    | some env' => .nx env' st)
  congr 1
  funext ds st
  cases putVals is ds env <;> rfl
def ownOf (x : RV) (st : Store) : R MP.D := match x with
  | ⟨true, .dat d⟩ => .ok d st
  | _ => .no
theorem ownOf_t {d : MP.D} : ownOf ⟨true, .dat d⟩ st = .ok d st := Eq.trans rfl rfl
theorem evR_n : evR [] .nil env st = .ok [] st := Eq.trans rfl rfl
theorem evR_f {fs : List Bool} : evR (false :: fs) (.cons e es) env st = bT (evE e false env st) fun x st => bT (datOf x st) fun d st => bT (evR fs es env st) fun ss st => .ok (.val (.dat d) :: ss) st := Eq.trans rfl rfl
theorem evR_t {fs : List Bool} : evR (true :: fs) (.cons e es) env st = bT (evE e false env st) fun x st => bT (ownOf x st) fun d st => bT (evR fs es env st) fun ss st => .ok (.own d :: ss) st := by
  show ((evE e false env st).bind fun x st => match x with
      | ⟨true, .dat d⟩ => (evR fs es env st).bind fun ss st => R.ok (.own d :: ss) st
      | _ => .no) = (evE e false env st).bind _
  congr 1
  funext x st
  obtain ⟨fr, y⟩ := x
  cases fr <;> cases y <;> rfl
theorem pS_n : putSlots [] [] env = some env := Eq.trans rfl rfl
theorem pS_c {s : Slot} {sl : List Slot} : putSlots (i :: is) (s :: sl) env = putSlots is sl (List.set env i s) := Eq.trans rfl rfl
theorem es_parO {fs : List Bool} : evS (.parO is fs es) env st = sT (evR fs es env st) env fun ss st => oT (putSlots is ss env) .no fun env' => .nx env' st := by
  show ((evR fs es env st).sr env fun ds st => match putSlots is ds env with
    | some env' => .nx env' st
    | none => .no) = ((evR fs es env st).sr env fun ds st => match putSlots is ds env with
    | none => .no
    | some env' => .nx env' st)
  congr 1
  funext ds st
  cases putSlots is ds env <;> rfl
theorem es_ite : evS (.ite c sa sb) env st = sT (evE c true env st) env fun x st => sT (boolOf x st) env fun k st => Cb k (evSs sa env st) (evSs sb env st) := Eq.trans rfl rfl
theorem es_whil : evS (.whil c sb) env st = whileL (fun env st => bT (evE c true env st) fun x st => boolOf x st) (evSs sb) WF env st := Eq.trans rfl rfl
theorem es_for : evS (.forr tg it sb) env st = sT (evI it env st) env fun items st => forL tg (evSs sb) items env st := Eq.trans rfl rfl
theorem es_brk : evS .brk env st = .br env st := Eq.trans rfl rfl
theorem es_cnt : evS .cnt env st = .ct env st := Eq.trans rfl rfl
def appR (s : Option Slot) (i : Nat) (env : Env) (d : MP.D) (st : Store) : SR := match s with
  | some (.own (.list xs)) => Cb (fitsS xs.length) (.nx (List.set env i (.own (.list (xs ++ [d])))) st) .no
  | _ => .no
theorem appR_o {xs : List MP.D} : appR (some (.own (.list xs))) i env d st = Cb (fitsS xs.length) (.nx (List.set env i (.own (.list (xs ++ [d])))) st) .no := Eq.trans rfl rfl
theorem es_app (h : ∃ xs, env[i]? = some (.own (.list xs))) : evS (.app i e) env st = sT (evE e false env st) env fun x st => sT (datOf x st) env fun d st => appR env[i]? i env d st := by
  obtain ⟨xs, h⟩ := h
  show (match env[i]? with
    | some (.own (.list xs)) => (evE e false env st).sr env fun x st => (datOf x st).sr env fun d st => bif fitsS xs.length then .nx (List.set env i (.own (.list (xs ++ [d])))) st else .no
    | _ => .no) = _
  rw [h]
  rfl
def augR (s : Option Slot) (o : Op2) (i : Nat) (env : Env) (b : Int) (st : Store) : SR := match s with
  | some (.val (.dat (.int a))) => (match augI o a b with
    | some k => .nx (List.set env i (.val (.dat (.int k)))) st
    | none => .no)
  | _ => .no
theorem augR_a {n m : Int} : augR (some (.val (.dat (.int n)))) .add i env m st = .nx (List.set env i (.val (.dat (.int (n + m))))) st := Eq.trans rfl rfl
theorem augR_s {n m : Int} : augR (some (.val (.dat (.int n)))) .sub i env m st = .nx (List.set env i (.val (.dat (.int (n - m))))) st := Eq.trans rfl rfl
/-! dicts of ours, by whole numbers -/
def dgT (s : Option Slot) (f : List (MP.D × MP.D) → R RV) (_ : Tag f := .mk) : R RV := match s with
  | some (.own (.dict kvs)) => f kvs
  | _ => .no
theorem dgT_o {kvs : List (MP.D × MP.D)} {f : List (MP.D × MP.D) → R RV} {t : Tag f} : dgT (some (.own (.dict kvs))) f t = f kvs := Eq.trans rfl rfl
def dpT (s : Option Slot) (f : List (MP.D × MP.D) → SR) (_ : Tag f := .mk) : SR := match s with
  | some (.own (.dict kvs)) => f kvs
  | _ => .no
theorem dpT_o {kvs : List (MP.D × MP.D)} {f : List (MP.D × MP.D) → SR} {t : Tag f} : dpT (some (.own (.dict kvs))) f t = f kvs := Eq.trans rfl rfl
def dgR (o : Option MP.D) (st : Store) : R RV := match o with
  | some d => .ok ⟨false, .dat d⟩ st
  | none => .no
theorem dgR_s {d : MP.D} : dgR (some d) st = .ok ⟨false, .dat d⟩ st := Eq.trans rfl rfl
def dxR (o : Option Int) (st : Store) : R RV := match o with
  | some d => .ok ⟨false, .dat (.int d)⟩ st
  | none => .no
theorem dxR_s {d : Int} : dxR (some d) st = .ok ⟨false, .dat (.int d)⟩ st := Eq.trans rfl rfl
def dsR (o : Option (List Int)) (st : Store) : R RV := match o with
  | some ks => bif decide (ks.length < 64) then .ok ⟨true, .dat (.list ((ks.mergeSort fun a b => decide (a ≤ b)).map PyData.int))⟩ st else .no
  | none => .no
theorem ev_dicn : evE .dicn pk env st = .ok ⟨true, .dat (.dict [])⟩ st := Eq.trans rfl rfl
theorem ev_dhasT {k : Ex} : evE (.dhas true k i) pk env st = bT (evE k true env st) fun z st => bT (intOf z st) fun n st => dgT env[i]? fun kvs => .ok ⟨false, .dat (.bool (!(dGetI kvs n).isSome))⟩ st := Eq.trans rfl rfl
theorem ev_dhasF {k : Ex} : evE (.dhas false k i) pk env st = bT (evE k true env st) fun z st => bT (intOf z st) fun n st => dgT env[i]? fun kvs => .ok ⟨false, .dat (.bool ((dGetI kvs n).isSome))⟩ st := Eq.trans rfl rfl
theorem ev_dget {k : Ex} : evE (.dget i k) pk env st = dgT env[i]? fun kvs => bT (evE k true env st) fun z st => bT (intOf z st) fun n st => dgR (dGetI kvs n) st := Eq.trans rfl rfl
theorem ev_dsort : evE (.dsort i) pk env st = dgT env[i]? fun kvs => dsR (dKeysI kvs) st := Eq.trans rfl rfl
theorem ev_dixl {k : Ex} {kvs : List (Int × Int)} : evE (.dixl kvs k) pk env st = bT (evE k true env st) fun z st => bT (intOf z st) fun n st => dxR (kvs.lookup n) st := Eq.trans rfl rfl
theorem ev_lrng1 : evE (.lrng1 a) pk env st = bT (evE a true env st) fun x st => bT (intOf x st) fun i st => Cb (rgB 0 i) (.ok ⟨true, .dat (.list (rangeUp 0 i))⟩ st) .no := Eq.trans rfl rfl
theorem ev_lrng2 : evE (.lrng2 a b) pk env st = bT (evE a true env st) fun x st => bT (intOf x st) fun i st => bT (evE b true env st) fun y st => bT (intOf y st) fun j st => Cb (rgB i j) (.ok ⟨true, .dat (.list (rangeUp i j))⟩ st) .no := Eq.trans rfl rfl
theorem blt_intB {b : Bool} : bltF .int [.bool b] = some (false, .int (if b then 1 else 0)) := Eq.trans rfl rfl
theorem ev_cntL {k : Ex} : evE (.cntL a k) pk env st = bT (evE a true env st) fun x st => bT (datOf x st) fun d st => bT (rOpt (listOf d) st) fun xs st => bT (evE k true env st) fun y st => bT (intOf y st) fun i st => ofBD ((intsOf xs).map fun is => (false, .int (is.count i : Nat))) st := Eq.trans rfl rfl
theorem ev_revc : evE (.revc a) pk env st = bT (evE a true env st) fun x st => bT (datOf x st) fun x st => ofBD (revcD x) st := Eq.trans rfl rfl
theorem es_dput {k e : Ex} : evS (.dput i k e) env st = sT (evE e false env st) env fun x st => sT (datOf x st) env fun d st => dpT env[i]? fun kvs => sT (evE k true env st) env fun y st => sT (intOf y st) env fun n st => Cb (fitsS kvs.length) (.nx (List.set env i (.own (.dict (dPutI kvs n d)))) st) .no := Eq.trans rfl rfl
theorem er_dhas {neg : Bool} {k : Ex} : evS (.ret (.dhas neg k i)) env st = sT (evE (.dhas neg k i) false env st) env fun x st => .rt x st := Eq.trans rfl rfl
theorem er_dget {k : Ex} : evS (.ret (.dget i k)) env st = sT (evE (.dget i k) false env st) env fun x st => .rt x st := Eq.trans rfl rfl
theorem er_dsort : evS (.ret (.dsort i)) env st = sT (evE (.dsort i) false env st) env fun x st => .rt x st := Eq.trans rfl rfl
theorem er_dixl {k : Ex} {kvs : List (Int × Int)} : evS (.ret (.dixl kvs k)) env st = sT (evE (.dixl kvs k) false env st) env fun x st => .rt x st := Eq.trans rfl rfl
def frzR (s : Option Slot) (i : Nat) (env : Env) (st : Store) : SR := match s with
  | some (.own d) => .nx (List.set env i (.val (.dat d))) st
  | _ => .no
theorem frzR_o {d : MP.D} : frzR (some (.own d)) i env st = .nx (List.set env i (.val (.dat d))) st := Eq.trans rfl rfl
def clrR (s : Option Slot) (i : Nat) (env : Env) (st : Store) : SR := match s with
  | some (.own (.list _)) => .nx (List.set env i (.own (.list []))) st
  | _ => .no
theorem clrR_o {xs : List MP.D} : clrR (some (.own (.list xs))) i env st = .nx (List.set env i (.own (.list []))) st := Eq.trans rfl rfl
theorem es_clr : evS (.clr i) env st = clrR env[i]? i env st := Eq.trans rfl rfl
theorem es_rais {c : Str} : evS (.rais c) env st = .ex c [] env st := Eq.trans rfl rfl
/-- a try with a name: what its clause does -/
def zT (x : SR) (c : Str) (i : Nat) : SR := match x with
  | .ex c' ds env' st' => bif decide (c' = c) && ds.isEmpty then (match env'[i]? with
      | some _ => .rt ⟨false, .dat (.bool true)⟩ st'
      | none => .no) else .no
  | r => r
theorem zT_nx {c : Str} : zT (.nx env st) c i = .nx env st := Eq.trans rfl rfl
theorem zT_rt {c : Str} {x : RV} : zT (.rt x st) c i = .rt x st := Eq.trans rfl rfl
theorem zT_ex {c : Str} : zT (.ex c [] env st) c i = optS env[i]? fun _ => .rt ⟨false, .dat (.bool true)⟩ st := by
  show (bif decide (c = c) && true then (match env[i]? with
      | some _ => SR.rt ⟨false, .dat (.bool true)⟩ st
      | none => .no) else SR.no) = _
  rw [decide_eq_true rfl]
  cases env[i]? <;> rfl
theorem es_tryY {b : Sms} {c kk : Str} : evS (.tryY b c i kk) env st = zT (evSs b env st) c i := Eq.trans rfl rfl
theorem es_try {b : Sms} {c : Str} {e : Ex} : evS (.tryR b c e) env st = yT (evSs b env st) c fun env st => sT (evE e false env st) env fun x st => .rt x st := Eq.trans rfl rfl
theorem es_frz : evS (.frz i) env st = frzR env[i]? i env st := Eq.trans rfl rfl
theorem ess_n : evSs .nil env st = .nx env st := Eq.trans rfl rfl
theorem ess_c : evSs (.cons s ss) env st = qT (evS s env st) (evSs ss) := Eq.trans rfl rfl
theorem er_var : evS (.ret (.var i)) env st = retR env[i]? env st := by
  show (match env[i]? with
      | some (.own d) => SR.rt (fresh d) st
      | _ => (evE (.var i) false env st).sr env fun x st => SR.rt x st) = _
  have e : evE (.var i) false env st = varR env[i]? false st := Eq.trans rfl rfl
  rw [e]
  generalize env[i]? = s
  rcases s with _ | (_ | _ | _) <;> rfl
theorem er_cst {c : Lit} : evS (.ret (.cst c)) env st = .rt ⟨false, .dat c.d⟩ st := Eq.trans rfl rfl
theorem er_glob : evS (.ret (.glob x d)) env st = .rt ⟨false, .dat d⟩ st := Eq.trans rfl rfl
theorem er_neg : evS (.ret (.neg a)) env st = sT (evE (.neg a) false env st) env fun x st => .rt x st := Eq.trans rfl rfl
theorem er_not : evS (.ret (.not a)) env st = sT (evE (.not a) false env st) env fun x st => .rt x st := Eq.trans rfl rfl
theorem er_bin : evS (.ret (.bin o a b)) env st = sT (evE (.bin o a b) false env st) env fun x st => .rt x st := Eq.trans rfl rfl
theorem er_cmp : evS (.ret (.cmp q a b)) env st = sT (evE (.cmp q a b) false env st) env fun x st => .rt x st := Eq.trans rfl rfl
theorem er_chain : evS (.ret (.chain q1 q2 a b c)) env st = sT (evE (.chain q1 q2 a b c) false env st) env fun x st => .rt x st := Eq.trans rfl rfl
theorem er_and : evS (.ret (.and a b)) env st = sT (evE (.and a b) false env st) env fun x st => .rt x st := Eq.trans rfl rfl
theorem er_or : evS (.ret (.or a b)) env st = sT (evE (.or a b) false env st) env fun x st => .rt x st := Eq.trans rfl rfl
theorem er_ite : evS (.ret (.ite c a b)) env st = sT (evE (.ite c a b) false env st) env fun x st => .rt x st := Eq.trans rfl rfl
theorem er_tup : evS (.ret (.tup es)) env st = sT (evE (.tup es) false env st) env fun x st => .rt x st := Eq.trans rfl rfl
theorem er_lst : evS (.ret (.lst es)) env st = sT (evE (.lst es) false env st) env fun x st => .rt x st := Eq.trans rfl rfl
theorem er_ix : evS (.ret (.ix a b)) env st = sT (evE (.ix a b) false env st) env fun x st => .rt x st := Eq.trans rfl rfl
theorem er_slice : evS (.ret (.slice a lo hi)) env st = sT (evE (.slice a lo hi) false env st) env fun x st => .rt x st := Eq.trans rfl rfl
theorem er_rev : evS (.ret (.rev a)) env st = sT (evE (.rev a) false env st) env fun x st => .rt x st := Eq.trans rfl rfl
theorem er_call : evS (.ret (.call x f es)) env st = sT (evE (.call x f es) false env st) env fun x st => .rt x st := Eq.trans rfl rfl
theorem er_blt : evS (.ret (.blt g es)) env st = sT (evE (.blt g es) false env st) env fun x st => .rt x st := Eq.trans rfl rfl
theorem er_isi : evS (.ret (.isi a ts)) env st = sT (evE (.isi a ts) false env st) env fun x st => .rt x st := Eq.trans rfl rfl
theorem er_comp : evS (.ret (.comp elt own tg it m)) env st = sT (evE (.comp elt own tg it m) false env st) env fun x st => .rt x st := Eq.trans rfl rfl
end
theorem ix_nat {l : List MP.D} {n : Nat} {d : MP.D} (h : l[n]? = some d) : ixD l n = some d := by
  have hn : n < l.length := (List.getElem?_eq_some_iff.mp h).1
  have e : L2.ixN l.length (n : Int) = some n := by
    unfold L2.ixN
    rw [if_pos (by omega), if_pos (by omega)]
    simp
  unfold ixD L2.atI
  rw [e]
  exact h
@[simp] theorem ix_0 {a : MP.D} {l : List MP.D} : ixD (a :: l) 0 = some a := ix_nat (n := 0) rfl
@[simp] theorem ix_1 {a b : MP.D} {l : List MP.D} : ixD (a :: b :: l) 1 = some b := ix_nat (n := 1) rfl
@[simp] theorem ix_2 {a b c : MP.D} {l : List MP.D} : ixD (a :: b :: c :: l) 2 = some c := ix_nat (n := 2) rfl
@[simp] theorem ix_3 {a b c d : MP.D} {l : List MP.D} : ixD (a :: b :: c :: d :: l) 3 = some d := ix_nat (n := 3) rfl
@[simp] theorem ix_4 {a b c d e : MP.D} {l : List MP.D} : ixD (a :: b :: c :: d :: e :: l) 4 = some e := ix_nat (n := 4) rfl
@[simp] theorem ix_5 {a b c d e f : MP.D} {l : List MP.D} : ixD (a :: b :: c :: d :: e :: f :: l) 5 = some f := ix_nat (n := 5) rfl
@[simp] theorem ix_6 {a b c d e f g : MP.D} {l : List MP.D} : ixD (a :: b :: c :: d :: e :: f :: g :: l) 6 = some g := ix_nat (n := 6) rfl
@[simp] theorem ix_7 {a b c d e f g h : MP.D} {l : List MP.D} : ixD (a :: b :: c :: d :: e :: f :: g :: h :: l) 7 = some h := ix_nat (n := 7) rfl
@[simp] theorem ix_m1 {a : MP.D} {l : List MP.D} : ixD (l ++ [a]) (-1) = some a := L2.atI_last _ _
@[simp] theorem blt_absI {i : Int} : bltF .abs [.int i] = some (false, .int i.natAbs) := Eq.trans rfl rfl
@[simp] theorem blt_intI {i : Int} : bltF .int [.int i] = some (false, .int i) := Eq.trans rfl rfl
@[simp] theorem blt_tupL {i : List MP.D} : bltF .tuple [.list i] = some (false, .tuple i) := Eq.trans rfl rfl
@[simp] theorem blt_tupT {i : List MP.D} : bltF .tuple [.tuple i] = some (false, .tuple i) := Eq.trans rfl rfl
@[simp] theorem blt_lstL {i : List MP.D} : bltF .list [.list i] = some (true, .list i) := Eq.trans rfl rfl
@[simp] theorem blt_lstT {i : List MP.D} : bltF .list [.tuple i] = some (true, .list i) := Eq.trans rfl rfl
@[simp] theorem blt_lenL {i : List MP.D} : bltF .len [.list i] = some (false, .int i.length) := Eq.trans rfl rfl
@[simp] theorem blt_lenT {i : List MP.D} : bltF .len [.tuple i] = some (false, .int i.length) := Eq.trans rfl rfl
theorem blt_lenLm {α : Type} {f : α → MP.D} {i : List α} : bltF .len [.list (i.map f)] = some (false, .int i.length) := by rw [blt_lenL, List.length_map]
theorem blt_lenTm {α : Type} {f : α → MP.D} {i : List α} : bltF .len [.tuple (i.map f)] = some (false, .int i.length) := by rw [blt_lenT, List.length_map]
theorem blt_min2 {i j : Int} : bltF .min [.int i, .int j] = some (false, .int (min i j)) := by
  show some (false, PyData.int (if j < i then j else i)) = _
  rw [show (if j < i then j else i) = min i j by omega]
theorem blt_max2 {i j : Int} : bltF .max [.int i, .int j] = some (false, .int (max i j)) := by
  show some (false, PyData.int (if i < j then j else i)) = _
  rw [show (if i < j then j else i) = max i j by omega]
theorem blt_min3 {i j k : Int} : bltF .min [.int i, .int j, .int k] = some (false, .int (min (min i j) k)) := by
  show some (false, PyData.int (if k < (if j < i then j else i) then k else (if j < i then j else i))) = _
  rw [show (if j < i then j else i) = min i j by omega, show (if k < min i j then k else min i j) = min (min i j) k by omega]
theorem blt_max3 {i j k : Int} : bltF .max [.int i, .int j, .int k] = some (false, .int (max (max i j) k)) := by
  show some (false, PyData.int (if (if i < j then j else i) < k then k else (if i < j then j else i))) = _
  rw [show (if i < j then j else i) = max i j by omega, show (if max i j < k then k else max i j) = max (max i j) k by omega]
theorem isi_n {t : String} : [t].any (isA .none) = false := Eq.trans rfl rfl
theorem isi_b {t : String} {b : Bool} : [t].any (isA (.bool b)) = (t == "bool" || t == "int") := by simp [isA]
theorem isi_i {t : String} {b : Int} : [t].any (isA (.int b)) = (t == "int") := by simp [isA]
theorem isi_s {t : String} {b : Str} : [t].any (isA (.str b)) = (t == "str") := by simp [isA]
theorem isi_l {t : String} {b : List MP.D} : [t].any (isA (.list b)) = (t == "list") := by simp [isA]
theorem isi_t {t : String} {b : List MP.D} : [t].any (isA (.tuple b)) = (t == "tuple") := by simp [isA]
end
end MP
namespace MK
open PySem MP
theorem wp_pick {n : Int} {st : Store} {Q : RV → Store → Prop} (h : IsSrc st) (h2 : 2 ≤ n) (hn : n < 2 ^ 64) (k : ∀ k st', IsSrc st' → 0 ≤ k → k < n → Q ⟨false, .dat (.int k)⟩ st') : Wp (f__law_pick [.loc 1, .dat (.int n)] st) Q := by
  have hl : n.natAbs.log2 < 9000 := by
    have : n.natAbs.log2 < 64 := (Nat.log2_lt (by omega)).mpr (by omega)
    omega
  obtain ⟨x, st', e, h1, h3, h4, _⟩ := pick_ok n hl st h
  rw [e]
  exact ⟨k x st' h1 h3 (h4 h2)⟩
theorem wp_cells {ns : List Int} {Q : RV → Store → Prop} (hn : ns.length ≤ 63) (k : ∀ st', IsSrc st' → Q ⟨false, .loc 1⟩ st') : Wp (f__law_open_cells [.dat (scriptD ns)] []) Q := by
  obtain ⟨st', e, h⟩ := cells_ok ns hn
  rw [e]
  exact ⟨k st' h⟩
theorem c2 {x : Int} (h0 : 0 ≤ x) (h1 : x < 2) : x = 0 ∨ x = 1 := by omega
theorem c3 {x : Int} (h0 : 0 ≤ x) (h1 : x < 3) : x = 0 ∨ x = 1 ∨ x = 2 := by omega
theorem c4 {x : Int} (h0 : 0 ≤ x) (h1 : x < 4) : x = 0 ∨ x = 1 ∨ x = 2 ∨ x = 3 := by omega
theorem c5 {x : Int} (h0 : 0 ≤ x) (h1 : x < 5) : x = 0 ∨ x = 1 ∨ x = 2 ∨ x = 3 ∨ x = 4 := by omega
theorem ixD_mem {l : List MP.D} {k : Int} (h0 : 0 ≤ k) (h1 : k < l.length) : ∃ d, ixD l k = some d ∧ d ∈ l := by
  obtain ⟨n, rfl⟩ : ∃ n : Nat, k = n := ⟨k.toNat, by omega⟩
  have hn : n < l.length := by omega
  exact ⟨l[n], ix_nat (List.getElem?_eq_getElem hn), List.getElem_mem hn⟩
theorem wp_ix {l : List MP.D} {k : Int} {fr : Bool} {st : Store} {Q : RV → Store → Prop} (h0 : 0 ≤ k) (h1 : k < l.length) (q : ∀ d, d ∈ l → Q ⟨false, .dat d⟩ st) : Wp (ixV ⟨fr, .dat (.list l)⟩ ⟨false, .dat (.int k)⟩ st) Q := by
  obtain ⟨d, e, hd⟩ := ixD_mem h0 h1
  show Wp (match ixD l k with | some d => R.ok (plain d) st | none => .no) Q
  rw [e]
  exact ⟨q d hd⟩
theorem wp_pick_ix {n : Int} {l : List MP.D} {fr : Bool} {st : Store} {Q : RV → Store → Prop} (h : IsSrc st) (h2 : 2 ≤ n) (hn : n < 2 ^ 64) (hl : n ≤ l.length) (k : ∀ d, d ∈ l → ∀ st', IsSrc st' → Q ⟨false, .dat d⟩ st') :
    Wp (f__law_pick [.loc 1, .dat (.int n)] st) fun y st' => Wp (ixV ⟨fr, .dat (.list l)⟩ y st') Q :=
  wp_pick h h2 hn fun _ st' h' x0 x1 => wp_ix x0 (by omega) fun d hd => k d hd st' h'
/-! ### flat data: no bools, no dicts -/
structure Fl (k : Nat) (d : MP.D) : Prop where
  n : noB d = true
  c : d.canLay0 = true
  d : d.depth ≤ k
structure Fls (k : Nat) (d : List MP.D) : Prop where
  n : noBs d = true
  c : PyData.canLayAll0 d = true
  d : PyData.depthAll d ≤ k
theorem Fl.int (i : Int) : Fl 0 (.int i) := ⟨rfl, rfl, by simp [PyData.depth]⟩
theorem Fl.none : Fl 0 .none := ⟨rfl, rfl, by simp [PyData.depth]⟩
theorem Fl.up {k l : Nat} {d : MP.D} (h : Fl k d) (hl : k ≤ l) : Fl l d := ⟨h.n, h.c, Nat.le_trans h.d hl⟩
theorem Fls.nil {k : Nat} : Fls k [] := ⟨rfl, rfl, by simp [PyData.depthAll]⟩
theorem Fls.cons {k : Nat} {d : MP.D} {ds : List MP.D} (h : Fl k d) (q : Fls k ds) : Fls k (d :: ds) := ⟨by simp [noBs, h.n, q.n], by simp [PyData.canLayAll0, h.c, q.c], by
  have := h.d
  have := q.d
  simp only [PyData.depthAll]
  omega⟩
theorem Fls.map {α : Type} {k : Nat} {f : α → MP.D} : ∀ {l : List α}, (∀ a ∈ l, Fl k (f a)) → Fls k (l.map f)
  | [], _ => .nil
  | a :: l, h => .cons (h a List.mem_cons_self) (Fls.map fun b hb => h b (List.mem_cons_of_mem _ hb))
theorem Fls.app {k : Nat} : ∀ {l m : List MP.D}, Fls k l → Fls k m → Fls k (l ++ m)
  | [], _, _, q => q
  | a :: l, m, h, q => by
    have h1 := h.n
    have h2 := h.c
    have h3 := h.d
    simp only [noBs, Bool.and_eq_true] at h1
    simp only [PyData.canLayAll0, Bool.and_eq_true] at h2
    simp only [PyData.depthAll] at h3
    exact .cons ⟨h1.1, h2.1, by omega⟩ (Fls.app ⟨h1.2, h2.2, by omega⟩ q)
theorem Fl.tup {k : Nat} {ds : List MP.D} (h : Fls k ds) : Fl (k + 1) (.tuple ds) := ⟨h.n, h.c, by
  have := h.d
  simp only [PyData.depth]
  omega⟩
theorem Fl.lst {k : Nat} {ds : List MP.D} (h : Fls k ds) : Fl (k + 1) (.list ds) := ⟨h.n, h.c, by
  have := h.d
  simp only [PyData.depth]
  omega⟩
theorem Fl.shp {k : Nat} {d : MP.D} (h : Fl k d) (hk : k ≤ 64) : shp d = true := by
  show (d.canLay0 && decide (d.depth ≤ 64)) = true
  rw [h.c, decide_eq_true (Nat.le_trans h.d hk)]
  rfl
theorem Fl.eq {k l : Nat} {x y : MP.D} {p : Prop} [Decidable p] (hx : Fl k x) (hy : Fl l y) (hk : k ≤ 64) (hl : l ≤ 64) (h : x = y ↔ p) : cmpD .eq x y = some (decide p) := by
  rw [cmp_eq (hx.shp hk) (hy.shp hl), eqv_dec hx.n hy.n h]
theorem Fl.ne {k l : Nat} {x y : MP.D} {p : Prop} [Decidable p] (hx : Fl k x) (hy : Fl l y) (hk : k ≤ 64) (hl : l ≤ 64) (h : x = y ↔ p) : cmpD .ne x y = some (!decide p) := by
  rw [cmp_ne (hx.shp hk) (hy.shp hl), eqv_dec hx.n hy.n h]
theorem law_of_wp {f : Fn} {vs : List Val} {st : Store} (h : Wp (f vs st) fun x _ => x.v = .dat (.bool true)) : ∃ fr st', f vs st = .ok ⟨fr, .dat (.bool true)⟩ st' := by
  obtain ⟨⟨fr, v⟩, st', e, q⟩ := h.ex
  have q : v = .dat (.bool true) := q
  subst q
  exact ⟨fr, st', e⟩
theorem ok6 : rngOk 6 = true := by decide
theorem ok2 : rngOk 2 = true := by decide
theorem okR {i : Int} (h0 : 0 ≤ i) (h1 : i < 2 ^ 62) : rngOk i = true := by
  simp only [rngOk, Bool.and_eq_true, decide_eq_true_eq]
  omega
theorem bools_map {α : Type} (f : α → Bool) : ∀ l : List α, boolsOf (l.map fun a => .bool (f a)) = some (l.map f)
  | [] => rfl
  | a :: l => by
    show (boolsOf (l.map fun a => .bool (f a))).map _ = _
    rw [bools_map f l]
    rfl
theorem all_map {α : Type} (f : α → Bool) (l : List α) : bltF .all [.list (l.map fun a => .bool (f a))] = some (false, .bool (l.all f)) := by
  show (boolsOf _).map _ = _
  rw [bools_map]
  simp [List.all_map, Function.comp_def]
end MK
namespace MK
open PySem MP
section
/-! Whole numbers of a law: sizes, powers, the greatest common divisor, fractions. -/
def b__law_raised : Sms := (.cons (.set 2 false (.cst (.int 1))) (.cons (.forr (.nm 3) (.rng1 (.var 1)) (.cons (.set 2 false (.bin .mul (.var 2) (.var 0))) .nil)) (.cons (.ret (.var 2)) .nil)))
def f__law_raised : Fn := fnOf 2 4 b__law_raised
def r__law_raised : List Req := [.non "range"]
theorem q__law_raised : rqSs b__law_raised = [0].map fun i => r__law_raised.getD i (.non "") := rfl
def b__law_common : Sms := (.cons (.par [0, 1] (.cons (.blt .abs (.cons (.var 0) .nil)) (.cons (.blt .abs (.cons (.var 1) .nil)) .nil))) (.cons (.whil (.cmp .ne (.var 1) (.cst (.int 0))) (.cons (.par [0, 1] (.cons (.var 1) (.cons (.bin .mod (.var 0) (.var 1)) .nil))) .nil)) (.cons (.ret (.var 0)) .nil)))
def f__law_common : Fn := fnOf 2 2 b__law_common
def r__law_common : List Req := [.non "abs"]
theorem q__law_common : rqSs b__law_common = [0, 0].map fun i => r__law_common.getD i (.non "") := rfl
def b__law_fraction : Sms := (.cons (.set 2 false (.ite (.cmp .gt (.var 1) (.cst (.int 0))) (.cst (.int 1)) (.bin .sub (.cst (.int 0)) (.cst (.int 1))))) (.cons (.set 3 false (.bin .mul (.call "_law_common" f__law_common (.cons (.var 0) (.cons (.var 1) .nil))) (.var 2))) (.cons (.ret (.tup (.cons (.bin .fdiv (.var 0) (.var 3)) (.cons (.bin .fdiv (.var 1) (.var 3)) .nil)))) .nil)))
def f__law_fraction : Fn := fnOf 2 4 b__law_fraction
def r__law_fraction : List Req := [.fn "_law_common" f__law_common]
theorem q__law_fraction : rqSs b__law_fraction = [0].map fun i => r__law_fraction.getD i (.non "") := rfl
/-! ### sizes -/
def Bd (k : Nat) (i : Int) : Prop := i.natAbs < 2 ^ k
theorem Bd.up {k l : Nat} {i : Int} (h : Bd k i) (hl : k ≤ l) : Bd l i := Nat.lt_of_lt_of_le h (Nat.pow_le_pow_right (by decide) hl)
theorem Bd.neg {k : Nat} {i : Int} (h : Bd k i) : Bd k (-i) := by
  unfold Bd
  rw [Int.natAbs_neg]
  exact h
theorem Bd.zero (k : Nat) : Bd k 0 := Nat.two_pow_pos k
theorem Bd.mul {k l : Nat} {i j : Int} (hi : Bd k i) (hj : Bd l j) : Bd (k + l) (i * j) := by
  unfold Bd at *
  rw [Int.natAbs_mul, Nat.pow_add]
  exact Nat.mul_lt_mul'' hi hj
theorem Bd.add {k l : Nat} {i j : Int} (hi : Bd k i) (hj : Bd l j) : Bd (max k l + 1) (i + j) := by
  have h1 : i.natAbs < 2 ^ max k l := hi.up (Nat.le_max_left _ _)
  have h2 : j.natAbs < 2 ^ max k l := hj.up (Nat.le_max_right _ _)
  unfold Bd
  rw [Nat.pow_succ]
  omega
theorem Bd.add' {k : Nat} {i j : Int} (hi : Bd k i) (hj : Bd k j) : Bd (k + 1) (i + j) := by
  have h := hi.add hj
  rwa [Nat.max_self] at h
theorem Bd.sub' {k : Nat} {i j : Int} (hi : Bd k i) (hj : Bd k j) : Bd (k + 1) (i - j) := by
  rw [Int.sub_eq_add_neg]
  exact hi.add' hj.neg
theorem Bd.log {k : Nat} {i : Int} (h : Bd k i) (hk : 0 < k) : i.natAbs.log2 < k := by
  by_cases h0 : i.natAbs = 0
  · rw [h0]
    exact hk
  · exact (Nat.log2_lt h0).mpr h
theorem mulOk_of {k l : Nat} {i j : Int} (hi : Bd k i) (hj : Bd l j) (h : k + l ≤ 1000000) : mulOk i j = true := by
  unfold mulOk
  have q : decide (i.natAbs.log2 + j.natAbs.log2 < 1000000) = true := by
    apply decide_eq_true
    by_cases h1 : k = 0
    · subst h1
      have e : i.natAbs = 0 := by
        have := hi
        unfold Bd at this
        omega
      rw [e]
      by_cases h2 : l = 0
      · subst h2
        have e2 : j.natAbs = 0 := by
          have := hj
          unfold Bd at this
          omega
        rw [e2]
        decide
      · have := hj.log (by omega)
        have e0 : Nat.log2 0 = 0 := by decide
        omega
    · have a := hi.log (by omega)
      by_cases h2 : l = 0
      · subst h2
        have e2 : j.natAbs = 0 := by
          have := hj
          unfold Bd at this
          omega
        rw [e2]
        have e0 : Nat.log2 0 = 0 := by decide
        omega
      · have b := hj.log (by omega)
        omega
  rw [q, Bool.or_true]
theorem bin_mul {k l : Nat} {i j : Int} (hi : Bd k i) (hj : Bd l j) (h : k + l ≤ 1000000) : bin .mul (.int i) (.int j) = some (false, .int (i * j)) := by
  show (bif mulOk i j then some (false, PyData.int (i * j)) else none) = _
  rw [mulOk_of hi hj h]
  rfl
theorem bin_fdiv {k : Nat} {i j : Int} (hj : Bd k j) (h0 : j ≠ 0) (hk : k ≤ 8999) : bin .fdiv (.int i) (.int j) = some (false, .int (i.fdiv j)) := by
  have q : divOk j = true := by
    unfold divOk
    have := (hj.up hk).log (by decide)
    simp [h0]
    omega
  show (bif divOk j then some (false, PyData.int (i.fdiv j)) else none) = _
  rw [q]
  rfl
theorem bin_mod {i j : Int} (h0 : j ≠ 0) : bin .mod (.int i) (.int j) = some (false, .int (i.fmod j)) := by
  show (bif decide (j ≠ 0) then some (false, PyData.int (i.fmod j)) else none) = _
  rw [decide_eq_true h0]
  rfl
/-! ### the greatest common divisor -/
theorem common_while (st : Store) : ∀ (n fuel : Nat) (a b : Nat), n < fuel → (b ≤ a → a * b < 2 ^ n) → (a < b → 1 ≤ n ∧ a * b < 2 ^ (n - 1)) → whileL (fun env st => (evE (.cmp .ne (.var 1) (.cst (.int 0))) true env st).bind fun x st => boolOf x st) (evSs (.cons (.par [0, 1] (.cons (.var 1) (.cons (.bin .mod (.var 0) (.var 1)) .nil))) .nil)) fuel [.val (.dat (.int a)), .val (.dat (.int b))] st =
    .nx [.val (.dat (.int (Nat.gcd a b : Nat))), .val (.dat (.int 0))] st
  | n, 0, a, b, hn, _, _ => by omega
  | n, fuel + 1, a, b, hn, h1, h2 => by
    have e : whileL (fun env st => (evE (.cmp .ne (.var 1) (.cst (.int 0))) true env st).bind fun x st => boolOf x st) (evSs (.cons (.par [0, 1] (.cons (.var 1) (.cons (.bin .mod (.var 0) (.var 1)) .nil))) .nil)) (fuel + 1) [.val (.dat (.int a)), .val (.dat (.int b))] st =
        (bif !decide ((b : Int) = 0) then turn (evSs (.cons (.par [0, 1] (.cons (.var 1) (.cons (.bin .mod (.var 0) (.var 1)) .nil))) .nil) [.val (.dat (.int a)), .val (.dat (.int b))] st) (whileL (fun env st => (evE (.cmp .ne (.var 1) (.cst (.int 0))) true env st).bind fun x st => boolOf x st) (evSs (.cons (.par [0, 1] (.cons (.var 1) (.cons (.bin .mod (.var 0) (.var 1)) .nil))) .nil)) fuel) else .nx [.val (.dat (.int a)), .val (.dat (.int b))] st) := by
      simp [whileL, evE]
    rw [e]
    by_cases hb : b = 0
    · subst hb
      simp
    · have hb' : (b : Int) ≠ 0 := by omega
      rw [decide_eq_false hb']
      have em : bin .mod (.int (a : Int)) (.int (b : Int)) = some (false, .int ((a % b : Nat) : Int)) := by
        rw [bin_mod hb', Int.fmod_eq_emod_of_nonneg _ (by omega)]
        rfl
      have eb : evSs (.cons (.par [0, 1] (.cons (.var 1) (.cons (.bin .mod (.var 0) (.var 1)) .nil))) .nil) [.val (.dat (.int a)), .val (.dat (.int b))] st = .nx [.val (.dat (.int b)), .val (.dat (.int ((a % b : Nat) : Int)))] st := by
        simp [evSs, evS, evE, evA, em, putVals]
      rw [eb]
      show whileL _ _ fuel _ _ = _
      have hlt : a % b < b := Nat.mod_lt _ (by omega)
      rw [Nat.gcd_comm a b, Nat.gcd_rec b a]
      by_cases hab : b ≤ a
      · have hp := h1 hab
        have h3 : b + a % b ≤ a := by
          have := Nat.div_add_mod a b
          have : 1 ≤ a / b := (Nat.one_le_div_iff (by omega)).mpr hab
          have : b * 1 ≤ b * (a / b) := Nat.mul_le_mul_left _ this
          omega
        have hpos : 1 ≤ a * b := Nat.mul_pos (by omega) (by omega)
        have hn0 : n ≠ 0 := fun z => by
          subst z
          simp at hp
          omega
        obtain ⟨m, rfl⟩ : ∃ m, n = m + 1 := ⟨n - 1, by omega⟩
        have h4 : 2 * (b * (a % b)) ≤ a * b := by
          have : (2 * (a % b)) * b ≤ a * b := Nat.mul_le_mul_right _ (by omega)
          have e2 : 2 * (b * (a % b)) = (2 * (a % b)) * b := by
            rw [Nat.mul_assoc, Nat.mul_comm b]
          omega
        rw [Nat.pow_succ] at hp
        rw [Nat.gcd_comm (a % b) b]
        exact common_while st m fuel b (a % b) (by omega) (fun _ => by omega) (fun h => by omega)
      · obtain ⟨hn1, hp⟩ := h2 (by omega)
        have ea : a % b = a := Nat.mod_eq_of_lt (by omega)
        rw [ea, Nat.gcd_comm a b]
        exact common_while st (n - 1) fuel b a (by omega) (fun _ => by rw [Nat.mul_comm]; exact hp) (fun h => by omega)
theorem common_ok {k l : Nat} (a b : Int) (st : Store) (ha : Bd k a) (hb : Bd l b) (h : k + l ≤ 1000000) : f__law_common [.dat (.int a), .dat (.int b)] st = .ok ⟨false, .dat (.int (Int.gcd a b : Nat))⟩ st := by
  have hp : a.natAbs * b.natAbs < 2 ^ (k + l) := by
    rw [Nat.pow_add]
    exact Nat.mul_lt_mul'' ha hb
  refine fn_ret rfl (seq_of (env' := [.val (.dat (.int (a.natAbs : Int))), .val (.dat (.int (b.natAbs : Int)))]) (st' := st) rfl (seq_of (common_while st (k + l + 1) WF a.natAbs b.natAbs (Nat.lt_of_le_of_lt (by omega : k + l + 1 ≤ 1000001) (by decide)) (fun _ => by rw [Nat.pow_succ]; omega) (fun _ => ⟨by omega, by simpa using hp⟩)) rfl))
/-! ### powers -/
theorem Bd.pow {k : Nat} {p : Int} (h : Bd k p) : ∀ n : Nat, Bd (k * n + 1) (p ^ n)
  | 0 => by
    unfold Bd
    simp
  | n + 1 => by
    have q := (Bd.pow h n).mul h
    rw [Int.pow_succ]
    exact q.up (by rw [Nat.mul_succ]; omega)
theorem raised_ok {k : Nat} (p n : Int) (st : Store) (hp : Bd k p) (h1 : -(2 ^ 62) ≤ n) (h2 : n < 2 ^ 62) (hk : k * n.toNat + k + 1 ≤ 1000000) : f__law_raised [.dat (.int p), .dat (.int n)] st = .ok ⟨false, .dat (.int (p ^ n.toNat))⟩ st := by
  obtain ⟨env', st', e, hp'⟩ := forL_nx (tg := .nm 3) (body := evSs (.cons (.set 2 false (.bin .mul (.var 2) (.var 0))) .nil)) (fun r env st' => st' = st ∧ ∃ (i : Nat) (s : Slot), env = [.val (.dat (.int p)), .val (.dat (.int n)), .val (.dat (.int (p ^ i))), s] ∧ i + r.length = n.toNat) (fun d r env st' h => by
      obtain ⟨rfl, i, s, rfl, hi⟩ := h
      simp only [List.length_cons] at hi
      have hm : k * i ≤ k * n.toNat := Nat.mul_le_mul_left _ (by omega)
      refine ⟨_, _, _, rfl, .inl (seq_of (set_of (bin_of rfl rfl (bin_mul (hp.pow i) hp (by omega)))) rfl), rfl, i + 1, .val (.dat d), ?_, by omega⟩
      rw [Int.pow_succ]
      rfl) (rangeUp 0 n) [.val (.dat (.int p)), .val (.dat (.int n)), .val (.dat (.int 1)), .un] st ⟨rfl, 0, .un, by simp, by rw [rangeUp_len, Int.sub_zero, Nat.zero_add]⟩
  obtain ⟨rfl, i, s, rfl, hi⟩ := hp'
  simp at hi
  subst hi
  exact fn_ret rfl (seq_of rfl (seq_of (for_of (rng1_of rfl ⟨h1, h2⟩) e) rfl))
/-! ### fractions -/
def sgn1 (d : Int) : Int := if 0 < d then 1 else -1
def frac (n d : Int) : Int × Int := (n.fdiv ((Int.gcd n d : Nat) * sgn1 d), d.fdiv ((Int.gcd n d : Nat) * sgn1 d))
def eP (q : Int × Int) : MP.D := .tuple [.int q.1, .int q.2]
theorem sgn1_cases (d : Int) : sgn1 d = 1 ∨ sgn1 d = -1 := by
  unfold sgn1
  split
  · exact .inl rfl
  · exact .inr rfl
theorem gcd_pos {n d : Int} (hd : d ≠ 0) : 0 < Int.gcd n d := Int.gcd_pos_of_ne_zero_right n hd
theorem frac_mul {n d : Int} (hd : d ≠ 0) : (Int.gcd n d : Int) * sgn1 d * (frac n d).1 = n ∧ (Int.gcd n d : Int) * sgn1 d * (frac n d).2 = d := by
  have hg := gcd_pos (n := n) hd
  have h0 : (Int.gcd n d : Int) * sgn1 d ≠ 0 := by
    rcases sgn1_cases d with e | e <;> rw [e] <;> omega
  have hn : (Int.gcd n d : Int) * sgn1 d ∣ n := by
    rcases sgn1_cases d with e | e <;> rw [e]
    · rw [Int.mul_one]
      exact Int.gcd_dvd_left ..
    · rw [Int.mul_neg, Int.mul_one, Int.neg_dvd]
      exact Int.gcd_dvd_left ..
  have hd' : (Int.gcd n d : Int) * sgn1 d ∣ d := by
    rcases sgn1_cases d with e | e <;> rw [e]
    · rw [Int.mul_one]
      exact Int.gcd_dvd_right ..
    · rw [Int.mul_neg, Int.mul_one, Int.neg_dvd]
      exact Int.gcd_dvd_right ..
  unfold frac
  refine ⟨?_, ?_⟩
  · obtain ⟨x, hx⟩ := hn
    have e : n.fdiv ((Int.gcd n d : Int) * sgn1 d) = x := by
      conv => lhs; arg 1; rw [hx]
      exact Int.mul_fdiv_cancel_left _ h0
    show (Int.gcd n d : Int) * sgn1 d * n.fdiv ((Int.gcd n d : Int) * sgn1 d) = n
    rw [e]
    exact hx.symm
  · obtain ⟨x, hx⟩ := hd'
    have e : d.fdiv ((Int.gcd n d : Int) * sgn1 d) = x := by
      conv => lhs; arg 1; rw [hx]
      exact Int.mul_fdiv_cancel_left _ h0
    show (Int.gcd n d : Int) * sgn1 d * d.fdiv ((Int.gcd n d : Int) * sgn1 d) = d
    rw [e]
    exact hx.symm
def NF (q : Int × Int) : Prop := 0 < q.2 ∧ Int.gcd q.1 q.2 = 1
theorem pos_of_mul {a b : Int} (ha : 0 < a) (h : 0 < a * b) : 0 < b := by
  rcases Int.lt_trichotomy b 0 with q | q | q
  · have := Int.mul_neg_of_pos_of_neg ha q
    omega
  · subst q
    simp at h
  · exact q
theorem frac_nf {n d : Int} (hd : d ≠ 0) : NF (frac n d) := by
  obtain ⟨h1, h2⟩ := frac_mul (n := n) hd
  have hg := gcd_pos (n := n) hd
  obtain ⟨x, hx⟩ : ∃ x, (frac n d).1 = x := ⟨_, rfl⟩
  obtain ⟨y, hy⟩ : ∃ y, (frac n d).2 = y := ⟨_, rfl⟩
  rw [hx] at h1
  rw [hy] at h2
  have key : Int.gcd x y = 1 := by
    have e : Int.gcd n d = Int.gcd n d * Int.gcd x y := by
      have : Int.gcd ((Int.gcd n d : Int) * sgn1 d * x) ((Int.gcd n d : Int) * sgn1 d * y) = ((Int.gcd n d : Int) * sgn1 d).natAbs * Int.gcd x y := Int.gcd_mul_left ..
      rw [h1, h2] at this
      have e2 : ((Int.gcd n d : Int) * sgn1 d).natAbs = Int.gcd n d := by
        rcases sgn1_cases d with e | e <;> rw [e] <;> simp
      rw [e2] at this
      exact this
    have : Int.gcd n d * Int.gcd x y = Int.gcd n d * 1 := by omega
    exact Nat.eq_of_mul_eq_mul_left hg this
  refine ⟨?_, by rw [hx, hy]; exact key⟩
  rw [hy]
  by_cases hp : 0 < d
  · have e : sgn1 d = 1 := if_pos hp
    rw [e, Int.mul_one] at h2
    exact pos_of_mul (a := (Int.gcd n d : Int)) (by omega) (by omega)
  · have e : sgn1 d = -1 := if_neg hp
    rw [e, Int.mul_neg, Int.mul_one, Int.neg_mul] at h2
    exact pos_of_mul (a := (Int.gcd n d : Int)) (by omega) (by omega)
theorem frac_cross {n d : Int} (hd : d ≠ 0) : (frac n d).1 * d = n * (frac n d).2 := by
  obtain ⟨h1, h2⟩ := frac_mul (n := n) hd
  conv => lhs; arg 2; rw [← h2]
  conv => rhs; arg 1; rw [← h1]
  rw [Int.mul_comm (frac n d).1, Int.mul_assoc, Int.mul_assoc, Int.mul_assoc, Int.mul_assoc, Int.mul_comm (frac n d).2 (frac n d).1]
theorem cop_dvd {a b c : Int} (h : Int.gcd a b = 1) (hd : b ∣ a * c) : b ∣ c := by
  rw [← Int.natAbs_dvd_natAbs] at *
  rw [Int.natAbs_mul] at hd
  exact Nat.Coprime.dvd_of_dvd_mul_left (show Nat.gcd b.natAbs a.natAbs = 1 by rw [Nat.gcd_comm]; exact h) hd
theorem NF_eq {a b : Int × Int} (ha : NF a) (hb : NF b) : a = b ↔ a.1 * b.2 = b.1 * a.2 := by
  constructor
  · rintro rfl
    rfl
  · intro h
    have d1 : a.2 ∣ b.2 := cop_dvd ha.2 ⟨b.1, by rw [h, Int.mul_comm]⟩
    have d2 : b.2 ∣ a.2 := cop_dvd hb.2 ⟨a.1, by rw [← h, Int.mul_comm]⟩
    have e : a.2 = b.2 := Int.dvd_antisymm (Int.le_of_lt ha.1) (Int.le_of_lt hb.1) d1 d2
    have e1 : a.1 = b.1 := by
      rw [e] at h
      exact Int.eq_of_mul_eq_mul_right (Int.ne_of_gt hb.1) h
    exact Prod.ext e1 e
theorem fdiv_bd {k : Nat} {a b : Int} (h : Bd k a) : Bd k (a.fdiv b) := by
  unfold Bd at *
  have q : (a.fdiv b).natAbs ≤ a.natAbs := Int.natAbs_fdiv_le_natAbs a b
  omega
theorem frac_bd {k l : Nat} {n d : Int} (hn : Bd k n) (hd : Bd l d) : Bd k (frac n d).1 ∧ Bd l (frac n d).2 := ⟨fdiv_bd hn, fdiv_bd hd⟩
theorem gcd_bd {l : Nat} {n d : Int} (h0 : d ≠ 0) (hd : Bd l d) : Bd l (Int.gcd n d : Nat) := by
  unfold Bd at *
  have q : Int.gcd n d ≤ d.natAbs := Nat.le_of_dvd (by omega) (Nat.gcd_dvd_right ..)
  show Int.gcd n d < 2 ^ l
  omega
theorem fraction_ok {k l : Nat} (n d : Int) (st : Store) (hn : Bd k n) (hd : Bd l d) (h0 : d ≠ 0) (hk : k ≤ 900000) (hl : l ≤ 8900) : f__law_fraction [.dat (.int n), .dat (.int d)] st = .ok ⟨false, .dat (eP (frac n d))⟩ st := by
  have hc := common_ok n d st hn hd (by omega)
  have hg := gcd_bd (n := n) h0 hd
  have hs : Bd 1 (sgn1 d) := by rcases sgn1_cases d with e | e <;> rw [e] <;> unfold Bd <;> decide
  have hm := bin_mul hg hs (by omega)
  have hgs : Bd (l + 1) ((Int.gcd n d : Nat) * sgn1 d) := hg.mul hs
  have g0 : ((Int.gcd n d : Nat) : Int) * sgn1 d ≠ 0 := by
    have := gcd_pos (n := n) h0
    rcases sgn1_cases d with e | e <;> rw [e] <;> omega
  have e1 := bin_fdiv (i := n) hgs g0 (by omega)
  have e2 := bin_fdiv (i := d) hgs g0 (by omega)
  refine fn_ret rfl (seq_of (set_of (x := ⟨false, .dat (.int (sgn1 d))⟩) (st1 := st) ?_) (seq_of (set_of (bin_of (call_of (vs := [.dat (.int n), .dat (.int d)]) rfl hc) (y := .int (sgn1 d)) rfl hm)) (seq_end (ret_of ?_))))
  · unfold sgn1
    by_cases h : 0 < d <;> simp [evE, h]
  · simp [evE, evA, e1, e2, eP, frac]
/-! ### data of bounded size -/
structure Sz (k w : Nat) (d : MP.D) : Prop where
  o : okD d = true
  z : d.depth ≤ k
  w : wtD d ≤ w
structure Szs (k w : Nat) (d : List MP.D) : Prop where
  o : okDs d = true
  z : PyData.depthAll d ≤ k
  w : wtDs d ≤ w
theorem Sz.int {b : Nat} {i : Int} (h : Bd b i) (hb : b ≤ 1900) : Sz 0 (b + 2) (.int i) := by
  have h1 : i.natAbs.log2 < 1900 ∧ i.natAbs.log2 ≤ b := by
    by_cases h0 : b = 0
    · subst h0
      have e : i.natAbs = 0 := by
        unfold Bd at h
        omega
      rw [e]
      decide
    · have := h.log (by omega)
      omega
  exact ⟨decide_eq_true h1.1, by simp [PyData.depth], by
    show i.natAbs.log2 + 2 ≤ _
    omega⟩
theorem Sz.bool (b : Bool) : Sz 0 5 (.bool b) := ⟨rfl, by simp [PyData.depth], Nat.le_refl 5⟩
theorem Sz.none : Sz 0 4 .none := ⟨rfl, by simp [PyData.depth], Nat.le_refl 4⟩
theorem Sz.up {k l w u : Nat} {d : MP.D} (h : Sz k w d) (hk : k ≤ l) (hw : w ≤ u) : Sz l u d := ⟨h.o, Nat.le_trans h.z hk, Nat.le_trans h.w hw⟩
theorem Szs.nil {k w : Nat} : Szs k w [] := ⟨rfl, by simp [PyData.depthAll], Nat.zero_le _⟩
theorem Szs.cons {k l w u : Nat} {d : MP.D} {ds : List MP.D} (h : Sz k w d) (q : Szs l u ds) : Szs (max k l) (w + 2 + u) (d :: ds) := ⟨by simp [okDs, h.o, q.o], by
  have := h.z
  have := q.z
  simp only [PyData.depthAll]
  omega, by
  have := h.w
  have := q.w
  show wtD d + 2 + wtDs ds ≤ _
  omega⟩
theorem Szs.map {α : Type} {k w : Nat} {f : α → MP.D} {l : List α} (h : ∀ a ∈ l, Sz k w (f a)) : Szs k ((w + 2) * l.length) (l.map f) := ⟨okDs_map fun a ha => (h a ha).o, depths_map fun a ha => (h a ha).z, wts_map fun a ha => (h a ha).w⟩
theorem Sz.tup {k w : Nat} {ds : List MP.D} (h : Szs k w ds) : Sz (k + 1) (w + 3) (.tuple ds) := ⟨h.o, by
  have := h.z
  simp only [PyData.depth]
  omega, by
  have := h.w
  show wtDs ds + 3 ≤ _
  omega⟩
theorem Sz.lst {k w : Nat} {ds : List MP.D} (h : Szs k w ds) : Sz (k + 1) (w + 3) (.list ds) := ⟨h.o, by
  have := h.z
  simp only [PyData.depth]
  omega, by
  have := h.w
  show wtDs ds + 3 ≤ _
  omega⟩
theorem Sz.repr {k w : Nat} {d : MP.D} (h : Sz k w d) (hk : k ≤ 100) (hw : w ≤ 2 ^ 24) : bltF .repr [d] = some (false, .str d.shown) := blt_repr (showOk_of h.o (Nat.le_trans h.z hk) (Nat.le_trans h.w hw))
theorem Sz.shp {k w : Nat} {d : MP.D} (h : Sz k w d) (hk : k ≤ 64) : MP.shp d = true := shp_of h.o (Nat.le_trans h.z hk)
theorem eP_sz {b : Nat} {q : Int × Int} (h1 : Bd b q.1) (h2 : Bd b q.2) (hb : b ≤ 1900) : Sz 1 (2 * b + 11) (eP q) :=
  (Sz.tup (.cons (.int h1 hb) (.cons (.int h2 hb) (Szs.nil (k := 0) (w := 0))))).up (by omega) (by omega)
theorem eP_fl (q : Int × Int) : Fl 1 (eP q) := .tup (.cons (.int _) (.cons (.int _) .nil))
theorem eP_inj {a b : Int × Int} : eP a = eP b ↔ a = b := by
  obtain ⟨a1, a2⟩ := a
  obtain ⟨b1, b2⟩ := b
  simp [eP]
theorem map_inj {α : Type} {f : α → MP.D} (h : ∀ a b, f a = f b ↔ a = b) (x y : List α) : x.map f = y.map f ↔ x = y := ⟨fun q => (List.map_inj_right fun a b e => (h a b).mp e).mp q, fun q => by rw [q]⟩
@[simp] theorem eq_eP (a b : Int × Int) : cmpD .eq (eP a) (eP b) = some (decide (a = b)) := (eP_fl a).eq (eP_fl b) (by decide) (by decide) eP_inj
@[simp] theorem ne_eP (a b : Int × Int) : cmpD .ne (eP a) (eP b) = some (!decide (a = b)) := (eP_fl a).ne (eP_fl b) (by decide) (by decide) eP_inj
theorem lP_fl (q : List (Int × Int)) : Fl 2 (.list (q.map eP)) := .lst (.map fun a _ => eP_fl a)
theorem lP_inj {a b : List (Int × Int)} : PyData.list (a.map eP) = .list (b.map eP) ↔ a = b := by
  rw [PyData.list.injEq]
  exact map_inj (fun _ _ => eP_inj) a b
@[simp] theorem eq_lP (a b : List (Int × Int)) : cmpD .eq (.list (a.map eP)) (.list (b.map eP)) = some (decide (a = b)) := (lP_fl a).eq (lP_fl b) (by decide) (by decide) lP_inj
@[simp] theorem ne_lP (a b : List (Int × Int)) : cmpD .ne (.list (a.map eP)) (.list (b.map eP)) = some (!decide (a = b)) := (lP_fl a).ne (lP_fl b) (by decide) (by decide) lP_inj
theorem cmp_strE {x y : Str} : cmpD .eq (.str x) (.str y) = some (decide (x = y)) := Eq.trans rfl rfl
theorem cmp_strN {x y : Str} : cmpD .ne (.str x) (.str y) = some (!decide (x = y)) := Eq.trans rfl rfl
theorem eP_i0 {f g : Bool} {q : Int × Int} {st : Store} : ixV ⟨f, .dat (eP q)⟩ ⟨g, .dat (.int 0)⟩ st = .ok ⟨false, .dat (.int q.1)⟩ st := Eq.trans rfl rfl
theorem eP_i1 {f g : Bool} {q : Int × Int} {st : Store} : ixV ⟨f, .dat (eP q)⟩ ⟨g, .dat (.int 1)⟩ st = .ok ⟨false, .dat (.int q.2)⟩ st := Eq.trans rfl rfl
theorem eP_bt {ts : Tgs} {q : Int × Int} {env : MP.Env} : bindTg (.tup ts) (eP q) env = bindTgs ts [.int q.1, .int q.2] env := Eq.trans rfl rfl
theorem eP_mk {a b : Int} : eP (a, b) = .tuple [.int a, .int b] := rfl
end
local macro_rules | `(tactic| simp! [$ls,*]) => `(tactic| simp only [$ls,*, ev_var, ev_cst, ev_glob, ev_neg, ev_not, ev_bin, ev_cmp, ev_chain, ev_and, ev_or, ev_ite, ev_tup, ev_lst, ev_ix, ev_slice, ev_rev, ev_call, ev_blt, ev_isi, ev_dicn, ev_dhasT, ev_dhasF, ev_dget, ev_dsort, ev_dixl, ev_revc, ev_cntL, ev_lrng1, ev_lrng2, blt_intB, es_dput, dgT_o, dpT_o, dgR_s, dxR_s, er_dhas, er_dget, er_dsort, er_dixl, ev_comp, ev_compF, ev_comp2, ev_comp2F, evA_n, evA_c, evA_s, evV_n, evV_c, evP_n, evP_c, evO_n, evO_s, evC_n, evC_s, evI_s, evI_1, evI_2, evI_3, evI_e, evI_z, listOf_l, zipD_l, zipD_t, es_pass, es_exp, es_set, es_setO, es_setT, es_par, es_parO, ownOf_t, evR_n, evR_f, evR_t, pS_n, pS_c, es_ite, es_whil, es_for, es_brk, es_cnt, es_frz, ess_n, ess_c, er_var, er_cst, er_glob, er_neg, er_not, er_bin, er_cmp, er_chain, er_and, er_or, er_ite, er_tup, er_lst, er_ix, er_slice, er_rev, er_call, er_blt, er_isi, er_comp, appR_o, augR_a, augR_s, frzR_o, varR_v, varR_o, retR_o, retR_v, ixR_s, ix_l, ix_t, bT_ok, sT_ok, qT_nx, qT_rt, qT_br, qT_ct, qT_ex, bT_exc, sT_exc, tT_ex, es_rais, es_try, es_tryY, optS_s, zT_nx, zT_rt, zT_ex, yT_nx, yT_rt, yT_br, yT_ct, yT_ex, es_clr, clrR_o, Cb_t, Cb_f, oT_s, tT_nx, tT_ct, tT_br, tT_rt, turn_nx, turn_ct, turn_br, turn_rt, datOf_dat, intOf_int, boolOf_bool, plain_eq, fresh_eq, ofBD_some, ofB_some, rOpt_some, seqOf_l, seqOf_t, lit_int, lit_str, lit_bool, lit_none, wp_ok, wp_bind, wps_sr, wps_seq, wps_tT, wps_nx, wps_rt, wps_br, wps_ct, List.getElem?_cons_zero, List.getElem?_cons_succ, List.set_cons_zero, List.set_cons_succ, List.map_cons, List.map_nil, Nat.reduceSub, List.replicate_succ, List.replicate_zero, List.cons_append, List.nil_append, List.append_nil, putVals, bt_nm, bt_t, bt_l, btT_s, bts_n, bts_c, wipeE, bin_int_add, bin_int_sub, cmp_int_eq, cmp_int_ne, cmp_int_lt, cmp_int_le, cmp_int_gt, cmp_int_ge, ix_0, ix_1, ix_2, ix_3, ix_4, ix_5, ix_6, ix_7, ix_m1, blt_absI, blt_intI, blt_tupL, blt_tupT, blt_lstL, blt_lstT, blt_lenL, blt_lenT, blt_lenLm, blt_lenTm, blt_min2, blt_max2, blt_min3, blt_max3, isi_n, isi_b, isi_i, isi_s, isi_l, isi_t, fits_0, fits_1, fits_2, fits_3, fits_4, fits_5, fits_6, fits_7, fits_8, fits_9, fits_10, fits_11, fits_12, fits_13, fits_14, fits_15, fits_16, fitsS_0, fitsS_1, fitsS_2, fitsS_3, fitsS_4, List.length_cons, List.length_nil, Nat.zero_add, Nat.reduceAdd, Bool.not_true, Bool.not_false, decide_true, decide_false, Int.reduceNeg, Int.reduceSub, Int.reduceAdd, Int.reduceLT, Int.reduceLE, Int.reduceEq, Int.reduceMul])
local macro_rules | `(tactic| simp!) => `(tactic| simp only [ev_var, ev_cst, ev_glob, ev_neg, ev_not, ev_bin, ev_cmp, ev_chain, ev_and, ev_or, ev_ite, ev_tup, ev_lst, ev_ix, ev_slice, ev_rev, ev_call, ev_blt, ev_isi, ev_dicn, ev_dhasT, ev_dhasF, ev_dget, ev_dsort, ev_dixl, ev_revc, ev_cntL, ev_lrng1, ev_lrng2, blt_intB, es_dput, dgT_o, dpT_o, dgR_s, dxR_s, er_dhas, er_dget, er_dsort, er_dixl, ev_comp, ev_compF, ev_comp2, ev_comp2F, evA_n, evA_c, evA_s, evV_n, evV_c, evP_n, evP_c, evO_n, evO_s, evC_n, evC_s, evI_s, evI_1, evI_2, evI_3, evI_e, evI_z, listOf_l, zipD_l, zipD_t, es_pass, es_exp, es_set, es_setO, es_setT, es_par, es_parO, ownOf_t, evR_n, evR_f, evR_t, pS_n, pS_c, es_ite, es_whil, es_for, es_brk, es_cnt, es_frz, ess_n, ess_c, er_var, er_cst, er_glob, er_neg, er_not, er_bin, er_cmp, er_chain, er_and, er_or, er_ite, er_tup, er_lst, er_ix, er_slice, er_rev, er_call, er_blt, er_isi, er_comp, appR_o, augR_a, augR_s, frzR_o, varR_v, varR_o, retR_o, retR_v, ixR_s, ix_l, ix_t, bT_ok, sT_ok, qT_nx, qT_rt, qT_br, qT_ct, qT_ex, bT_exc, sT_exc, tT_ex, es_rais, es_try, es_tryY, optS_s, zT_nx, zT_rt, zT_ex, yT_nx, yT_rt, yT_br, yT_ct, yT_ex, es_clr, clrR_o, Cb_t, Cb_f, oT_s, tT_nx, tT_ct, tT_br, tT_rt, turn_nx, turn_ct, turn_br, turn_rt, datOf_dat, intOf_int, boolOf_bool, plain_eq, fresh_eq, ofBD_some, ofB_some, rOpt_some, seqOf_l, seqOf_t, lit_int, lit_str, lit_bool, lit_none, wp_ok, wp_bind, wps_sr, wps_seq, wps_tT, wps_nx, wps_rt, wps_br, wps_ct, List.getElem?_cons_zero, List.getElem?_cons_succ, List.set_cons_zero, List.set_cons_succ, List.map_cons, List.map_nil, Nat.reduceSub, List.replicate_succ, List.replicate_zero, List.cons_append, List.nil_append, List.append_nil, putVals, bt_nm, bt_t, bt_l, btT_s, bts_n, bts_c, wipeE, bin_int_add, bin_int_sub, cmp_int_eq, cmp_int_ne, cmp_int_lt, cmp_int_le, cmp_int_gt, cmp_int_ge, ix_0, ix_1, ix_2, ix_3, ix_4, ix_5, ix_6, ix_7, ix_m1, blt_absI, blt_intI, blt_tupL, blt_tupT, blt_lstL, blt_lstT, blt_lenL, blt_lenT, blt_lenLm, blt_lenTm, blt_min2, blt_max2, blt_min3, blt_max3, isi_n, isi_b, isi_i, isi_s, isi_l, isi_t, fits_0, fits_1, fits_2, fits_3, fits_4, fits_5, fits_6, fits_7, fits_8, fits_9, fits_10, fits_11, fits_12, fits_13, fits_14, fits_15, fits_16, fitsS_0, fitsS_1, fitsS_2, fitsS_3, fitsS_4, List.length_cons, List.length_nil, Nat.zero_add, Nat.reduceAdd, Bool.not_true, Bool.not_false, decide_true, decide_false, Int.reduceNeg, Int.reduceSub, Int.reduceAdd, Int.reduceLT, Int.reduceLE, Int.reduceEq, Int.reduceMul])
section
/-! Moves of a law: tables of four numbers in one form. -/
def b__law_move : Sms := (.cons (.set 4 false (.call "_law_common" f__law_common (.cons (.call "_law_common" f__law_common (.cons (.var 0) (.cons (.var 1) .nil))) (.cons (.call "_law_common" f__law_common (.cons (.var 2) (.cons (.var 3) .nil))) .nil)))) (.cons (.set 5 false (.ix (.comp (.var 6) [("_law_x", 6)] (.nm 6) (.seq (.tup (.cons (.var 0) (.cons (.var 1) (.cons (.var 2) (.cons (.var 3) .nil)))))) (.som (.cmp .ne (.var 6) (.cst (.int 0))))) (.cst (.int 0)))) (.cons (.set 4 false (.ite (.cmp .gt (.var 5) (.cst (.int 0))) (.var 4) (.bin .sub (.cst (.int 0)) (.var 4)))) (.cons (.ret (.tup (.cons (.bin .fdiv (.var 0) (.var 4)) (.cons (.bin .fdiv (.var 1) (.var 4)) (.cons (.bin .fdiv (.var 2) (.var 4)) (.cons (.bin .fdiv (.var 3) (.var 4)) .nil)))))) .nil))))
def f__law_move : Fn := fnOf 4 7 b__law_move
def r__law_move : List Req := [.fn "_law_common" f__law_common]
theorem q__law_move : rqSs b__law_move = [0, 0, 0].map fun i => r__law_move.getD i (.non "") := rfl
def b__law_after : Sms := (.cons (.setT (.cons (.nm 2) (.cons (.nm 3) (.cons (.nm 4) (.cons (.nm 5) .nil)))) (.var 0)) (.cons (.setT (.cons (.nm 6) (.cons (.nm 7) (.cons (.nm 8) (.cons (.nm 9) .nil)))) (.var 1)) (.cons (.ret (.call "_law_move" f__law_move (.cons (.bin .add (.bin .mul (.var 2) (.var 6)) (.bin .mul (.var 3) (.var 8))) (.cons (.bin .add (.bin .mul (.var 2) (.var 7)) (.bin .mul (.var 3) (.var 9))) (.cons (.bin .add (.bin .mul (.var 4) (.var 6)) (.bin .mul (.var 5) (.var 8))) (.cons (.bin .add (.bin .mul (.var 4) (.var 7)) (.bin .mul (.var 5) (.var 9))) .nil)))))) .nil)))
def f__law_after : Fn := fnOf 2 10 b__law_after
def r__law_after : List Req := [.fn "_law_move" f__law_move]
theorem q__law_after : rqSs b__law_after = [0].map fun i => r__law_after.getD i (.non "") := rfl
def b__law_back : Sms := (.cons (.ret (.call "_law_move" f__law_move (.cons (.ix (.var 0) (.cst (.int 3))) (.cons (.bin .sub (.cst (.int 0)) (.ix (.var 0) (.cst (.int 1)))) (.cons (.bin .sub (.cst (.int 0)) (.ix (.var 0) (.cst (.int 2)))) (.cons (.ix (.var 0) (.cst (.int 0))) .nil)))))) .nil)
def f__law_back : Fn := fnOf 1 1 b__law_back
def r__law_back : List Req := [.fn "_law_move" f__law_move]
theorem q__law_back : rqSs b__law_back = [0].map fun i => r__law_back.getD i (.non "") := rfl
def b__law_draw_prime : Sms := (.cons (.ret (.ix (.lst (.cons (.cst (.int 2)) (.cons (.cst (.int 3)) (.cons (.cst (.int 2)) (.cons (.cst (.int 5)) (.cons (.cst (.int 7)) .nil)))))) (.call "_law_pick" f__law_pick (.cons (.var 0) (.cons (.cst (.int 5)) .nil))))) .nil)
def f__law_draw_prime : Fn := fnOf 1 1 b__law_draw_prime
def r__law_draw_prime : List Req := [.fn "_law_pick" f__law_pick]
theorem q__law_draw_prime : rqSs b__law_draw_prime = [0].map fun i => r__law_draw_prime.getD i (.non "") := rfl
def b__law_draw_move_3 : Sms := (.cons (.ret (.var 4)) .nil)
def b__law_draw_move_2a_1 : Sms := (.cons (.set 4 false (.call "_law_after" f__law_after (.cons (.var 5) (.cons (.call "_law_after" f__law_after (.cons (.var 4) (.cons (.call "_law_back" f__law_back (.cons (.var 5) .nil)) .nil))) .nil)))) .nil)
def b__law_draw_move_2a : Sms := (.cons (.set 5 false (.call "_law_move" f__law_move (.cons (.call "_law_raised" f__law_raised (.cons (.var 1) (.cons (.call "_law_pick" f__law_pick (.cons (.var 0) (.cons (.cst (.int 2)) .nil))) .nil))) (.cons (.bin .sub (.call "_law_pick" f__law_pick (.cons (.var 0) (.cons (.cst (.int 5)) .nil))) (.cst (.int 2))) (.cons (.cst (.int 0)) (.cons (.cst (.int 1)) .nil)))))) b__law_draw_move_2a_1)
def b__law_draw_move_2 : Sms := (.cons (.ite (.cmp .eq (.call "_law_pick" f__law_pick (.cons (.var 0) (.cons (.cst (.int 3)) .nil))) (.cst (.int 0))) b__law_draw_move_2a .nil) b__law_draw_move_3)
def b__law_draw_move_1a : Sms := (.cons (.set 4 false (.call "_law_move" f__law_move (.cons (.cst (.int 1)) (.cons (.bin .mul (.var 3) (.ix (.lst (.cons (.cst (.int 1)) (.cons (.var 1) .nil))) (.call "_law_pick" f__law_pick (.cons (.var 0) (.cons (.cst (.int 2)) .nil))))) (.cons (.cst (.int 0)) (.cons (.ix (.lst (.cons (.cst (.int 1)) (.cons (.var 1) (.cons (.bin .mul (.var 1) (.var 1)) .nil)))) (.call "_law_pick" f__law_pick (.cons (.var 0) (.cons (.cst (.int 3)) .nil)))) .nil)))))) .nil)
def b__law_draw_move_1b_0a : Sms := (.cons (.set 4 false (.call "_law_move" f__law_move (.cons (.call "_law_raised" f__law_raised (.cons (.var 1) (.cons (.call "_law_pick" f__law_pick (.cons (.var 0) (.cons (.cst (.int 3)) .nil))) .nil))) (.cons (.cst (.int 0)) (.cons (.cst (.int 0)) (.cons (.ix (.lst (.cons (.cst (.int 1)) (.cons (.cst (.int 2)) (.cons (.cst (.int 3)) (.cons (.bin .sub (.cst (.int 0)) (.cst (.int 1))) .nil))))) (.call "_law_pick" f__law_pick (.cons (.var 0) (.cons (.cst (.int 4)) .nil)))) .nil)))))) .nil)
def b__law_draw_move_1b_0b_0a : Sms := (.cons (.set 4 false (.call "_law_move" f__law_move (.cons (.cst (.int 0)) (.cons (.ix (.lst (.cons (.cst (.int 1)) (.cons (.var 1) (.cons (.bin .sub (.cst (.int 0)) (.cst (.int 1))) (.cons (.bin .sub (.cst (.int 0)) (.var 1)) .nil))))) (.call "_law_pick" f__law_pick (.cons (.var 0) (.cons (.cst (.int 4)) .nil)))) (.cons (.cst (.int 1)) (.cons (.var 3) .nil)))))) .nil)
def b__law_draw_move_1b_0b_0b_2 : Sms := (.cons (.set 4 false (.ite (.var 7) (.call "_law_move" f__law_move (.cons (.cst (.int 1)) (.cons (.var 3) (.cons (.cst (.int 0)) (.cons (.cst (.int 1)) .nil))))) (.call "_law_move" f__law_move (.cons (.ix (.var 6) (.cst (.int 0))) (.cons (.ix (.var 6) (.cst (.int 1))) (.cons (.ix (.var 6) (.cst (.int 2))) (.cons (.ix (.var 6) (.cst (.int 3))) .nil))))))) .nil)
def b__law_draw_move_1b_0b_0b_1 : Sms := (.cons (.set 7 false (.cmp .eq (.bin .mul (.ix (.var 6) (.cst (.int 0))) (.ix (.var 6) (.cst (.int 3)))) (.bin .mul (.ix (.var 6) (.cst (.int 1))) (.ix (.var 6) (.cst (.int 2)))))) b__law_draw_move_1b_0b_0b_2)
def b__law_draw_move_1b_0b_0b : Sms := (.cons (.set 6 false (.comp (.bin .sub (.call "_law_pick" f__law_pick (.cons (.var 0) (.cons (.cst (.int 9)) .nil))) (.cst (.int 4))) [("_law_lap", 8)] (.nm 8) (.rng1 (.cst (.int 4))) .non)) b__law_draw_move_1b_0b_0b_1)
def b__law_draw_move_1b_0b : Sms := (.cons (.ite (.cmp .eq (.var 2) (.cst (.int 2))) b__law_draw_move_1b_0b_0a b__law_draw_move_1b_0b_0b) .nil)
def b__law_draw_move_1b : Sms := (.cons (.ite (.cmp .eq (.var 2) (.cst (.int 1))) b__law_draw_move_1b_0a b__law_draw_move_1b_0b) .nil)
def b__law_draw_move_1 : Sms := (.cons (.ite (.cmp .eq (.var 2) (.cst (.int 0))) b__law_draw_move_1a b__law_draw_move_1b) b__law_draw_move_2)
def b__law_draw_move : Sms := (.cons (.par [2, 3] (.cons (.call "_law_pick" f__law_pick (.cons (.var 0) (.cons (.cst (.int 6)) .nil))) (.cons (.bin .sub (.call "_law_pick" f__law_pick (.cons (.var 0) (.cons (.cst (.int 9)) .nil))) (.cst (.int 4))) .nil))) b__law_draw_move_1)
def f__law_draw_move : Fn := fnOf 2 9 b__law_draw_move
def r__law_draw_move : List Req := [.fn "_law_pick" f__law_pick, .fn "_law_move" f__law_move, .fn "_law_raised" f__law_raised, .non "range", .fn "_law_after" f__law_after, .fn "_law_back" f__law_back]
theorem q__law_draw_move : rqSs b__law_draw_move = [0, 0, 1, 0, 0, 1, 2, 0, 0, 1, 0, 3, 0, 1, 1, 0, 1, 2, 0, 0, 4, 4, 5].map fun i => r__law_draw_move.getD i (.non "") := rfl
@[ext] structure M4 where
  a : Int
  b : Int
  c : Int
  d : Int
  deriving DecidableEq
def eM (m : M4) : MP.D := .tuple [.int m.a, .int m.b, .int m.c, .int m.d]
def det4 (m : M4) : Int := m.a * m.d - m.b * m.c
def gcd4 (m : M4) : Nat := Nat.gcd (Int.gcd m.a m.b) (Int.gcd m.c m.d)
def fst4 (m : M4) : Int := if m.a ≠ 0 then m.a else if m.b ≠ 0 then m.b else if m.c ≠ 0 then m.c else m.d
def scl (t : Int) (m : M4) : M4 := ⟨t * m.a, t * m.b, t * m.c, t * m.d⟩
def sc4 (m : M4) : Int := (gcd4 m : Nat) * sgn1 (fst4 m)
def nm (m : M4) : M4 := ⟨m.a.fdiv (sc4 m), m.b.fdiv (sc4 m), m.c.fdiv (sc4 m), m.d.fdiv (sc4 m)⟩
def Non0 (m : M4) : Prop := m.a ≠ 0 ∨ m.b ≠ 0 ∨ m.c ≠ 0 ∨ m.d ≠ 0
def BdM (k : Nat) (m : M4) : Prop := Bd k m.a ∧ Bd k m.b ∧ Bd k m.c ∧ Bd k m.d
def NFM (m : M4) : Prop := gcd4 m = 1 ∧ 0 < fst4 m
theorem det_non0 {m : M4} (h : det4 m ≠ 0) : Non0 m := by
  by_cases ha : m.a = 0
  · by_cases hb : m.b = 0
    · exfalso
      apply h
      unfold det4
      rw [ha, hb]
      omega
    · exact .inr (.inl hb)
  · exact .inl ha
theorem gcd4_pos {m : M4} (h : Non0 m) : 0 < gcd4 m := by
  unfold gcd4
  rcases h with h | h | h | h
  · exact Nat.gcd_pos_of_pos_left _ (Int.gcd_pos_of_ne_zero_left _ h)
  · exact Nat.gcd_pos_of_pos_left _ (Int.gcd_pos_of_ne_zero_right _ h)
  · exact Nat.gcd_pos_of_pos_right _ (Int.gcd_pos_of_ne_zero_left _ h)
  · exact Nat.gcd_pos_of_pos_right _ (Int.gcd_pos_of_ne_zero_right _ h)
theorem fst4_ne {m : M4} (h : Non0 m) : fst4 m ≠ 0 := by
  unfold fst4
  by_cases ha : m.a = 0
  · by_cases hb : m.b = 0
    · by_cases hc : m.c = 0
      · have hd : m.d ≠ 0 := by rcases h with h | h | h | h <;> first | exact absurd ‹_› h | exact h
        simp [ha, hb, hc, hd]
      · simp [ha, hb, hc]
    · simp [ha, hb]
  · simp [ha]
theorem sc4_ne {m : M4} (h : Non0 m) : sc4 m ≠ 0 := by
  have := gcd4_pos h
  unfold sc4
  rcases sgn1_cases (fst4 m) with e | e <;> rw [e] <;> omega
theorem gcd4_dvd (m : M4) : (gcd4 m : Int) ∣ m.a ∧ (gcd4 m : Int) ∣ m.b ∧ (gcd4 m : Int) ∣ m.c ∧ (gcd4 m : Int) ∣ m.d := by
  have l : (gcd4 m : Int) ∣ (Int.gcd m.a m.b : Nat) := Int.natCast_dvd_natCast.mpr (Nat.gcd_dvd_left ..)
  have r : (gcd4 m : Int) ∣ (Int.gcd m.c m.d : Nat) := Int.natCast_dvd_natCast.mpr (Nat.gcd_dvd_right ..)
  exact ⟨Int.dvd_trans l (Int.gcd_dvd_left ..), Int.dvd_trans l (Int.gcd_dvd_right ..), Int.dvd_trans r (Int.gcd_dvd_left ..), Int.dvd_trans r (Int.gcd_dvd_right ..)⟩
theorem nm_mul {m : M4} (h : Non0 m) : scl (sc4 m) (nm m) = m := by
  obtain ⟨h1, h2, h3, h4⟩ := gcd4_dvd m
  have h0 := sc4_ne h
  have one : ∀ x : Int, (gcd4 m : Int) ∣ x → sc4 m * x.fdiv (sc4 m) = x := by
    intro x hx
    have hs : sc4 m ∣ x := by
      unfold sc4
      rcases sgn1_cases (fst4 m) with e | e <;> rw [e]
      · rw [Int.mul_one]
        exact hx
      · rw [Int.mul_neg, Int.mul_one, Int.neg_dvd]
        exact hx
    obtain ⟨y, rfl⟩ := hs
    rw [Int.mul_fdiv_cancel_left _ h0]
  exact M4.ext (one _ h1) (one _ h2) (one _ h3) (one _ h4)
theorem det_scl (t : Int) (m : M4) : det4 (scl t m) = t * t * det4 m := by
  simp only [det4, scl, Int.mul_sub]
  congr 1 <;> ac_rfl
theorem det_nm {m : M4} (h : det4 m ≠ 0) : det4 (nm m) ≠ 0 := by
  intro z
  apply h
  have e := det_scl (sc4 m) (nm m)
  rw [nm_mul (det_non0 h), z, Int.mul_zero] at e
  exact e
theorem gcd4_scl (t : Int) (m : M4) : gcd4 (scl t m) = t.natAbs * gcd4 m := by
  unfold gcd4 scl
  rw [Int.gcd_mul_left, Int.gcd_mul_left, Nat.gcd_mul_left]
theorem fst4_scl {t : Int} (ht : t ≠ 0) (m : M4) : fst4 (scl t m) = t * fst4 m := by
  unfold fst4 scl
  by_cases ha : m.a = 0
  · by_cases hb : m.b = 0
    · by_cases hc : m.c = 0
      · simp [ha, hb, hc]
      · simp [ha, hb, hc, ht]
    · simp [ha, hb, ht]
  · simp [ha, ht]
theorem nm_nf {m : M4} (h : Non0 m) : NFM (nm m) := by
  have h0 := sc4_ne h
  have hg := gcd4_pos h
  have e1 := gcd4_scl (sc4 m) (nm m)
  have e2 := fst4_scl h0 (nm m)
  rw [nm_mul h] at e1 e2
  have ea : (sc4 m).natAbs = gcd4 m := by
    unfold sc4
    rcases sgn1_cases (fst4 m) with e | e <;> rw [e] <;> simp
  rw [ea] at e1
  refine ⟨Nat.eq_of_mul_eq_mul_left hg (by omega), ?_⟩
  have hf := fst4_ne h
  by_cases hp : 0 < fst4 m
  · have e : sc4 m = gcd4 m := by
      unfold sc4
      rw [show sgn1 (fst4 m) = 1 from if_pos hp, Int.mul_one]
    rw [e] at e2
    exact pos_of_mul (a := (gcd4 m : Int)) (by omega) (by omega)
  · have e : sc4 m = -(gcd4 m : Int) := by
      unfold sc4
      rw [show sgn1 (fst4 m) = -1 from if_neg hp, Int.mul_neg, Int.mul_one]
    rw [e, Int.neg_mul] at e2
    exact pos_of_mul (a := (gcd4 m : Int)) (by omega) (by omega)
theorem nm_bd {k : Nat} {m : M4} (h : BdM k m) : BdM k (nm m) := ⟨fdiv_bd h.1, fdiv_bd h.2.1, fdiv_bd h.2.2.1, fdiv_bd h.2.2.2⟩
theorem gcd_bdl {l : Nat} {n d : Int} (hn : Bd l n) (hd : Bd l d) : Bd l (Int.gcd n d : Nat) := by
  by_cases h : d = 0
  · subst h
    unfold Bd at *
    rw [Int.gcd_zero_right]
    exact hn
  · exact gcd_bd h hd
theorem law_move_ok {k : Nat} (m : M4) (st : Store) (hb : BdM k m) (h0 : Non0 m) (hk : k ≤ 8000) : f__law_move [.dat (.int m.a), .dat (.int m.b), .dat (.int m.c), .dat (.int m.d)] st = .ok ⟨false, .dat (eM (nm m))⟩ st := by
  obtain ⟨h1, h2, h3, h4⟩ := hb
  have c1 := common_ok m.a m.b st h1 h2 (by omega)
  have c2 := common_ok m.c m.d st h3 h4 (by omega)
  have g1 := gcd_bdl h1 h2
  have g2 := gcd_bdl h3 h4
  have c3 : f__law_common [.dat (.int (Int.gcd m.a m.b : Nat)), .dat (.int (Int.gcd m.c m.d : Nat))] st = .ok ⟨false, .dat (.int (gcd4 m : Nat))⟩ st := common_ok (Int.gcd m.a m.b : Nat) (Int.gcd m.c m.d : Nat) st g1 g2 (by omega)
  have g3 : Bd k (gcd4 m : Nat) := by
    have := gcd_bdl g1 g2
    exact this
  have gs : Bd (k + 1) (sc4 m) := g3.mul (l := 1) (by rcases sgn1_cases (fst4 m) with e | e <;> rw [e] <;> unfold Bd <;> decide)
  have s0 := sc4_ne h0
  have hf := fst4_ne h0
  have q := fun i => bin_fdiv (i := i) gs s0 (by omega)
  have ef : evE (.comp (.var 6) [("_law_x", 6)] (.nm 6) (.seq (.tup (.cons (.var 0) (.cons (.var 1) (.cons (.var 2) (.cons (.var 3) .nil)))))) (.som (.cmp .ne (.var 6) (.cst (.int 0))))) true [.val (.dat (.int m.a)), .val (.dat (.int m.b)), .val (.dat (.int m.c)), .val (.dat (.int m.d)), .val (.dat (.int (gcd4 m : Nat))), .un, .un] st =
      .ok ⟨true, .dat (.list ([PyData.int m.a, .int m.b, .int m.c, .int m.d].filterMap fun d => match d with | .int n => if n = 0 then none else some (.int n) | d => some d))⟩ st := by
    refine comp_of rfl ?_
    rw [compL_opt (fun d => match d with | .int n => if n = 0 then none else some (.int n) | d => some d) (fun d hd => ?_) (by simp [sizeLine])]
    · rfl
    · simp at hd
      rcases hd with rfl | rfl | rfl | rfl <;> simp [compF, bindTg, wipeE, evC, evE] <;> split <;> simp_all
  have ei : ixD ([PyData.int m.a, .int m.b, .int m.c, .int m.d].filterMap fun d => match d with | .int n => if n = 0 then none else some (.int n) | d => some d) 0 = some (.int (fst4 m)) := by
    unfold fst4
    by_cases ha : m.a = 0
    · by_cases hb : m.b = 0
      · by_cases hc : m.c = 0
        · have hd : m.d ≠ 0 := by rcases h0 with h | h | h | h <;> first | exact absurd ‹_› h | exact h
          simp [ha, hb, hc, hd, ixD, L2.atI, L2.ixN]
        · by_cases hd : m.d = 0 <;> simp [ha, hb, hc, hd, ixD, L2.atI, L2.ixN]
      · by_cases hc : m.c = 0 <;> by_cases hd : m.d = 0 <;> simp [ha, hb, hc, hd, ixD, L2.atI, L2.ixN] <;> omega
    · by_cases hb : m.b = 0 <;> by_cases hc : m.c = 0 <;> by_cases hd : m.d = 0 <;> simp [ha, hb, hc, hd, ixD, L2.atI, L2.ixN] <;> omega
  refine fn_ret rfl (seq_of (set_of (x := ⟨false, .dat (.int (gcd4 m : Nat))⟩) (st1 := st) ?_) (seq_of (set_of (x := ⟨false, .dat (.int (fst4 m))⟩) (st1 := st) ?_) (seq_of (set_of (x := ⟨false, .dat (.int (sc4 m))⟩) (st1 := st) ?_) (seq_end (ret_of ?_)))))
  · exact call_of (vs := [.dat (.int (Int.gcd m.a m.b : Nat)), .dat (.int (Int.gcd m.c m.d : Nat))]) (by simp [evE, evV, c1, c2]) c3
  · show ((evE (.comp (.var 6) [("_law_x", 6)] (.nm 6) (.seq (.tup (.cons (.var 0) (.cons (.var 1) (.cons (.var 2) (.cons (.var 3) .nil)))))) (.som (.cmp .ne (.var 6) (.cst (.int 0))))) true [.val (.dat (.int m.a)), .val (.dat (.int m.b)), .val (.dat (.int m.c)), .val (.dat (.int m.d)), .val (.dat (.int (gcd4 m : Nat))), .un, .un] st).bind fun x st => (evE (.cst (.int 0)) true _ st).bind fun y st => ixV x y st) = _
    rw [ef]
    simp [evE, ixV, ei]
  · unfold sc4 sgn1
    by_cases hp : 0 < fst4 m <;> simp [evE, hp]
  · simp [evE, evA, q, eM, nm]
def mulM (m n : M4) : M4 := ⟨m.a * n.a + m.b * n.c, m.a * n.b + m.b * n.d, m.c * n.a + m.d * n.c, m.c * n.b + m.d * n.d⟩
def adj (m : M4) : M4 := ⟨m.d, -m.b, -m.c, m.a⟩
def aft (m n : M4) : M4 := nm (mulM m n)
def bk (m : M4) : M4 := nm (adj m)
theorem det_mul (m n : M4) : det4 (mulM m n) = det4 m * det4 n := by
  simp only [det4, mulM]
  grind
theorem det_adj (m : M4) : det4 (adj m) = det4 m := by
  simp only [det4, adj]
  grind
theorem mul_bd {k l : Nat} {m n : M4} (h : BdM k m) (q : BdM l n) : BdM (k + l + 1) (mulM m n) := by
  obtain ⟨a1, a2, a3, a4⟩ := h
  obtain ⟨b1, b2, b3, b4⟩ := q
  exact ⟨(a1.mul b1).add' (a2.mul b3), (a1.mul b2).add' (a2.mul b4), (a3.mul b1).add' (a4.mul b3), (a3.mul b2).add' (a4.mul b4)⟩
theorem adj_bd {k : Nat} {m : M4} (h : BdM k m) : BdM k (adj m) := ⟨h.2.2.2, h.2.1.neg, h.2.2.1.neg, h.1⟩
theorem BdM.up {k l : Nat} {m : M4} (h : BdM k m) (hl : k ≤ l) : BdM l m := ⟨h.1.up hl, h.2.1.up hl, h.2.2.1.up hl, h.2.2.2.up hl⟩
theorem law_after_ok {k l : Nat} (m n : M4) (st : Store) (hm : BdM k m) (hn : BdM l n) (dm : det4 m ≠ 0) (dn : det4 n ≠ 0) (hk : k + l + 1 ≤ 8000) : f__law_after [.dat (eM m), .dat (eM n)] st = .ok ⟨false, .dat (eM (aft m n))⟩ st := by
  obtain ⟨a1, a2, a3, a4⟩ := hm
  obtain ⟨b1, b2, b3, b4⟩ := hn
  have h := law_move_ok (mulM m n) st (mul_bd ⟨a1, a2, a3, a4⟩ ⟨b1, b2, b3, b4⟩) (det_non0 (by rw [det_mul]; exact Int.mul_ne_zero dm dn)) hk
  have w : ∀ {i j : Int}, Bd k i → Bd l j → bin .mul (.int i) (.int j) = some (false, .int (i * j)) := fun hi hj => bin_mul hi hj (by omega)
  refine fn_eq rfl ?_
  simp only [eM] at h ⊢
  simp! [b__law_after, w a1 b1, w a1 b2, w a2 b3, w a2 b4, w a3 b1, w a3 b2, w a4 b3, w a4 b4]
  simp only [mulM] at h
  rw [h]
  rfl
theorem law_back_ok {k : Nat} (m : M4) (st : Store) (hm : BdM k m) (dm : det4 m ≠ 0) (hk : k ≤ 8000) : f__law_back [.dat (eM m)] st = .ok ⟨false, .dat (eM (bk m))⟩ st := by
  have h := law_move_ok (adj m) st (adj_bd hm) (det_non0 (by rw [det_adj]; exact dm)) hk
  refine fn_eq rfl ?_
  simp only [eM] at h ⊢
  simp! [b__law_back]
  simp only [adj] at h
  simp only [Int.zero_sub]
  rw [h]
  rfl
def P4 (p : Int) : Prop := p = 2 ∨ p = 3 ∨ p = 5 ∨ p = 7
theorem P4.bd {p : Int} (h : P4 p) : Bd 3 p := by
  rcases h with rfl | rfl | rfl | rfl <;> (unfold Bd; decide)
theorem wp_prime {st : Store} {Q : RV → Store → Prop} (h : IsSrc st) (k : ∀ p st', IsSrc st' → P4 p → Q ⟨false, .dat (.int p)⟩ st') : Wp (f__law_draw_prime [.loc 1] st) Q := by
  refine wp_fn rfl ?_
  simp! [b__law_draw_prime]
  refine wp_pick h (by decide) (by decide) fun x st' h' x0 x1 => ?_
  rcases c5 x0 x1 with rfl | rfl | rfl | rfl | rfl <;> simp! <;> exact k _ _ h' (by unfold P4; decide)
/-- a move in its form, of numbers below 2 ^ k -/
structure GM (k : Nat) (m : M4) : Prop where
  b : BdM k m
  d : det4 m ≠ 0
  f : NFM m
theorem GM.up {k l : Nat} {m : M4} (h : GM k m) (hl : k ≤ l) : GM l m := ⟨h.b.up hl, h.d, h.f⟩
theorem nm_gm {k : Nat} {m : M4} (hb : BdM k m) (h : det4 m ≠ 0) : GM k (nm m) := ⟨nm_bd hb, det_nm h, nm_nf (det_non0 h)⟩
theorem GM.aft {k l : Nat} {m n : M4} (h : GM k m) (q : GM l n) : GM (k + l + 1) (aft m n) := nm_gm (mul_bd h.b q.b) (by rw [det_mul]; exact Int.mul_ne_zero h.d q.d)
theorem GM.bk {k : Nat} {m : M4} (h : GM k m) : GM k (bk m) := nm_gm (adj_bd h.b) (by rw [det_adj]; exact h.d)
theorem mv_ok {k : Nat} (a b c d : Int) (st : Store) (hb : BdM k ⟨a, b, c, d⟩) (h0 : a * d - b * c ≠ 0) (hk : k ≤ 8000) : f__law_move [.dat (.int a), .dat (.int b), .dat (.int c), .dat (.int d)] st = .ok ⟨false, .dat (eM (nm ⟨a, b, c, d⟩))⟩ st := law_move_ok ⟨a, b, c, d⟩ st hb (det_non0 h0) hk
theorem wp_raised {p n : Int} {st : Store} {Q : RV → Store → Prop} (hp : P4 p) (h0 : 0 ≤ n) (h1 : n ≤ 1000) (q : Q ⟨false, .dat (.int (p ^ n.toNat))⟩ st) : Wp (f__law_raised [.dat (.int p), .dat (.int n)] st) Q := by
  rw [raised_ok (k := 3) p n st hp.bd (by omega) (by omega) (by omega)]
  exact ⟨q⟩
theorem bm_s {i j : Int} (h : i.natAbs < 2 ^ 64) : bin .mul (.int i) (.int j) = some (false, .int (i * j)) := by
  show (bif mulOk i j then some (false, PyData.int (i * j)) else none) = _
  have e : mulOk i j = true := by
    unfold mulOk
    rw [decide_eq_true h]
    rfl
  rw [e]
  rfl
theorem eM_i0 {f g : Bool} {m : M4} {st : Store} : ixV ⟨f, .dat (eM m)⟩ ⟨g, .dat (.int 0)⟩ st = .ok ⟨false, .dat (.int m.a)⟩ st := Eq.trans rfl rfl
theorem eM_i1 {f g : Bool} {m : M4} {st : Store} : ixV ⟨f, .dat (eM m)⟩ ⟨g, .dat (.int 1)⟩ st = .ok ⟨false, .dat (.int m.b)⟩ st := Eq.trans rfl rfl
theorem eM_i2 {f g : Bool} {m : M4} {st : Store} : ixV ⟨f, .dat (eM m)⟩ ⟨g, .dat (.int 2)⟩ st = .ok ⟨false, .dat (.int m.c)⟩ st := Eq.trans rfl rfl
theorem eM_i3 {f g : Bool} {m : M4} {st : Store} : ixV ⟨f, .dat (eM m)⟩ ⟨g, .dat (.int 3)⟩ st = .ok ⟨false, .dat (.int m.d)⟩ st := Eq.trans rfl rfl
theorem eM_bt {ts : Tgs} {m : M4} {env : MP.Env} : bindTg (.tup ts) (eM m) env = bindTgs ts [.int m.a, .int m.b, .int m.c, .int m.d] env := Eq.trans rfl rfl
theorem eM_inj {m n : M4} : eM m = eM n ↔ m = n := by
  obtain ⟨a, b, c, d⟩ := m
  obtain ⟨e, f, g, h⟩ := n
  simp [eM]
theorem eM_fl (m : M4) : Fl 1 (eM m) := .tup (.cons (.int _) (.cons (.int _) (.cons (.int _) (.cons (.int _) .nil))))
@[simp] theorem eq_eM (a b : M4) : cmpD .eq (eM a) (eM b) = some (decide (a = b)) := (eM_fl a).eq (eM_fl b) (by decide) (by decide) eM_inj
@[simp] theorem ne_eM (a b : M4) : cmpD .ne (eM a) (eM b) = some (!decide (a = b)) := (eM_fl a).ne (eM_fl b) (by decide) (by decide) eM_inj
theorem lM_fl (q : List M4) : Fl 2 (.list (q.map eM)) := .lst (.map fun a _ => eM_fl a)
theorem lM_inj {a b : List M4} : PyData.list (a.map eM) = .list (b.map eM) ↔ a = b := by
  rw [PyData.list.injEq]
  exact map_inj (fun _ _ => eM_inj) a b
@[simp] theorem eq_lM (a b : List M4) : cmpD .eq (.list (a.map eM)) (.list (b.map eM)) = some (decide (a = b)) := (lM_fl a).eq (lM_fl b) (by decide) (by decide) lM_inj
@[simp] theorem ne_lM (a b : List M4) : cmpD .ne (.list (a.map eM)) (.list (b.map eM)) = some (!decide (a = b)) := (lM_fl a).ne (lM_fl b) (by decide) (by decide) lM_inj
theorem eM_sz {b : Nat} {m : M4} (h : BdM b m) (hb : b ≤ 1900) : Sz 1 (4 * b + 19) (eM m) :=
  (Sz.tup (.cons (.int h.1 hb) (.cons (.int h.2.1 hb) (.cons (.int h.2.2.1 hb) (.cons (.int h.2.2.2 hb) (Szs.nil (k := 0) (w := 0))))))).up (by omega) (by omega)
end
section
/-! how often a prime divides an integer -/
structure Pr (p : Int) : Prop where
  two : 2 ≤ p
  dv : ∀ a b : Int, p ∣ a * b → p ∣ a ∨ p ∣ b
theorem Pr.of {p : Nat} (h2 : 2 ≤ p) (h : ∀ d, d ∣ p → d = 1 ∨ d = p) : Pr (p : Int) := by
  refine ⟨by omega, fun a b hd => ?_⟩
  rcases h (Int.gcd a p) (Int.ofNat_dvd.mp (Int.gcd_dvd_right ..)) with e | e
  · right
    have hd : a.natAbs * b.natAbs = a.natAbs * b.natAbs := rfl
    have h1 : p ∣ a.natAbs * b.natAbs := by
      rw [← Int.natAbs_mul]
      exact Int.natAbs_dvd_natAbs.mpr ‹(p : Int) ∣ a * b›
    have h3 : Nat.gcd p a.natAbs = 1 := by
      rw [Nat.gcd_comm]
      exact e
    exact Int.natAbs_dvd_natAbs.mp (by simpa using Nat.Coprime.dvd_of_dvd_mul_left h3 h1)
  · left
    have : ((Int.gcd a p : Nat) : Int) ∣ a := Int.gcd_dvd_left ..
    rw [e] at this
    exact this
theorem pr_small {p : Nat} (h2 : 2 ≤ p) (h : (List.range (p + 1)).all (fun d => decide (p % d ≠ 0 ∨ d = 1 ∨ d = p)) = true) : Pr (p : Int) := by
  refine Pr.of h2 fun d hd => ?_
  have hl : d ≤ p := Nat.le_of_dvd (by omega) hd
  have := List.all_eq_true.mp h d (List.mem_range.mpr (by omega))
  have := of_decide_eq_true this
  have e : p % d = 0 := Nat.mod_eq_zero_of_dvd hd
  omega
def vf (p : Int) : Nat → Int → Nat
  | 0, _ => 0
  | f + 1, n => if n % p = 0 then vf p f (n / p) + 1 else 0
def vl (p n : Int) : Nat := vf p n.natAbs n
theorem div_lt {p n : Int} (hp : 2 ≤ p) (hn : n ≠ 0) (hd : p ∣ n) : (n / p).natAbs < n.natAbs ∧ n / p ≠ 0 ∧ n = p * (n / p) := by
  obtain ⟨m, rfl⟩ := hd
  have e : p * m / p = m := Int.mul_ediv_cancel_left _ (by omega)
  rw [e]
  have hm : m ≠ 0 := fun q => hn (by rw [q, Int.mul_zero])
  refine ⟨?_, hm, rfl⟩
  rw [Int.natAbs_mul]
  have : 2 * m.natAbs ≤ p.natAbs * m.natAbs := Nat.mul_le_mul_right _ (by omega)
  omega
theorem vf_spec {p : Int} (hp : 2 ≤ p) : ∀ (f : Nat) (n : Int), n ≠ 0 → n.natAbs ≤ f → ∃ m, n = p ^ vf p f n * m ∧ ¬ p ∣ m
  | 0, n, hn, hf => by omega
  | f + 1, n, hn, hf => by
    unfold vf
    by_cases h : n % p = 0
    · rw [if_pos h]
      obtain ⟨h1, h2, h3⟩ := div_lt hp hn (Int.dvd_of_emod_eq_zero h)
      obtain ⟨m, e, hm⟩ := vf_spec hp f (n / p) h2 (by omega)
      refine ⟨m, ?_, hm⟩
      rw [Int.pow_succ]
      conv => lhs; rw [h3, e]
      ac_rfl
    · rw [if_neg h]
      exact ⟨n, by simp, fun d => h (Int.emod_eq_zero_of_dvd d)⟩
theorem vl_spec {p n : Int} (hp : 2 ≤ p) (hn : n ≠ 0) : ∃ m, n = p ^ vl p n * m ∧ ¬ p ∣ m := vf_spec hp _ n hn (Nat.le_refl _)
theorem pow_ne {p : Int} (hp : 2 ≤ p) (k : Nat) : p ^ k ≠ 0 := Int.pow_ne_zero (by omega)
theorem vl_le {p n : Int} (hp : 2 ≤ p) (hn : n ≠ 0) {k : Nat} : p ^ k ∣ n ↔ k ≤ vl p n := by
  obtain ⟨m, e, hm⟩ := vl_spec hp hn
  constructor
  · rintro ⟨x, hx⟩
    refine Classical.byContradiction fun q => hm ?_
    obtain ⟨j, hj⟩ : ∃ j, k = vl p n + (j + 1) := ⟨k - vl p n - 1, by omega⟩
    have e2 : p ^ vl p n * m = p ^ vl p n * (p ^ (j + 1) * x) := by
      rw [← e, ← Int.mul_assoc, ← Int.pow_add, ← hj]
      exact hx
    have e3 := Int.eq_of_mul_eq_mul_left (pow_ne hp _) e2
    rw [e3, Int.pow_succ]
    exact ⟨p ^ j * x, by ac_rfl⟩
  · intro h
    obtain ⟨j, hj⟩ : ∃ j, vl p n = k + j := ⟨vl p n - k, by omega⟩
    rw [hj, Int.pow_add] at e
    exact ⟨p ^ j * m, by rw [← Int.mul_assoc]; exact e⟩
theorem vl_uniq {p n m : Int} {k : Nat} (hp : 2 ≤ p) (hn : n ≠ 0) (e : n = p ^ k * m) (hm : ¬ p ∣ m) : vl p n = k := by
  have h1 : k ≤ vl p n := (vl_le hp hn).mp ⟨m, e⟩
  refine Nat.le_antisymm ?_ h1
  refine Classical.byContradiction fun q => hm ?_
  have h2 : p ^ (k + 1) ∣ n := (vl_le hp hn).mpr (by omega)
  obtain ⟨x, hx⟩ := h2
  rw [Int.pow_succ, Int.mul_assoc] at hx
  rw [e] at hx
  exact ⟨x, Int.eq_of_mul_eq_mul_left (pow_ne hp k) hx⟩
theorem vl_mul {p a b : Int} (hp : Pr p) (ha : a ≠ 0) (hb : b ≠ 0) : vl p (a * b) = vl p a + vl p b := by
  obtain ⟨x, e1, h1⟩ := vl_spec hp.two ha
  obtain ⟨y, e2, h2⟩ := vl_spec hp.two hb
  refine vl_uniq hp.two (Int.mul_ne_zero ha hb) (m := x * y) ?_ fun q => (hp.dv x y q).elim h1 h2
  rw [Int.pow_add]
  conv => lhs; rw [e1, e2]
  ac_rfl
theorem vl_pow {p : Int} (hp : 2 ≤ p) (k : Nat) : vl p (p ^ k) = k := vl_uniq hp (pow_ne hp k) (m := 1) (by simp) fun ⟨x, hx⟩ => by
  have := Int.natAbs_mul p x
  rw [← hx] at this
  have h1 : p.natAbs ∣ 1 := ⟨x.natAbs, this⟩
  have := Nat.dvd_one.mp h1
  omega
theorem vl_neg {p n : Int} (hp : 2 ≤ p) (hn : n ≠ 0) : vl p (-n) = vl p n := by
  obtain ⟨m, e, hm⟩ := vl_spec hp hn
  refine vl_uniq hp (by omega) (m := -m) ?_ fun q => hm ((Int.dvd_neg).mp q)
  rw [Int.mul_neg, ← e]
end
local macro_rules | `(tactic| simp! [$ls,*]) => `(tactic| simp only [$ls,*, eP_i0, eP_i1, eP_bt, eM_i0, eM_i1, eM_i2, eM_i3, eM_bt, eq_eP, ne_eP, eq_lP, ne_lP, eq_eM, ne_eM, eq_lM, ne_lM, cmp_strN, cmp_strE, ev_var, ev_cst, ev_glob, ev_neg, ev_not, ev_bin, ev_cmp, ev_chain, ev_and, ev_or, ev_ite, ev_tup, ev_lst, ev_ix, ev_slice, ev_rev, ev_call, ev_blt, ev_isi, ev_dicn, ev_dhasT, ev_dhasF, ev_dget, ev_dsort, ev_dixl, ev_revc, ev_cntL, ev_lrng1, ev_lrng2, blt_intB, es_dput, dgT_o, dpT_o, dgR_s, dxR_s, er_dhas, er_dget, er_dsort, er_dixl, ev_comp, ev_compF, ev_comp2, ev_comp2F, evA_n, evA_c, evA_s, evV_n, evV_c, evP_n, evP_c, evO_n, evO_s, evC_n, evC_s, evI_s, evI_1, evI_2, evI_3, evI_e, evI_z, listOf_l, zipD_l, zipD_t, es_pass, es_exp, es_set, es_setO, es_setT, es_par, es_parO, ownOf_t, evR_n, evR_f, evR_t, pS_n, pS_c, es_ite, es_whil, es_for, es_brk, es_cnt, es_frz, ess_n, ess_c, er_var, er_cst, er_glob, er_neg, er_not, er_bin, er_cmp, er_chain, er_and, er_or, er_ite, er_tup, er_lst, er_ix, er_slice, er_rev, er_call, er_blt, er_isi, er_comp, appR_o, augR_a, augR_s, frzR_o, varR_v, varR_o, retR_o, retR_v, ixR_s, ix_l, ix_t, bT_ok, sT_ok, qT_nx, qT_rt, qT_br, qT_ct, qT_ex, bT_exc, sT_exc, tT_ex, es_rais, es_try, es_tryY, optS_s, zT_nx, zT_rt, zT_ex, yT_nx, yT_rt, yT_br, yT_ct, yT_ex, es_clr, clrR_o, Cb_t, Cb_f, oT_s, tT_nx, tT_ct, tT_br, tT_rt, turn_nx, turn_ct, turn_br, turn_rt, datOf_dat, intOf_int, boolOf_bool, plain_eq, fresh_eq, ofBD_some, ofB_some, rOpt_some, seqOf_l, seqOf_t, lit_int, lit_str, lit_bool, lit_none, wp_ok, wp_bind, wps_sr, wps_seq, wps_tT, wps_nx, wps_rt, wps_br, wps_ct, List.getElem?_cons_zero, List.getElem?_cons_succ, List.set_cons_zero, List.set_cons_succ, List.map_cons, List.map_nil, Nat.reduceSub, List.replicate_succ, List.replicate_zero, List.cons_append, List.nil_append, List.append_nil, putVals, bt_nm, bt_t, bt_l, btT_s, bts_n, bts_c, wipeE, bin_int_add, bin_int_sub, cmp_int_eq, cmp_int_ne, cmp_int_lt, cmp_int_le, cmp_int_gt, cmp_int_ge, ix_0, ix_1, ix_2, ix_3, ix_4, ix_5, ix_6, ix_7, ix_m1, blt_absI, blt_intI, blt_tupL, blt_tupT, blt_lstL, blt_lstT, blt_lenL, blt_lenT, blt_lenLm, blt_lenTm, blt_min2, blt_max2, blt_min3, blt_max3, isi_n, isi_b, isi_i, isi_s, isi_l, isi_t, fits_0, fits_1, fits_2, fits_3, fits_4, fits_5, fits_6, fits_7, fits_8, fits_9, fits_10, fits_11, fits_12, fits_13, fits_14, fits_15, fits_16, fitsS_0, fitsS_1, fitsS_2, fitsS_3, fitsS_4, List.length_cons, List.length_nil, Nat.zero_add, Nat.reduceAdd, Bool.not_true, Bool.not_false, decide_true, decide_false, Int.reduceNeg, Int.reduceSub, Int.reduceAdd, Int.reduceLT, Int.reduceLE, Int.reduceEq, Int.reduceMul])
local macro_rules | `(tactic| simp!) => `(tactic| simp only [eP_i0, eP_i1, eP_bt, eM_i0, eM_i1, eM_i2, eM_i3, eM_bt, eq_eP, ne_eP, eq_lP, ne_lP, eq_eM, ne_eM, eq_lM, ne_lM, cmp_strN, cmp_strE, ev_var, ev_cst, ev_glob, ev_neg, ev_not, ev_bin, ev_cmp, ev_chain, ev_and, ev_or, ev_ite, ev_tup, ev_lst, ev_ix, ev_slice, ev_rev, ev_call, ev_blt, ev_isi, ev_dicn, ev_dhasT, ev_dhasF, ev_dget, ev_dsort, ev_dixl, ev_revc, ev_cntL, ev_lrng1, ev_lrng2, blt_intB, es_dput, dgT_o, dpT_o, dgR_s, dxR_s, er_dhas, er_dget, er_dsort, er_dixl, ev_comp, ev_compF, ev_comp2, ev_comp2F, evA_n, evA_c, evA_s, evV_n, evV_c, evP_n, evP_c, evO_n, evO_s, evC_n, evC_s, evI_s, evI_1, evI_2, evI_3, evI_e, evI_z, listOf_l, zipD_l, zipD_t, es_pass, es_exp, es_set, es_setO, es_setT, es_par, es_parO, ownOf_t, evR_n, evR_f, evR_t, pS_n, pS_c, es_ite, es_whil, es_for, es_brk, es_cnt, es_frz, ess_n, ess_c, er_var, er_cst, er_glob, er_neg, er_not, er_bin, er_cmp, er_chain, er_and, er_or, er_ite, er_tup, er_lst, er_ix, er_slice, er_rev, er_call, er_blt, er_isi, er_comp, appR_o, augR_a, augR_s, frzR_o, varR_v, varR_o, retR_o, retR_v, ixR_s, ix_l, ix_t, bT_ok, sT_ok, qT_nx, qT_rt, qT_br, qT_ct, qT_ex, bT_exc, sT_exc, tT_ex, es_rais, es_try, es_tryY, optS_s, zT_nx, zT_rt, zT_ex, yT_nx, yT_rt, yT_br, yT_ct, yT_ex, es_clr, clrR_o, Cb_t, Cb_f, oT_s, tT_nx, tT_ct, tT_br, tT_rt, turn_nx, turn_ct, turn_br, turn_rt, datOf_dat, intOf_int, boolOf_bool, plain_eq, fresh_eq, ofBD_some, ofB_some, rOpt_some, seqOf_l, seqOf_t, lit_int, lit_str, lit_bool, lit_none, wp_ok, wp_bind, wps_sr, wps_seq, wps_tT, wps_nx, wps_rt, wps_br, wps_ct, List.getElem?_cons_zero, List.getElem?_cons_succ, List.set_cons_zero, List.set_cons_succ, List.map_cons, List.map_nil, Nat.reduceSub, List.replicate_succ, List.replicate_zero, List.cons_append, List.nil_append, List.append_nil, putVals, bt_nm, bt_t, bt_l, btT_s, bts_n, bts_c, wipeE, bin_int_add, bin_int_sub, cmp_int_eq, cmp_int_ne, cmp_int_lt, cmp_int_le, cmp_int_gt, cmp_int_ge, ix_0, ix_1, ix_2, ix_3, ix_4, ix_5, ix_6, ix_7, ix_m1, blt_absI, blt_intI, blt_tupL, blt_tupT, blt_lstL, blt_lstT, blt_lenL, blt_lenT, blt_lenLm, blt_lenTm, blt_min2, blt_max2, blt_min3, blt_max3, isi_n, isi_b, isi_i, isi_s, isi_l, isi_t, fits_0, fits_1, fits_2, fits_3, fits_4, fits_5, fits_6, fits_7, fits_8, fits_9, fits_10, fits_11, fits_12, fits_13, fits_14, fits_15, fits_16, fitsS_0, fitsS_1, fitsS_2, fitsS_3, fitsS_4, List.length_cons, List.length_nil, Nat.zero_add, Nat.reduceAdd, Bool.not_true, Bool.not_false, decide_true, decide_false, Int.reduceNeg, Int.reduceSub, Int.reduceAdd, Int.reduceLT, Int.reduceLE, Int.reduceEq, Int.reduceMul])
section
theorem raised_cases {p : Int} (h : P4 p) (n : Nat) (hn : n ≤ 2) : Bd 6 (p ^ n) ∧ p ^ n ≠ 0 := by
  have : n = 0 ∨ n = 1 ∨ n = 2 := by omega
  rcases this with rfl | rfl | rfl <;> rcases h with rfl | rfl | rfl | rfl <;> (unfold Bd; decide)
theorem bd1 (k : Nat) : Bd (k + 1) 1 := by
  unfold Bd
  rw [Nat.pow_succ]
  have := Nat.two_pow_pos k
  omega
theorem bds {k : Nat} {i : Int} (h : i.natAbs < 2 ^ k) : Bd k i := h
theorem bdM {k : Nat} {a b c d : Int} (ha : Bd k a) (hb : Bd k b) (hc : Bd k c) (hd : Bd k d) : BdM k ⟨a, b, c, d⟩ := ⟨ha, hb, hc, hd⟩
end
section
/-! the group of moves -/
theorem nf_uniq {x y : M4} {u v : Int} (hx : NFM x) (hy : NFM y) (hu : u ≠ 0) (hv : v ≠ 0) (h : scl u x = scl v y) : x = y := by
  have g : u.natAbs = v.natAbs := by
    have e := congrArg gcd4 h
    rw [gcd4_scl, gcd4_scl, hx.1, hy.1] at e
    omega
  have f : u * fst4 x = v * fst4 y := by
    rw [← fst4_scl hu, ← fst4_scl hv, h]
  have e : u = v := by
    rcases Int.natAbs_eq_natAbs_iff.mp g with e | e
    · exact e
    · exfalso
      have h1 := hx.2
      have h2 := hy.2
      rw [e, Int.neg_mul] at f
      rcases Int.lt_trichotomy v 0 with q | q | q
      · have := Int.mul_neg_of_neg_of_pos q h1
        have := Int.mul_neg_of_neg_of_pos q h2
        omega
      · exact hv q
      · have := Int.mul_pos q h1
        have := Int.mul_pos q h2
        omega
  subst e
  have c : ∀ {a b : Int}, u * a = u * b → a = b := fun q => Int.eq_of_mul_eq_mul_left hu q
  have h1 := congrArg M4.a h
  have h2 := congrArg M4.b h
  have h3 := congrArg M4.c h
  have h4 := congrArg M4.d h
  exact M4.ext (c h1) (c h2) (c h3) (c h4)
theorem scl_scl (u v : Int) (x : M4) : scl u (scl v x) = scl (u * v) x := by simp [scl, Int.mul_assoc]
theorem one_scl (x : M4) : scl 1 x = x := by simp [scl]
theorem det_ne_scl {u : Int} {x : M4} (hu : u ≠ 0) (h : det4 x ≠ 0) : det4 (scl u x) ≠ 0 := by
  rw [det_scl]
  exact Int.mul_ne_zero (Int.mul_ne_zero hu hu) h
theorem nm_scl {u : Int} {x : M4} (hu : u ≠ 0) (h : det4 x ≠ 0) : nm (scl u x) = nm x := by
  have h2 := det_ne_scl hu h
  refine nf_uniq (u := sc4 (scl u x)) (v := u * sc4 x) (nm_nf (det_non0 h2)) (nm_nf (det_non0 h)) (sc4_ne (det_non0 h2)) (Int.mul_ne_zero hu (sc4_ne (det_non0 h))) ?_
  rw [nm_mul (det_non0 h2), ← scl_scl, nm_mul (det_non0 h)]
theorem nm_self {x : M4} (h : NFM x) (d : det4 x ≠ 0) : nm x = x := by
  refine nf_uniq (u := sc4 x) (v := 1) (nm_nf (det_non0 d)) h (sc4_ne (det_non0 d)) (by decide) ?_
  rw [nm_mul (det_non0 d), one_scl]
theorem mul_scl_l (u : Int) (x y : M4) : mulM (scl u x) y = scl u (mulM x y) := by
  simp only [mulM, scl, M4.mk.injEq]
  refine ⟨?_, ?_, ?_, ?_⟩ <;> grind
theorem mul_scl_r (u : Int) (x y : M4) : mulM x (scl u y) = scl u (mulM x y) := by
  simp only [mulM, scl, M4.mk.injEq]
  refine ⟨?_, ?_, ?_, ?_⟩ <;> grind
theorem adj_scl (u : Int) (x : M4) : adj (scl u x) = scl u (adj x) := by simp [adj, scl, Int.mul_neg]
theorem mul_assoc4 (x y z : M4) : mulM (mulM x y) z = mulM x (mulM y z) := by
  simp only [mulM, M4.mk.injEq]
  refine ⟨?_, ?_, ?_, ?_⟩ <;> grind
theorem mul_adj (x : M4) : mulM x (adj x) = scl (det4 x) ⟨1, 0, 0, 1⟩ := by
  simp only [mulM, scl, adj, det4, M4.mk.injEq]
  refine ⟨?_, ?_, ?_, ?_⟩ <;> grind
theorem adj_mulM (x : M4) : mulM (adj x) x = scl (det4 x) ⟨1, 0, 0, 1⟩ := by
  simp only [mulM, scl, adj, det4, M4.mk.injEq]
  refine ⟨?_, ?_, ?_, ?_⟩ <;> grind
theorem adj_adj (x : M4) : adj (adj x) = x := by simp [adj]
theorem adj_mul (x y : M4) : adj (mulM x y) = mulM (adj y) (adj x) := by
  simp only [mulM, adj, M4.mk.injEq]
  refine ⟨?_, ?_, ?_, ?_⟩ <;> grind
theorem mul_one4 (x : M4) : mulM x ⟨1, 0, 0, 1⟩ = x := by simp [mulM]
theorem one_mul4 (x : M4) : mulM ⟨1, 0, 0, 1⟩ x = x := by simp [mulM]
theorem det_mul_ne {x y : M4} (hx : det4 x ≠ 0) (hy : det4 y ≠ 0) : det4 (mulM x y) ≠ 0 := by
  rw [det_mul]
  exact Int.mul_ne_zero hx hy
theorem det_adj_ne {x : M4} (hx : det4 x ≠ 0) : det4 (adj x) ≠ 0 := by
  rw [det_adj]
  exact hx
theorem nm_l {x y : M4} (hx : det4 x ≠ 0) (hy : det4 y ≠ 0) : nm (mulM (nm x) y) = nm (mulM x y) := by
  conv => rhs; rw [← nm_mul (det_non0 hx), mul_scl_l]
  rw [nm_scl (sc4_ne (det_non0 hx)) (det_mul_ne (det_nm hx) hy)]
theorem nm_r {x y : M4} (hx : det4 x ≠ 0) (hy : det4 y ≠ 0) : nm (mulM x (nm y)) = nm (mulM x y) := by
  conv => rhs; rw [← nm_mul (det_non0 hy), mul_scl_r]
  rw [nm_scl (sc4_ne (det_non0 hy)) (det_mul_ne hx (det_nm hy))]
theorem nm_adj {x : M4} (hx : det4 x ≠ 0) : nm (adj (nm x)) = nm (adj x) := by
  conv => rhs; rw [← nm_mul (det_non0 hx), adj_scl]
  rw [nm_scl (sc4_ne (det_non0 hx)) (det_adj_ne (det_nm hx))]
theorem one_nf : NFM ⟨1, 0, 0, 1⟩ := ⟨by decide, by decide⟩
theorem nm_one {u : Int} (hu : u ≠ 0) : nm (scl u ⟨1, 0, 0, 1⟩) = ⟨1, 0, 0, 1⟩ := by
  rw [nm_scl hu (by decide), nm_self one_nf (by decide)]
abbrev one4 : M4 := ⟨1, 0, 0, 1⟩
section
variable {j k l : Nat} {x y z : M4}
theorem aft_assoc (hx : det4 x ≠ 0) (hy : det4 y ≠ 0) (hz : det4 z ≠ 0) : aft (aft x y) z = aft x (aft y z) := by
  unfold aft
  rw [nm_l (det_mul_ne hx hy) hz, nm_r hx (det_mul_ne hy hz), mul_assoc4]
theorem aft_bk (hx : det4 x ≠ 0) : aft x (bk x) = one4 := by
  unfold aft bk
  rw [nm_r hx (det_adj_ne hx), mul_adj, nm_one hx]
theorem bk_aft (hx : det4 x ≠ 0) : aft (bk x) x = one4 := by
  unfold aft bk
  rw [nm_l (det_adj_ne hx) hx, adj_mulM, nm_one hx]
theorem aft_one (h : NFM x) (hx : det4 x ≠ 0) : aft x one4 = x := by
  unfold aft
  rw [mul_one4, nm_self h hx]
theorem one_aft (h : NFM x) (hx : det4 x ≠ 0) : aft one4 x = x := by
  unfold aft
  rw [one_mul4, nm_self h hx]
theorem bk_bk (h : NFM x) (hx : det4 x ≠ 0) : bk (bk x) = x := by
  unfold bk
  rw [nm_adj (det_adj_ne hx), adj_adj, nm_self h hx]
theorem bk_of_aft (hx : det4 x ≠ 0) (hy : det4 y ≠ 0) : bk (aft x y) = aft (bk y) (bk x) := by
  unfold bk aft
  rw [nm_adj (det_mul_ne hx hy), adj_mul, nm_l (det_adj_ne hy) (det_nm (det_adj_ne hx)), nm_r (det_adj_ne hy) (det_adj_ne hx)]
theorem aft_d (hx : det4 x ≠ 0) (hy : det4 y ≠ 0) : det4 (aft x y) ≠ 0 := det_nm (det_mul_ne hx hy)
theorem bk_d (hx : det4 x ≠ 0) : det4 (bk x) ≠ 0 := det_nm (det_adj_ne hx)
theorem aft_nf (hx : det4 x ≠ 0) (hy : det4 y ≠ 0) : NFM (aft x y) := nm_nf (det_non0 (det_mul_ne hx hy))
theorem bk_nf (hx : det4 x ≠ 0) : NFM (bk x) := nm_nf (det_non0 (det_adj_ne hx))
end
theorem GM.one : GM 1 one4 := ⟨⟨bd1 _, Bd.zero _, Bd.zero _, bd1 _⟩, by decide, one_nf⟩
end
section
def b_size_1 : Sms := (.cons (.ret (.bin .sub (.bin .mul (.var 1) (.var 4)) (.bin .mul (.var 2) (.var 3)))) .nil)
def b_size : Sms := (.cons (.setT (.cons (.nm 1) (.cons (.nm 2) (.cons (.nm 3) (.cons (.nm 4) .nil)))) (.var 0)) b_size_1)
def f_size : Fn := fnOf 1 5 b_size
def r_size : List Req := []
theorem q_size : rqSs b_size = ([] : List Nat).map fun i => r_size.getD i (.non "") := rfl
def b__law_size : Sms := (.cons (.ret (.bin .sub (.bin .mul (.ix (.var 0) (.cst (.int 0))) (.ix (.var 0) (.cst (.int 3)))) (.bin .mul (.ix (.var 0) (.cst (.int 1))) (.ix (.var 0) (.cst (.int 2)))))) .nil)
def f__law_size : Fn := fnOf 1 1 b__law_size
def r__law_size : List Req := []
theorem q__law_size : rqSs b__law_size = ([] : List Nat).map fun i => r__law_size.getD i (.non "") := rfl
def b__law_draw_grid_1 : Sms := (.cons (.ret (.ite (.cmp .gt (.call "_law_pick" f__law_pick (.cons (.var 0) (.cons (.cst (.int 3)) .nil))) (.cst (.int 0))) (.call "_law_move" f__law_move (.cons (.var 1) (.cons (.call "_law_pick" f__law_pick (.cons (.var 0) (.cons (.cst (.int 7)) .nil))) (.cons (.cst (.int 0)) (.cons (.var 2) .nil))))) (.call "_law_move" f__law_move (.cons (.var 1) (.cons (.cst (.int 1)) (.cons (.bin .mul (.var 1) (.cst (.int 2))) (.cons (.bin .add (.cst (.int 2)) (.var 2)) .nil))))))) .nil)
def b__law_draw_grid : Sms := (.cons (.setT (.cons (.nm 1) (.cons (.nm 2) .nil)) (.comp (.ix (.lst (.cons (.cst (.int 1)) (.cons (.cst (.int 2)) (.cons (.cst (.int 3)) (.cons (.cst (.int 4)) (.cons (.cst (.int 6)) (.cons (.cst (.int 9)) (.cons (.cst (.int 5)) (.cons (.cst (.int 14)) .nil))))))))) (.call "_law_pick" f__law_pick (.cons (.var 0) (.cons (.cst (.int 8)) .nil)))) [("_law_k", 3)] (.nm 3) (.rng1 (.cst (.int 2))) .non)) b__law_draw_grid_1)
def f__law_draw_grid : Fn := fnOf 1 4 b__law_draw_grid
def r__law_draw_grid : List Req := [.non "range", .fn "_law_pick" f__law_pick, .fn "_law_move" f__law_move]
theorem q__law_draw_grid : rqSs b__law_draw_grid = [0, 1, 1, 2, 1, 2].map fun i => r__law_draw_grid.getD i (.non "") := rfl
theorem size_ok {k : Nat} (m : M4) (st : Store) (h : BdM k m) (hk : k ≤ 8000) : f_size [.dat (eM m)] st = .ok ⟨false, .dat (.int (det4 m))⟩ st := by
  refine fn_eq rfl ?_
  simp! [b_size, b_size_1, bin_mul h.1 h.2.2.2 (by omega), bin_mul h.2.1 h.2.2.1 (by omega)]
  rfl
theorem law_size_ok {k : Nat} (m : M4) (st : Store) (h : BdM k m) (hk : k ≤ 8000) : f__law_size [.dat (eM m)] st = .ok ⟨false, .dat (.int (det4 m))⟩ st := by
  refine fn_eq rfl ?_
  simp! [b__law_size, bin_mul h.1 h.2.2.2 (by omega), bin_mul h.2.1 h.2.2.1 (by omega)]
  rfl
theorem det_bd {k : Nat} {m : M4} (h : BdM k m) : Bd (k + k + 1) (det4 m) := (h.1.mul h.2.2.2).sub' (h.2.1.mul h.2.2.1)
end
section
def b_is_number : Sms := (.cons (.ret (.and (.isi (.var 0) ["int"]) (.not (.isi (.var 0) ["bool"])))) .nil)
def f_is_number : Fn := fnOf 1 1 b_is_number
def b_is_row_of_numbers : Sms := (.cons (.ret (.and (.isi (.var 0) ["tuple"]) (.and (.cmp .eq (.blt .len (.cons (.var 0) .nil)) (.var 1)) (.blt .all (.cons (.comp (.call "is_number" f_is_number (.cons (.var 2) .nil)) [("one", 2)] (.nm 2) (.seq (.var 0)) .non) .nil))))) .nil)
def f_is_row_of_numbers : Fn := fnOf 2 3 b_is_row_of_numbers
/-! points -/
abbrev Pt := Int × Int
def far : Pt := (1, 0)
def pt (x y : Int) : Pt := if y = 0 then far else frac x y
def Nz (q : Pt) : Prop := q.1 ≠ 0 ∨ q.2 ≠ 0
def IsPt (q : Pt) : Prop := q = far ∨ NF q
theorem IsPt.nz {q : Pt} (h : IsPt q) : Nz q := by
  rcases h with rfl | h
  · exact .inl (by decide)
  · exact .inr (by have := h.1; omega)
theorem NF.frac {q : Pt} (h : NF q) : frac q.1 q.2 = q := by
  have h2 : q.2 ≠ 0 := by have := h.1; omega
  exact (NF_eq (frac_nf h2) h).mpr (frac_cross h2)
theorem IsPt.pt {q : Pt} (h : IsPt q) : pt q.1 q.2 = q := by
  rcases h with rfl | h
  · rfl
  · have h2 : q.2 ≠ 0 := by have := h.1; omega
    unfold MK.pt
    rw [if_neg h2]
    exact h.frac
def BdP (k : Nat) (q : Pt) : Prop := Bd k q.1 ∧ Bd k q.2
theorem BdP.up {k l : Nat} {q : Pt} (h : BdP k q) (hl : k ≤ l) : BdP l q := ⟨h.1.up hl, h.2.up hl⟩
/-- where a move leads a point -/
def ledU (m : M4) (q : Pt) : Int := m.a * q.1 + m.b * q.2
def ledL (m : M4) (q : Pt) : Int := m.c * q.1 + m.d * q.2
theorem isnum_ok (d : MP.D) (st : Store) : f_is_number [.dat d] st = .ok ⟨false, .dat (.bool (isA d "int" && !isA d "bool"))⟩ st := by
  refine fn_eq rfl ?_
  simp! [b_is_number, List.any_cons, List.any_nil, Bool.or_false]
  cases isA d "int" <;> simp! <;> simp
theorem isnum_int (i : Int) (st : Store) : f_is_number [.dat (.int i)] st = .ok ⟨false, .dat (.bool true)⟩ st := isnum_ok _ _
theorem isrow_ok (ds : List MP.D) (n : Int) (st : Store) (hl : ds.length ≤ 2 ^ 20) : f_is_row_of_numbers [.dat (.tuple ds), .dat (.int n)] st = .ok ⟨false, .dat (.bool (decide ((ds.length : Int) = n) && ds.all fun d => isA d "int" && !isA d "bool"))⟩ st := by
  refine Wp.is (wp_fn rfl ?_)
  simp! [b_is_row_of_numbers]
  by_cases h : (ds.length : Int) = n
  · simp! [decide_eq_true h, beq_self_eq_true]
    have e := wp_compM (st := st) (f := compF (.call "is_number" f_is_number (.cons (.var 2) .nil)) [("one", 2)] (.nm 2) .non [.val (.dat (.tuple ds)), .val (.dat (.int n)), .un]) (Q := fun l st' => l = ds.map (fun d => .bool (isA d "int" && !isA d "bool")) ∧ st' = st) id (fun d => .bool (isA d "int" && !isA d "bool")) (xs := ds) (fun d _ => by simp! [isnum_ok, id]; simp) (by omega) ⟨rfl, rfl⟩
    rw [List.map_id] at e
    refine e.mono ?_
    rintro _ _ ⟨rfl, rfl⟩
    have e2 : ∀ l : List MP.D, boolsOf (l.map fun d => .bool (isA d "int" && !isA d "bool")) = some (l.map fun d => isA d "int" && !isA d "bool") := fun l => by
      induction l with
      | nil => rfl
      | cons a l ih =>
        show (boolsOf (l.map fun d => .bool (isA d "int" && !isA d "bool"))).map _ = _
        rw [ih]
        rfl
    have e3 : bltF .all [.list (ds.map fun d => .bool (isA d "int" && !isA d "bool"))] = some (false, .bool (ds.all fun d => isA d "int" && !isA d "bool")) := by
      show (boolsOf _).map _ = _
      rw [e2]
      simp [List.all_map, Function.comp_def]
    simp! [e3]
    simp [Is, h]
  · simp! [decide_eq_false h, beq_self_eq_true]
    simp [Is, h]
theorem P4.pos {p : Int} (h : P4 p) : 2 ≤ p ∧ p ≤ 7 := by
  rcases h with rfl | rfl | rfl | rfl <;> decide
end
section
def b_in_form_3 : Sms := (.cons (.ret (.blt .tuple (.cons (.comp (.bin .fdiv (.var 3) (.var 1)) [("one", 3)] (.nm 3) (.seq (.var 0)) .non) .nil))) .nil)
def b_in_form_2 : Sms := (.cons (.set 1 false (.ite (.cmp .gt (.var 2) (.cst (.int 0))) (.var 1) (.neg (.var 1)))) b_in_form_3)
def b_in_form_1 : Sms := (.cons (.set 2 false (.ix (.comp (.var 3) [("one", 3)] (.nm 3) (.seq (.var 0)) (.som (.cmp .ne (.var 3) (.cst (.int 0))))) (.cst (.int 0)))) b_in_form_2)
def b_in_form : Sms := (.cons (.set 1 false (.blt .gcd (.cons (.ix (.var 0) (.cst (.int 0))) (.cons (.ix (.var 0) (.cst (.int 1))) (.cons (.ix (.var 0) (.cst (.int 2))) (.cons (.ix (.var 0) (.cst (.int 3))) .nil)))))) b_in_form_1)
def f_in_form : Fn := fnOf 1 4 b_in_form
def r_in_form : List Req := [.bltin "gcd" (.builtin "math.gcd"), .non "tuple"]
theorem q_in_form : rqSs b_in_form = [0, 1].map fun i => r_in_form.getD i (.non "") := rfl
def b_after_2 : Sms := (.cons (.ret (.call "in_form" f_in_form (.cons (.tup (.cons (.bin .add (.bin .mul (.var 2) (.var 6)) (.bin .mul (.var 3) (.var 8))) (.cons (.bin .add (.bin .mul (.var 2) (.var 7)) (.bin .mul (.var 3) (.var 9))) (.cons (.bin .add (.bin .mul (.var 4) (.var 6)) (.bin .mul (.var 5) (.var 8))) (.cons (.bin .add (.bin .mul (.var 4) (.var 7)) (.bin .mul (.var 5) (.var 9))) .nil))))) .nil))) .nil)
def b_after_1 : Sms := (.cons (.setT (.cons (.nm 6) (.cons (.nm 7) (.cons (.nm 8) (.cons (.nm 9) .nil)))) (.var 1)) b_after_2)
def b_after : Sms := (.cons (.setT (.cons (.nm 2) (.cons (.nm 3) (.cons (.nm 4) (.cons (.nm 5) .nil)))) (.var 0)) b_after_1)
def f_after : Fn := fnOf 2 10 b_after
def r_after : List Req := [.fn "in_form" f_in_form]
theorem q_after : rqSs b_after = [0].map fun i => r_after.getD i (.non "") := rfl
def b_back_1 : Sms := (.cons (.ret (.call "in_form" f_in_form (.cons (.tup (.cons (.var 4) (.cons (.neg (.var 2)) (.cons (.neg (.var 3)) (.cons (.var 1) .nil))))) .nil))) .nil)
def b_back : Sms := (.cons (.setT (.cons (.nm 1) (.cons (.nm 2) (.cons (.nm 3) (.cons (.nm 4) .nil)))) (.var 0)) b_back_1)
def f_back : Fn := fnOf 1 5 b_back
def r_back : List Req := [.fn "in_form" f_in_form]
theorem q_back : rqSs b_back = [0].map fun i => r_back.getD i (.non "") := rfl
theorem seqOf_eM (m : M4) : seqOf (eM m) = some ([m.a, m.b, m.c, m.d].map PyData.int) := Eq.trans rfl rfl
theorem first_ix {m : M4} (h0 : Non0 m) : ixD ([m.a, m.b, m.c, m.d].filterMap fun n => if n = 0 then none else some (PyData.int n)) 0 = some (.int (fst4 m)) := by
  unfold fst4
  by_cases ha : m.a = 0
  · by_cases hb : m.b = 0
    · by_cases hc : m.c = 0
      · have hd : m.d ≠ 0 := by rcases h0 with h | h | h | h <;> first | exact absurd ‹_› h | exact h
        simp [ha, hb, hc, hd]
      · simp [ha, hb, hc]
    · simp [ha, hb]
  · simp [ha]
theorem gcd4_eq (m : M4) : bltF .gcd [.int m.a, .int m.b, .int m.c, .int m.d] = some (false, .int (gcd4 m : Nat)) := by
  show some (false, PyData.int ((Nat.gcd (Nat.gcd (Nat.gcd m.a.natAbs m.b.natAbs) m.c.natAbs) m.d.natAbs : Nat) : Int)) = _
  rw [Nat.gcd_assoc (Nat.gcd m.a.natAbs m.b.natAbs)]
  rfl
theorem in_form_ok {k : Nat} (m : M4) (st : Store) (hb : BdM k m) (h0 : Non0 m) (hk : k ≤ 8000) : f_in_form [.dat (eM m)] st = .ok ⟨false, .dat (eM (nm m))⟩ st := by
  obtain ⟨h1, h2, h3, h4⟩ := hb
  have g1 := gcd_bdl h1 h2
  have g2 := gcd_bdl h3 h4
  have g3 : Bd k (gcd4 m : Nat) := gcd_bdl g1 g2
  have gs : Bd (k + 1) (sc4 m) := g3.mul (l := 1) (by rcases sgn1_cases (fst4 m) with e | e <;> rw [e] <;> unfold Bd <;> decide)
  have s0 := sc4_ne h0
  have q := fun i => bin_fdiv (i := i) gs s0 (by omega)
  refine Wp.is (wp_fn rfl ?_)
  simp! [b_in_form, gcd4_eq m, b_in_form_1, seqOf_eM]
  refine wp_compF (xs := [m.a, m.b, m.c, m.d]) PyData.int (fun n => if n = 0 then none else some (PyData.int n)) (fun n hn => ?_) (by simp) ?_
  · simp!
    by_cases hz : n = 0
    · simp! [decide_eq_true hz]
      simp [hz]
    · simp! [decide_eq_false hz]
      simp [hz]
  have sg : ∀ st : Store, (Cb (decide (0 < fst4 m)) (R.ok (⟨false, .dat (.int (gcd4 m : Nat))⟩ : RV) st) (.ok ⟨false, .dat (.int (-(gcd4 m : Nat)))⟩ st)) = .ok ⟨false, .dat (.int (sc4 m))⟩ st := fun st => by
    unfold sc4 sgn1
    by_cases hp : 0 < fst4 m
    · rw [decide_eq_true hp, if_pos hp, Int.mul_one]
      rfl
    · rw [decide_eq_false hp, if_neg hp, Int.mul_neg, Int.mul_one]
      rfl
  simp! [first_ix h0, b_in_form_2]
  have go : WpS (evSs b_in_form_3 [.val (.dat (eM m)), .val (.dat (.int (sc4 m))), .val (.dat (.int (fst4 m))), .un] st) ⟨fun _ st' => Is ⟨false, .dat (eM (nm m))⟩ st ⟨false, .dat .none⟩ st', Is ⟨false, .dat (eM (nm m))⟩ st, noO, noO⟩ := by
    simp! [b_in_form_3, seqOf_eM]
    refine wp_compM (xs := [m.a, m.b, m.c, m.d]) PyData.int (fun n => .int (n.fdiv (sc4 m))) (fun n hn => ?_) (by simp) ?_
    · simp! [q]
      simp
    · simp!
      exact ⟨rfl, rfl⟩
  by_cases hp : 0 < fst4 m
  · have e : sc4 m = gcd4 m := by
      unfold sc4 sgn1
      rw [if_pos hp, Int.mul_one]
    simp! [decide_eq_true hp]
    rw [e] at go
    exact go
  · have e : sc4 m = -(gcd4 m : Nat) := by
      unfold sc4 sgn1
      rw [if_neg hp, Int.mul_neg, Int.mul_one]
    simp! [decide_eq_false hp]
    rw [e] at go
    exact go
theorem after_ok {k l : Nat} (m n : M4) (st : Store) (hm : BdM k m) (hn : BdM l n) (dm : det4 m ≠ 0) (dn : det4 n ≠ 0) (hk : k + l + 1 ≤ 8000) : f_after [.dat (eM m), .dat (eM n)] st = .ok ⟨false, .dat (eM (aft m n))⟩ st := by
  obtain ⟨a1, a2, a3, a4⟩ := hm
  obtain ⟨b1, b2, b3, b4⟩ := hn
  have h := in_form_ok (mulM m n) st (mul_bd ⟨a1, a2, a3, a4⟩ ⟨b1, b2, b3, b4⟩) (det_non0 (det_mul_ne dm dn)) hk
  have w : ∀ {i j : Int}, Bd k i → Bd l j → bin .mul (.int i) (.int j) = some (false, .int (i * j)) := fun hi hj => bin_mul hi hj (by omega)
  have h : f_in_form [.dat (.tuple [.int (m.a * n.a + m.b * n.c), .int (m.a * n.b + m.b * n.d), .int (m.c * n.a + m.d * n.c), .int (m.c * n.b + m.d * n.d)])] st = .ok ⟨false, .dat (eM (aft m n))⟩ st := h
  refine fn_eq rfl ?_
  simp! [b_after, b_after_1, b_after_2, w a1 b1, w a1 b2, w a2 b3, w a2 b4, w a3 b1, w a3 b2, w a4 b3, w a4 b4, h]
theorem back_ok {k : Nat} (m : M4) (st : Store) (hm : BdM k m) (dm : det4 m ≠ 0) (hk : k ≤ 8000) : f_back [.dat (eM m)] st = .ok ⟨false, .dat (eM (bk m))⟩ st := by
  have h := in_form_ok (adj m) st (adj_bd hm) (det_non0 (det_adj_ne dm)) hk
  have h : f_in_form [.dat (.tuple [.int m.d, .int (-m.b), .int (-m.c), .int m.a])] st = .ok ⟨false, .dat (eM (bk m))⟩ st := h
  refine fn_eq rfl ?_
  simp! [b_back, b_back_1, h]
section
variable {k l : Nat} {m n : M4} {q : Pt}
theorem gA (h : GM k m) (q : GM l n) (st : Store) (hk : k + l + 1 ≤ 8000 := by decide) : f_after [.dat (eM m), .dat (eM n)] st = .ok ⟨false, .dat (eM (aft m n))⟩ st := after_ok m n st h.b q.b h.d q.d hk
theorem gB (h : GM k m) (st : Store) (hk : k ≤ 8000 := by decide) : f_back [.dat (eM m)] st = .ok ⟨false, .dat (eM (bk m))⟩ st := back_ok m st h.b h.d hk
theorem lA (h : GM k m) (q : GM l n) (st : Store) (hk : k + l + 1 ≤ 8000 := by decide) : f__law_after [.dat (eM m), .dat (eM n)] st = .ok ⟨false, .dat (eM (aft m n))⟩ st := law_after_ok m n st h.b q.b h.d q.d hk
theorem lB (h : GM k m) (st : Store) (hk : k ≤ 8000 := by decide) : f__law_back [.dat (eM m)] st = .ok ⟨false, .dat (eM (bk m))⟩ st := law_back_ok m st h.b h.d hk
end
end
section
/-! points led by moves one behind the other -/
/-! powers -/
section
variable {m o x y : M4}
structure Mv (m : M4) : Prop where
  d : det4 m ≠ 0
  f : NFM m
theorem GM.mv {k : Nat} (h : GM k m) : Mv m := ⟨h.d, h.f⟩
theorem Mv.one : Mv one4 := ⟨by decide, one_nf⟩
theorem Mv.aft (h : Mv x) (q : Mv y) : Mv (aft x y) := ⟨aft_d h.d q.d, aft_nf h.d q.d⟩
theorem Mv.bk (h : Mv x) : Mv (bk x) := ⟨bk_d h.d, bk_nf h.d⟩
theorem aft_cancel (h : Mv x) (q : Mv y) : MK.aft x (MK.aft (MK.bk x) y) = y := by rw [← aft_assoc h.d h.bk.d q.d, aft_bk h.d, one_aft q.f q.d]
theorem bk_cancel (h : Mv x) (q : Mv y) : MK.aft (MK.bk x) (MK.aft x y) = y := by rw [← aft_assoc h.bk.d h.d q.d, bk_aft h.d, one_aft q.f q.d]
end
end
section
def b__law_draw_whole_2 : Sms := (.cons (.ret (.var 1)) .nil)
def b__law_draw_whole_1a_2 : Sms := (.cons (.set 1 false (.call "_law_after" f__law_after (.cons (.var 1) (.cons (.ix (.var 4) (.call "_law_pick" f__law_pick (.cons (.var 0) (.cons (.cst (.int 4)) .nil)))) .nil)))) .nil)
def b__law_draw_whole_1a_1 : Sms := (.cons (.set 4 false (.lst (.cons (.tup (.cons (.cst (.int 1)) (.cons (.var 3) (.cons (.cst (.int 0)) (.cons (.cst (.int 1)) .nil))))) (.cons (.tup (.cons (.cst (.int 0)) (.cons (.cst (.int 1)) (.cons (.cst (.int 1)) (.cons (.var 3) .nil))))) (.cons (.tup (.cons (.cst (.int 1)) (.cons (.cst (.int 0)) (.cons (.cst (.int 0)) (.cons (.bin .sub (.cst (.int 0)) (.cst (.int 1))) .nil))))) (.cons (.tup (.cons (.cst (.int 1)) (.cons (.bin .sub (.cst (.int 0)) (.cst (.int 1))) (.cons (.cst (.int 1)) (.cons (.cst (.int 0)) .nil))))) .nil)))))) b__law_draw_whole_1a_2)
def b__law_draw_whole_1a : Sms := (.cons (.set 3 false (.bin .sub (.call "_law_pick" f__law_pick (.cons (.var 0) (.cons (.cst (.int 5)) .nil))) (.cst (.int 2)))) b__law_draw_whole_1a_1)
def b__law_draw_whole_1 : Sms := (.cons (.forr (.nm 2) (.rng1 (.bin .add (.cst (.int 1)) (.call "_law_pick" f__law_pick (.cons (.var 0) (.cons (.cst (.int 4)) .nil))))) b__law_draw_whole_1a) b__law_draw_whole_2)
def b__law_draw_whole : Sms := (.cons (.set 1 false (.tup (.cons (.cst (.int 1)) (.cons (.cst (.int 0)) (.cons (.cst (.int 0)) (.cons (.cst (.int 1)) .nil)))))) b__law_draw_whole_1)
def f__law_draw_whole : Fn := fnOf 1 5 b__law_draw_whole
def r__law_draw_whole : List Req := [.non "range", .fn "_law_pick" f__law_pick, .fn "_law_after" f__law_after]
theorem q__law_draw_whole : rqSs b__law_draw_whole = [0, 1, 1, 2, 1].map fun i => r__law_draw_whole.getD i (.non "") := rfl
def b_is_whole : Sms := (.cons (.ret (.cmp .isIn (.call "size" f_size (.cons (.var 0) .nil)) (.tup (.cons (.cst (.int 1)) (.cons (.neg (.cst (.int 1))) .nil))))) .nil)
def f_is_whole : Fn := fnOf 1 1 b_is_whole
def r_is_whole : List Req := [.fn "size" f_size]
theorem q_is_whole : rqSs b_is_whole = [0].map fun i => r_is_whole.getD i (.non "") := rfl
def b_is_same_grid : Sms := (.cons (.ret (.call "is_whole" f_is_whole (.cons (.call "after" f_after (.cons (.call "back" f_back (.cons (.var 0) .nil)) (.cons (.var 1) .nil))) .nil))) .nil)
def f_is_same_grid : Fn := fnOf 2 2 b_is_same_grid
def r_is_same_grid : List Req := [.fn "is_whole" f_is_whole, .fn "after" f_after, .fn "back" f_back]
theorem q_is_same_grid : rqSs b_is_same_grid = [0, 1, 2].map fun i => r_is_same_grid.getD i (.non "") := rfl
def b__law_is_whole : Sms := (.cons (.ret (.cmp .isIn (.call "_law_size" f__law_size (.cons (.var 0) .nil)) (.tup (.cons (.cst (.int 1)) (.cons (.bin .sub (.cst (.int 0)) (.cst (.int 1))) .nil))))) .nil)
def f__law_is_whole : Fn := fnOf 1 1 b__law_is_whole
def r__law_is_whole : List Req := [.fn "_law_size" f__law_size]
theorem q__law_is_whole : rqSs b__law_is_whole = [0].map fun i => r__law_is_whole.getD i (.non "") := rfl
theorem cmp_in_t {x : MP.D} {ys : List MP.D} : cmpD .isIn x (.tuple ys) = bif shp x && shp (.tuple ys) then some (ys.any fun z => PyData.eqv z x) else none := by cases x <;> rfl
def whB (m : M4) : Bool := decide (det4 m = 1 ∨ det4 m = -1)
theorem in_pm (d : Int) : cmpD .isIn (.int d) (.tuple [.int 1, .int (-1)]) = some (decide (d = 1 ∨ d = -1)) := by
  rw [cmp_in_t, shp_int, Fl.shp (k := 1) (.tup (.cons (.int _) (.cons (.int _) .nil))) (by decide)]
  show some _ = some _
  congr 1
  simp only [List.any_cons, List.any_nil, eqv_int, Bool.or_false, eq_comm, Bool.decide_or]
def tb (t m : M4) : M4 := aft (bk t) (aft m t)
theorem is_whole_ok {k : Nat} {m : M4} (st : Store) (h : GM k m) (hk : k ≤ 8000 := by decide) : f_is_whole [.dat (eM m)] st = .ok ⟨false, .dat (.bool (whB m))⟩ st := by
  refine fn_eq rfl ?_
  simp! [b_is_whole, size_ok m st h.b hk, in_pm]
  rfl
theorem law_is_whole_ok {k : Nat} {m : M4} (st : Store) (h : GM k m) (hk : k ≤ 8000 := by decide) : f__law_is_whole [.dat (eM m)] st = .ok ⟨false, .dat (.bool (whB m))⟩ st := by
  refine fn_eq rfl ?_
  simp! [b__law_is_whole, law_size_ok m st h.b hk, in_pm]
  rfl
theorem same_grid_ok {k l : Nat} {t u : M4} (st : Store) (ht : GM k t) (hu : GM l u) (hk : k + l + 1 ≤ 8000 := by decide) : f_is_same_grid [.dat (eM t), .dat (eM u)] st = .ok ⟨false, .dat (.bool (whB (aft (bk t) u)))⟩ st := by
  refine fn_eq rfl ?_
  simp! [b_is_same_grid, gB ht st (by omega), gA ht.bk hu st hk, is_whole_ok st (ht.bk.aft hu) hk]
end
section
/-! any values: what is looked at, and told by repr -/
def goodB : MP.D → Bool
  | .tuple ds => showOk (.tuple ds) && (decide (ds.length ≤ 100) && ds.all fun x => match x with
    | .int i => decide (i.natAbs < 2 ^ 110)
    | _ => true)
  | d => showOk d
structure GV (d : MP.D) : Prop where
  s : showOk d = true
  t : ∀ ds, d = .tuple ds → ds.length ≤ 100 ∧ ∀ i, .int i ∈ ds → Bd 110 i
theorem GV.of {d : MP.D} (h : goodB d = true) : GV d := by
  cases d with
  | tuple ds =>
    simp only [goodB, Bool.and_eq_true, decide_eq_true_eq, List.all_eq_true] at h
    obtain ⟨h1, h2, h5⟩ := h
    refine ⟨h1, fun es e => ?_⟩
    cases e
    exact ⟨h2, fun i hi => bds (of_decide_eq_true (h5 _ hi))⟩
  | _ => exact ⟨h, fun es e => by cases e⟩
structure El (d : MP.D) : Prop where
  s : Sz 2 120 d
  i : ∀ i, d = .int i → Bd 110 i
theorem El.int {i : Int} (h : Bd 110 i) : El (.int i) := ⟨(Sz.int h (by decide)).up (by decide) (by decide), fun j e => by cases e; exact h⟩
theorem els {ds : List MP.D} (h : ∀ d ∈ ds, El d) : Szs 2 (122 * ds.length) ds := by
  have := Szs.map (f := id) (l := ds) (k := 2) (w := 120) fun d hd => (h d hd).s
  rwa [List.map_id] at this
theorem GV.tup {ds : List MP.D} (h : ∀ d ∈ ds, El d) (hl : ds.length ≤ 30) : GV (.tuple ds) := by
  have q := els h
  have s := (Sz.tup q).up (k := 3) (l := 3) (u := 10000) (by decide) (by omega)
  refine ⟨showOk_of s.o (Nat.le_trans s.z (by decide)) (Nat.le_trans s.w (by decide)), fun es e => ?_⟩
  cases e
  exact ⟨by omega, fun i hi => (h _ hi).i i rfl⟩
theorem GV.lst {ds : List MP.D} (h : ∀ d ∈ ds, El d) (hl : ds.length ≤ 30) : GV (.list ds) := by
  have q := els h
  have s := (Sz.lst q).up (k := 3) (l := 3) (u := 10000) (by decide) (by omega)
  exact ⟨showOk_of s.o (Nat.le_trans s.z (by decide)) (Nat.le_trans s.w (by decide)), fun es e => by cases e⟩
theorem GV.repr {d : MP.D} (h : GV d) : bltF .repr [d] = some (false, .str d.shown) := blt_repr h.s
end
section
def b_fraction_1 : Sms := (.cons (.ret (.tup (.cons (.bin .fdiv (.var 0) (.var 2)) (.cons (.bin .fdiv (.var 1) (.var 2)) .nil)))) .nil)
def b_fraction : Sms := (.cons (.set 2 false (.ite (.cmp .gt (.var 1) (.cst (.int 0))) (.blt .gcd (.cons (.var 0) (.cons (.var 1) .nil))) (.neg (.blt .gcd (.cons (.var 0) (.cons (.var 1) .nil)))))) b_fraction_1)
def f_fraction : Fn := fnOf 2 3 b_fraction
def b_is_fraction : Sms := (.cons (.ret (.and (.call "is_row_of_numbers" f_is_row_of_numbers (.cons (.var 0) (.cons (.cst (.int 2)) .nil))) (.and (.cmp .gt (.ix (.var 0) (.cst (.int 1))) (.cst (.int 0))) (.cmp .eq (.blt .gcd (.cons (.ix (.var 0) (.cst (.int 0))) (.cons (.ix (.var 0) (.cst (.int 1))) .nil))) (.cst (.int 1)))))) .nil)
def f_is_fraction : Fn := fnOf 1 1 b_is_fraction
def b_plus : Sms := (.cons (.ret (.call "fraction" f_fraction (.cons (.bin .add (.bin .mul (.ix (.var 0) (.cst (.int 0))) (.ix (.var 1) (.cst (.int 1)))) (.bin .mul (.ix (.var 1) (.cst (.int 0))) (.ix (.var 0) (.cst (.int 1))))) (.cons (.bin .mul (.ix (.var 0) (.cst (.int 1))) (.ix (.var 1) (.cst (.int 1)))) .nil)))) .nil)
def f_plus : Fn := fnOf 2 2 b_plus
def b_minus : Sms := (.cons (.ret (.call "fraction" f_fraction (.cons (.bin .sub (.bin .mul (.ix (.var 0) (.cst (.int 0))) (.ix (.var 1) (.cst (.int 1)))) (.bin .mul (.ix (.var 1) (.cst (.int 0))) (.ix (.var 0) (.cst (.int 1))))) (.cons (.bin .mul (.ix (.var 0) (.cst (.int 1))) (.ix (.var 1) (.cst (.int 1)))) .nil)))) .nil)
def f_minus : Fn := fnOf 2 2 b_minus
def b_times_of : Sms := (.cons (.ret (.call "fraction" f_fraction (.cons (.bin .mul (.ix (.var 0) (.cst (.int 0))) (.ix (.var 1) (.cst (.int 0)))) (.cons (.bin .mul (.ix (.var 0) (.cst (.int 1))) (.ix (.var 1) (.cst (.int 1)))) .nil)))) .nil)
def f_times_of : Fn := fnOf 2 2 b_times_of
def b_divided : Sms := (.cons (.ret (.call "fraction" f_fraction (.cons (.bin .mul (.ix (.var 0) (.cst (.int 0))) (.ix (.var 1) (.cst (.int 1)))) (.cons (.bin .mul (.ix (.var 0) (.cst (.int 1))) (.ix (.var 1) (.cst (.int 0)))) .nil)))) .nil)
def f_divided : Fn := fnOf 2 2 b_divided
def b__law_sum : Sms := (.cons (.ret (.call "_law_fraction" f__law_fraction (.cons (.bin .add (.bin .mul (.ix (.var 0) (.cst (.int 0))) (.ix (.var 1) (.cst (.int 1)))) (.bin .mul (.ix (.var 1) (.cst (.int 0))) (.ix (.var 0) (.cst (.int 1))))) (.cons (.bin .mul (.ix (.var 0) (.cst (.int 1))) (.ix (.var 1) (.cst (.int 1)))) .nil)))) .nil)
def f__law_sum : Fn := fnOf 2 2 b__law_sum
def r__law_sum : List Req := [.fn "_law_fraction" f__law_fraction]
theorem q__law_sum : rqSs b__law_sum = [0].map fun i => r__law_sum.getD i (.non "") := rfl
def b__law_product : Sms := (.cons (.ret (.call "_law_fraction" f__law_fraction (.cons (.bin .mul (.ix (.var 0) (.cst (.int 0))) (.ix (.var 1) (.cst (.int 0)))) (.cons (.bin .mul (.ix (.var 0) (.cst (.int 1))) (.ix (.var 1) (.cst (.int 1)))) .nil)))) .nil)
def f__law_product : Fn := fnOf 2 2 b__law_product
def r__law_product : List Req := [.fn "_law_fraction" f__law_fraction]
theorem q__law_product : rqSs b__law_product = [0].map fun i => r__law_product.getD i (.non "") := rfl
/-! fractions of the program -/
abbrev Fr := Int × Int
def addF (x y : Fr) : Fr := frac (x.1 * y.2 + y.1 * x.2) (x.2 * y.2)
def subF (x y : Fr) : Fr := frac (x.1 * y.2 - y.1 * x.2) (x.2 * y.2)
def mulF (x y : Fr) : Fr := frac (x.1 * y.1) (x.2 * y.2)
def divF (x y : Fr) : Fr := frac (x.1 * y.2) (x.2 * y.1)
theorem NF.ne {x : Fr} (h : NF x) : x.2 ≠ 0 := by
  have := h.1
  omega
theorem prog_fraction_ok {k l : Nat} (n d : Int) (st : Store) (hn : Bd k n) (hd : Bd l d) (h0 : d ≠ 0) (hl : l ≤ 8000) : f_fraction [.dat (.int n), .dat (.int d)] st = .ok ⟨false, .dat (eP (frac n d))⟩ st := by
  have hg : Bd l (Int.gcd n d : Nat) := gcd_bd h0 hd
  have gp := gcd_pos (n := n) h0
  have ge : bltF .gcd [.int n, .int d] = some (false, .int (Int.gcd n d : Nat)) := rfl
  refine fn_eq rfl ?_
  by_cases hp : 0 < d
  · have e : sgn1 d = 1 := if_pos hp
    simp! [b_fraction, decide_eq_true hp, ge, b_fraction_1, bin_fdiv (i := n) hg (by omega) (by omega), bin_fdiv (i := d) hg (by omega) (by omega)]
    simp [eP, frac, e]
  · have e : sgn1 d = -1 := if_neg hp
    simp! [b_fraction, decide_eq_false hp, ge, b_fraction_1, bin_fdiv (i := n) hg.neg (by omega) (by omega), bin_fdiv (i := d) hg.neg (by omega) (by omega)]
    simp [eP, frac, e]
section
variable {k l : Nat} {x y : Fr}
theorem add_bd (hx : BdP k x) (hy : BdP l y) : Bd (k + l + 1) (x.1 * y.2 + y.1 * x.2) := (hx.1.mul hy.2).add' (by rw [Nat.add_comm]; exact hy.1.mul hx.2)
theorem sub_bd (hx : BdP k x) (hy : BdP l y) : Bd (k + l + 1) (x.1 * y.2 - y.1 * x.2) := (hx.1.mul hy.2).sub' (by rw [Nat.add_comm]; exact hy.1.mul hx.2)
theorem BdP.frac {n d : Int} {j : Nat} (hn : Bd j n) (hd : Bd j d) : BdP j (frac n d) := frac_bd hn hd
theorem addF_bd (hx : BdP k x) (hy : BdP l y) : BdP (k + l + 1) (addF x y) := .frac (add_bd hx hy) ((hx.2.mul hy.2).up (by omega))
theorem subF_bd (hx : BdP k x) (hy : BdP l y) : BdP (k + l + 1) (subF x y) := .frac (sub_bd hx hy) ((hx.2.mul hy.2).up (by omega))
theorem mulF_bd (hx : BdP k x) (hy : BdP l y) : BdP (k + l) (mulF x y) := .frac (hx.1.mul hy.1) (hx.2.mul hy.2)
theorem divF_bd (hx : BdP k x) (hy : BdP l y) : BdP (k + l) (divF x y) := .frac (hx.1.mul hy.2) (hx.2.mul hy.1)
theorem addF_nf (hx : NF x) (hy : NF y) : NF (addF x y) := frac_nf (Int.mul_ne_zero hx.ne hy.ne)
theorem subF_nf (hx : NF x) (hy : NF y) : NF (subF x y) := frac_nf (Int.mul_ne_zero hx.ne hy.ne)
theorem mulF_nf (hx : NF x) (hy : NF y) : NF (mulF x y) := frac_nf (Int.mul_ne_zero hx.ne hy.ne)
theorem divF_nf (hx : NF x) (h : y.1 ≠ 0) : NF (divF x y) := frac_nf (Int.mul_ne_zero hx.ne h)
theorem plus_ok (st : Store) (bx : BdP k x) (bp : BdP l y) (hx : NF x) (hy : NF y) (hk : k + l + 1 ≤ 8000 := by decide) : f_plus [.dat (eP x), .dat (eP y)] st = .ok ⟨false, .dat (eP (addF x y))⟩ st := by
  refine fn_eq rfl ?_
  simp! [b_plus, bin_mul bx.1 bp.2 (by omega), bin_mul bp.1 bx.2 (by omega), bin_mul bx.2 bp.2 (by omega), prog_fraction_ok _ _ st (add_bd bx bp) (bx.2.mul bp.2) (Int.mul_ne_zero hx.ne hy.ne) (by omega)]
  rfl
theorem minus_ok (st : Store) (bx : BdP k x) (bp : BdP l y) (hx : NF x) (hy : NF y) (hk : k + l + 1 ≤ 8000 := by decide) : f_minus [.dat (eP x), .dat (eP y)] st = .ok ⟨false, .dat (eP (subF x y))⟩ st := by
  refine fn_eq rfl ?_
  simp! [b_minus, bin_mul bx.1 bp.2 (by omega), bin_mul bp.1 bx.2 (by omega), bin_mul bx.2 bp.2 (by omega), prog_fraction_ok _ _ st (sub_bd bx bp) (bx.2.mul bp.2) (Int.mul_ne_zero hx.ne hy.ne) (by omega)]
  rfl
theorem times_ok (st : Store) (bx : BdP k x) (bp : BdP l y) (hx : NF x) (hy : NF y) (hk : k + l + 1 ≤ 8000 := by decide) : f_times_of [.dat (eP x), .dat (eP y)] st = .ok ⟨false, .dat (eP (mulF x y))⟩ st := by
  refine fn_eq rfl ?_
  simp! [b_times_of, bin_mul bx.1 bp.1 (by omega), bin_mul bx.2 bp.2 (by omega), prog_fraction_ok _ _ st (bx.1.mul bp.1) (bx.2.mul bp.2) (Int.mul_ne_zero hx.ne hy.ne) (by omega)]
  rfl
theorem divided_ok (st : Store) (bx : BdP k x) (bp : BdP l y) (hx : NF x) (hy : y.1 ≠ 0) (hk : k + l + 1 ≤ 8000 := by decide) : f_divided [.dat (eP x), .dat (eP y)] st = .ok ⟨false, .dat (eP (divF x y))⟩ st := by
  refine fn_eq rfl ?_
  simp! [b_divided, bin_mul bx.1 bp.2 (by omega), bin_mul bx.2 bp.1 (by omega), prog_fraction_ok _ _ st (bx.1.mul bp.2) (bx.2.mul bp.1) (Int.mul_ne_zero hx.ne hy) (by omega)]
  rfl
theorem law_sum_ok (st : Store) (bx : BdP k x) (bp : BdP l y) (hx : NF x) (hy : NF y) (hk : k + l + 1 ≤ 8000 := by decide) : f__law_sum [.dat (eP x), .dat (eP y)] st = .ok ⟨false, .dat (eP (addF x y))⟩ st := by
  refine fn_eq rfl ?_
  simp! [b__law_sum, bin_mul bx.1 bp.2 (by omega), bin_mul bp.1 bx.2 (by omega), bin_mul bx.2 bp.2 (by omega), fraction_ok _ _ st (add_bd bx bp) (bx.2.mul bp.2) (Int.mul_ne_zero hx.ne hy.ne) (by omega) (by omega)]
  rfl
theorem law_product_ok (st : Store) (bx : BdP k x) (bp : BdP l y) (hx : NF x) (hy : NF y) (hk : k + l + 1 ≤ 8000 := by decide) : f__law_product [.dat (eP x), .dat (eP y)] st = .ok ⟨false, .dat (eP (mulF x y))⟩ st := by
  refine fn_eq rfl ?_
  simp! [b__law_product, bin_mul bx.1 bp.1 (by omega), bin_mul bx.2 bp.2 (by omega), fraction_ok _ _ st (bx.1.mul bp.1) (bx.2.mul bp.2) (Int.mul_ne_zero hx.ne hy.ne) (by omega) (by omega)]
  rfl
/-! what they are: cross products -/
end
end
section
def b_split_off_2 : Sms := (.cons (.ret (.tup (.cons (.var 2) (.cons (.var 1) .nil)))) .nil)
def b_split_off_1a : Sms := (.cons (.par [2, 1] (.cons (.bin .add (.var 2) (.cst (.int 1))) (.cons (.bin .fdiv (.var 1) (.var 0)) .nil))) .nil)
def b_split_off_1 : Sms := (.cons (.whil (.cmp .eq (.bin .mod (.var 1) (.var 0)) (.cst (.int 0))) b_split_off_1a) b_split_off_2)
def b_split_off : Sms := (.cons (.set 2 false (.cst (.int 0))) b_split_off_1)
def f_split_off : Fn := fnOf 2 3 b_split_off
def r_split_off : List Req := []
theorem q_split_off : rqSs b_split_off = ([] : List Nat).map fun i => r_split_off.getD i (.non "") := rfl
def b_parts_1 : Sms := (.cons (.ret (.bin .sub (.ix (.call "split_off" f_split_off (.cons (.var 0) (.cons (.ix (.var 1) (.cst (.int 0))) .nil))) (.cst (.int 0))) (.ix (.call "split_off" f_split_off (.cons (.var 0) (.cons (.ix (.var 1) (.cst (.int 1))) .nil))) (.cst (.int 0))))) .nil)
def b_parts_0a : Sms := (.cons (.ret (.cst .none)) .nil)
def b_parts : Sms := (.cons (.ite (.cmp .eq (.ix (.var 1) (.cst (.int 0))) (.cst (.int 0))) b_parts_0a .nil) b_parts_1)
def f_parts : Fn := fnOf 2 2 b_parts
/-! how often a prime divides: the program's loop -/
theorem pow_two_le {p : Int} (hp : 2 ≤ p) : ∀ k : Nat, 2 ^ k ≤ (p ^ k).natAbs
  | 0 => by simp
  | k + 1 => by
    rw [Int.pow_succ, Int.natAbs_mul, Nat.pow_succ]
    exact Nat.mul_le_mul (pow_two_le hp k) (by omega)
theorem vl_lt {p n : Int} {k : Nat} (hp : 2 ≤ p) (hn : n ≠ 0) (hb : Bd k n) : vl p n < k := by
  have h := (vl_le hp hn).mpr (Nat.le_refl (vl p n))
  have h2 : (p ^ vl p n).natAbs ≤ n.natAbs := Nat.le_of_dvd (by omega) (Int.natAbs_dvd_natAbs.mpr h)
  have h3 := pow_two_le hp (vl p n)
  have h4 : 2 ^ vl p n < 2 ^ k := Nat.lt_of_le_of_lt (Nat.le_trans h3 h2) hb
  exact (Nat.pow_lt_pow_iff_right (by decide)).mp h4
def left (p n : Int) : Int := n / p ^ vl p n
theorem left_of {p n m : Int} {k : Nat} (hp : 2 ≤ p) (hn : n ≠ 0) (e : n = p ^ k * m) (hm : ¬ p ∣ m) : vl p n = k ∧ left p n = m := by
  have h := vl_uniq hp hn e hm
  refine ⟨h, ?_⟩
  unfold left
  rw [h]
  conv => lhs; arg 1; rw [e]
  exact Int.mul_ediv_cancel_left _ (pow_ne hp k)
theorem vl_step {p n : Int} (hp : 2 ≤ p) (hn : n ≠ 0) (hd : p ∣ n) : vl p n = vl p (n / p) + 1 := by
  obtain ⟨_, h2, h3⟩ := div_lt hp hn hd
  obtain ⟨m, e, hm⟩ := vl_spec hp h2
  refine vl_uniq hp hn (m := m) ?_ hm
  rw [Int.pow_succ]
  conv => lhs; rw [h3, e]
  ac_rfl
theorem split_ok {k : Nat} (p n : Int) (st : Store) (hp : 2 ≤ p) (bp : Bd 10 p) (hn : n ≠ 0) (bn : Bd k n) (hk : k ≤ 100000) : f_split_off [.dat (.int p), .dat (.int n)] st = .ok ⟨false, .dat (.tuple [.int (vl p n), .int (left p n)])⟩ st := by
  refine Wp.is (wp_fn rfl ?_)
  simp! [b_split_off, b_split_off_1]
  have md : ∀ x, bin .mod (.int x) (.int p) = some (false, .int (x % p)) := fun x => by rw [bin_mod (by omega), Int.fmod_eq_emod_of_nonneg _ (by omega)]
  have dv : ∀ x, bin .fdiv (.int x) (.int p) = some (false, .int (x / p)) := fun x => by rw [bin_fdiv bp (by omega) (by decide), Int.fdiv_eq_ediv_of_nonneg _ (by omega)]
  refine wps_while (fun j env st' => st' = st ∧ ∃ (m : Int) (i : Nat), env = [.val (.dat (.int p)), .val (.dat (.int m)), .val (.dat (.int i))] ∧ m ≠ 0 ∧ n = p ^ i * m ∧ j = vl p m) ?_ WF (vl p n) _ _ (Nat.lt_of_lt_of_le (vl_lt hp hn bn) (Nat.le_trans hk (by decide))) ⟨rfl, n, 0, rfl, hn, by simp, rfl⟩
  rintro j env st' ⟨rfl, m, i, rfl, hm, e, rfl⟩
  simp! [md]
  refine ⟨fun h => ?_, fun h => ?_⟩
  · have hd : p ∣ m := Int.dvd_of_emod_eq_zero (of_decide_eq_true h)
    obtain ⟨_, h2, h3⟩ := div_lt hp hm hd
    simp! [b_split_off_1a, dv]
    refine ⟨vl p (m / p), by rw [vl_step hp hm hd]; omega, by trivial, m / p, i + 1, rfl, h2, ?_, rfl⟩
    rw [Int.pow_succ, e]
    conv => lhs; rw [h3]
    ac_rfl
  · have hd : ¬ p ∣ m := fun q => by
      rw [Int.emod_eq_zero_of_dvd q] at h
      simp at h
    obtain ⟨e1, e2⟩ := left_of hp hn e hd
    simp! [b_split_off_2]
    rw [e1, e2]
    exact ⟨rfl, rfl⟩
def prt (p : Int) (x : Fr) : Int := (vl p x.1 : Int) - vl p x.2
def eN (o : Option Int) : MP.D := match o with
  | none => .none
  | some i => .int i
def ptO (p : Int) (x : Fr) : Option Int := if x.1 = 0 then none else some (prt p x)
theorem parts_ok {k : Nat} (p : Int) (x : Fr) (st : Store) (hp : 2 ≤ p) (bp : Bd 10 p) (hx : x.2 ≠ 0) (bx : BdP k x) (hk : k ≤ 100000) : f_parts [.dat (.int p), .dat (eP x)] st = .ok ⟨false, .dat (eN (ptO p x))⟩ st := by
  refine fn_eq rfl ?_
  by_cases h0 : x.1 = 0
  · simp! [b_parts, decide_eq_true h0, b_parts_0a]
    simp [ptO, h0, eN]
  · simp! [b_parts, decide_eq_false h0, b_parts_1, split_ok p x.1 st hp bp h0 bx.1 hk, split_ok p x.2 st hp bp hx bx.2 hk]
    simp [ptO, h0, eN, prt]
end
section
def b_raised_2 : Sms := (.cons (.ret (.var 2)) .nil)
def b_raised_1a : Sms := (.cons (.set 2 false (.bin .mul (.var 2) (.var 0))) .nil)
def b_raised_1 : Sms := (.cons (.forr (.nm 3) (.rng1 (.var 1)) b_raised_1a) b_raised_2)
def b_raised : Sms := (.cons (.set 2 false (.cst (.int 1))) b_raised_1)
def f_raised : Fn := fnOf 2 4 b_raised
def r_raised : List Req := [.non "range"]
theorem q_raised : rqSs b_raised = [0].map fun i => r_raised.getD i (.non "") := rfl
def b_inverse_2 : Sms := (.cons (.ret (.bin .mod (.var 4) (.var 1))) .nil)
def b_inverse_1a_1 : Sms := (.cons (.setT (.cons (.nm 2) (.cons (.nm 3) (.cons (.nm 4) (.cons (.nm 5) .nil)))) (.tup (.cons (.var 3) (.cons (.bin .sub (.var 2) (.bin .mul (.var 6) (.var 3))) (.cons (.var 5) (.cons (.bin .sub (.var 4) (.bin .mul (.var 6) (.var 5))) .nil)))))) .nil)
def b_inverse_1a : Sms := (.cons (.set 6 false (.bin .fdiv (.var 2) (.var 3))) b_inverse_1a_1)
def b_inverse_1 : Sms := (.cons (.whil (.cmp .ne (.var 3) (.cst (.int 0))) b_inverse_1a) b_inverse_2)
def b_inverse : Sms := (.cons (.setT (.cons (.nm 2) (.cons (.nm 3) (.cons (.nm 4) (.cons (.nm 5) .nil)))) (.tup (.cons (.bin .mod (.var 0) (.var 1)) (.cons (.var 1) (.cons (.cst (.int 1)) (.cons (.cst (.int 0)) .nil)))))) b_inverse_1)
def f_inverse : Fn := fnOf 2 7 b_inverse
def r_inverse : List Req := []
theorem q_inverse : rqSs b_inverse = ([] : List Nat).map fun i => r_inverse.getD i (.non "") := rfl
def b_rest_1 : Sms := (.cons (.ret (.bin .mod (.bin .mul (.ix (.var 2) (.cst (.int 0))) (.call "inverse" f_inverse (.cons (.ix (.var 2) (.cst (.int 1))) (.cons (.var 3) .nil)))) (.var 3))) .nil)
def b_rest : Sms := (.cons (.set 3 false (.call "raised" f_raised (.cons (.var 0) (.cons (.var 1) .nil)))) b_rest_1)
def f_rest : Fn := fnOf 3 4 b_rest
/-! the inverse by a power, the rest -/
theorem prog_raised_ok {k : Nat} (p n : Int) (st : Store) (hp : Bd k p) (h0 : 0 ≤ n) (h2 : n < 2 ^ 62) (hk : k * n.toNat + k + 1 ≤ 1000000) : f_raised [.dat (.int p), .dat (.int n)] st = .ok ⟨false, .dat (.int (p ^ n.toNat))⟩ st := by
  refine Wp.is (wp_fn rfl ?_)
  simp! [b_raised, b_raised_1, okR h0 h2]
  refine wps_forR (fun j env st' => st' = st ∧ ∃ (i : Nat) (s : Slot), j = i ∧ i ≤ n.toNat ∧ env = [.val (.dat (.int p)), .val (.dat (.int n)), .val (.dat (.int (p ^ i))), s]) ?_ ?_ _ 0 _ _ rfl ⟨rfl, 0, .un, rfl, by omega, by simp⟩
  · rintro j env st' hj ⟨rfl, i, s, rfl, hi, rfl⟩
    have hm : k * i ≤ k * n.toNat := Nat.mul_le_mul_left _ hi
    refine ⟨_, rfl, ?_⟩
    simp! [b_raised_1a, bin_mul (hp.pow i) hp (by omega)]
    exact ⟨by trivial, i + 1, _, rfl, by omega, by rw [Int.pow_succ]⟩
  · rintro j env st' hj ⟨rfl, i, s, rfl, hi, rfl⟩
    have : i = n.toNat := by omega
    subst this
    simp! [b_raised_2]
    exact ⟨rfl, rfl⟩
structure InvL (n W a b h t : Int) : Prop where
  a0 : 0 ≤ a
  b0 : 0 ≤ b
  ah : W ∣ h * n - a
  bt : W ∣ t * n - b
  s : t.natAbs * a.natAbs + h.natAbs * b.natAbs = W.natAbs
  u : (0 ≤ h ∧ t ≤ 0) ∨ (h ≤ 0 ∧ 0 ≤ t)
  ht : t.natAbs ≤ W.natAbs
  hh : h.natAbs ≤ W.natAbs
  g : Int.gcd a b = Int.gcd n W
theorem InvL.step {n W a b h t : Int} (I : InvL n W a b h t) (hb : b ≠ 0) : InvL n W b (a - a / b * b) t (h - a / b * t) ∧ a - a / b * b = a % b ∧ 0 ≤ a / b ∧ a / b ≤ a := by
  obtain ⟨a0, b0, ah, bt, s, u, ht, hh, g⟩ := I
  have hb' : 0 < b := by omega
  have e : a - a / b * b = a % b := by
    have := Int.mul_ediv_add_emod a b
    rw [Int.mul_comm] at this
    omega
  have q0 : 0 ≤ a / b := Int.ediv_nonneg a0 b0
  have qa : a / b ≤ a := Int.ediv_le_self b a0
  have m0 := Int.emod_nonneg a hb
  have m1 := Int.emod_lt_of_pos a hb'
  have tq : (h - a / b * t).natAbs = h.natAbs + (a / b).natAbs * t.natAbs := by
    rw [← Int.natAbs_mul]
    rcases u with ⟨u1, u2⟩ | ⟨u1, u2⟩
    · have : a / b * t ≤ 0 := Int.mul_nonpos_of_nonneg_of_nonpos q0 u2
      omega
    · have : 0 ≤ a / b * t := Int.mul_nonneg q0 u2
      omega
  have sum : (h - a / b * t).natAbs * b.natAbs + t.natAbs * (a - a / b * b).natAbs = W.natAbs := by
    rw [tq]
    obtain ⟨A, rfl⟩ := Int.eq_ofNat_of_zero_le a0
    obtain ⟨B, rfl⟩ := Int.eq_ofNat_of_zero_le b0
    have eq : ((A : Int) / (B : Int)) = ((A / B : Nat) : Int) := rfl
    have em : (A : Int) - (A : Int) / (B : Int) * (B : Int) = ((A % B : Nat) : Int) := by rw [e]; rfl
    rw [em, eq]
    simp only [Int.natAbs_natCast] at *
    have d := Nat.div_add_mod A B
    rw [← s]
    conv => rhs; rw [← d]
    grind
  refine ⟨⟨b0, by omega, bt, ?_, sum, ?_, ?_, ht, ?_⟩, e, q0, qa⟩
  · have : (h - a / b * t) * n - (a - a / b * b) = (h * n - a) - a / b * (t * n - b) := by grind
    rw [this]
    exact Int.dvd_sub ah (Int.dvd_mul_of_dvd_right bt)
  · rcases u with ⟨u1, u2⟩ | ⟨u1, u2⟩
    · right
      have : a / b * t ≤ 0 := Int.mul_nonpos_of_nonneg_of_nonpos q0 u2
      omega
    · left
      have : 0 ≤ a / b * t := Int.mul_nonneg q0 u2
      omega
  · have : (h - a / b * t).natAbs * 1 ≤ (h - a / b * t).natAbs * b.natAbs := Nat.mul_le_mul_left _ (by omega)
    omega
  · rw [e, ← g]
    show Nat.gcd b.natAbs (a % b).natAbs = Nat.gcd a.natAbs b.natAbs
    obtain ⟨A, rfl⟩ := Int.eq_ofNat_of_zero_le a0
    obtain ⟨B, rfl⟩ := Int.eq_ofNat_of_zero_le b0
    show Nat.gcd B (A % B) = Nat.gcd A B
    rw [Nat.gcd_comm B, ← Nat.gcd_rec, Nat.gcd_comm]
/-- how many turns are left: as of the greatest common divisor -/
def Tn (m : Nat) (a b : Int) : Prop := (b ≤ a → a.natAbs * b.natAbs < 2 ^ m) ∧ (a < b → 1 ≤ m ∧ a.natAbs * b.natAbs < 2 ^ (m - 1))
theorem Tn.step {m : Nat} {a b : Int} (h : Tn m a b) (a0 : 0 ≤ a) (b1 : 0 < b) : ∃ m', m' < m ∧ Tn m' b (a % b) := by
  obtain ⟨A, rfl⟩ := Int.eq_ofNat_of_zero_le a0
  obtain ⟨B, rfl⟩ := Int.eq_ofNat_of_zero_le (Int.le_of_lt b1)
  obtain ⟨h1, h2⟩ := h
  simp only [Int.natAbs_natCast] at h1 h2
  have hB : 0 < B := by omega
  have hlt : A % B < B := Nat.mod_lt _ hB
  have e : ((A : Int) % (B : Int)) = ((A % B : Nat) : Int) := rfl
  by_cases hab : B ≤ A
  · have hp := h1 (by omega)
    have h3 : B + A % B ≤ A := by
      have := Nat.div_add_mod A B
      have : 1 ≤ A / B := (Nat.one_le_div_iff hB).mpr hab
      have : B * 1 ≤ B * (A / B) := Nat.mul_le_mul_left _ this
      omega
    have hpos : 1 ≤ A * B := Nat.mul_pos (by omega) hB
    have hm : m ≠ 0 := fun z => by
      subst z
      simp at hp
      omega
    obtain ⟨j, rfl⟩ : ∃ j, m = j + 1 := ⟨m - 1, by omega⟩
    have h4 : 2 * (B * (A % B)) ≤ A * B := by
      have : (2 * (A % B)) * B ≤ A * B := Nat.mul_le_mul_right _ (by omega)
      have e2 : 2 * (B * (A % B)) = (2 * (A % B)) * B := by
        rw [Nat.mul_assoc, Nat.mul_comm B]
      omega
    rw [Nat.pow_succ] at hp
    refine ⟨j, by omega, fun _ => ?_, fun q => ?_⟩
    · rw [e]
      simp only [Int.natAbs_natCast]
      omega
    · rw [e] at q
      omega
  · obtain ⟨hm, hp⟩ := h2 (by omega)
    have ea : A % B = A := Nat.mod_eq_of_lt (by omega)
    refine ⟨m - 1, by omega, fun _ => ?_, fun q => ?_⟩
    · rw [e, ea]
      simp only [Int.natAbs_natCast]
      rw [Nat.mul_comm]
      exact hp
    · rw [e, ea] at q
      omega
theorem sub_emod (n W : Int) : W ∣ n - n % W := ⟨n / W, by
  have := Int.mul_ediv_add_emod n W
  omega⟩
theorem inverse_ok {k : Nat} (n W : Int) (st : Store) (hW : 1 ≤ W) (bW : Bd k W) (hk : k ≤ 4000) (hg : Int.gcd n W = 1) : ∃ i, 0 ≤ i ∧ i < W ∧ W ∣ i * n - 1 ∧ f_inverse [.dat (.int n), .dat (.int W)] st = .ok ⟨false, .dat (.int i)⟩ st := by
  have md : ∀ x, bin .mod (.int x) (.int W) = some (false, .int (x % W)) := fun x => by rw [bin_mod (by omega), Int.fmod_eq_emod_of_nonneg _ (by omega)]
  have m0 := Int.emod_nonneg n (show W ≠ 0 by omega)
  have m1 := Int.emod_lt_of_pos n (show 0 < W by omega)
  have I0 : InvL n W (n % W) W 1 0 := ⟨m0, by omega, by
    rw [Int.one_mul]
    exact sub_emod n W, by simp, by simp, .inl ⟨by decide, by decide⟩, by simp, by omega, by
      show Nat.gcd (n % W).natAbs W.natAbs = _
      have e1 : n % W = n - n / W * W := by
        have := Int.mul_ediv_add_emod n W
        rw [Int.mul_comm] at this
        omega
      have e : Int.gcd (n % W) W = Int.gcd n W := by
        rw [e1]
        exact Int.gcd_sub_mul_right_left W n (n / W)
      exact e⟩
  have bw : W.natAbs < 2 ^ k := bW
  have w : Wp (f_inverse [.dat (.int n), .dat (.int W)] st) fun x st' => st' = st ∧ ∃ i, 0 ≤ i ∧ i < W ∧ W ∣ i * n - 1 ∧ x = ⟨false, .dat (.int i)⟩ := by
    refine wp_fn rfl ?_
    simp! [b_inverse, md, b_inverse_1]
    refine wps_while (fun j env st' => st' = st ∧ ∃ (a b h t : Int) (s : Slot), env = [.val (.dat (.int n)), .val (.dat (.int W)), .val (.dat (.int a)), .val (.dat (.int b)), .val (.dat (.int h)), .val (.dat (.int t)), s] ∧ InvL n W a b h t ∧ (a ≤ W ∧ b ≤ W) ∧ Tn j a b) ?_ WF (2 * k + 1) _ _ (by unfold WF; omega) ⟨rfl, n % W, W, 1, 0, .un, rfl, I0, ⟨by omega, by omega⟩, fun q => by omega, fun _ => ⟨by omega, ?_⟩⟩
    · rintro j env st' ⟨rfl, a, b, h, t, s, rfl, I, ⟨aW, bWW⟩, T⟩
      simp!
      refine ⟨fun hc => ?_, fun hc => ?_⟩
      · have hb : b ≠ 0 := by simpa using hc
        obtain ⟨J, e, q0, qa⟩ := I.step hb
        have b1 : 0 < b := by
          have := I.b0
          omega
        obtain ⟨m', hm, T'⟩ := T.step I.a0 b1
        have bbd : Bd k b := by
          unfold Bd
          omega
        have qb : Bd k (a / b) := by unfold Bd; omega
        have dv : bin .fdiv (.int a) (.int b) = some (false, .int (a / b)) := by rw [bin_fdiv bbd hb (by omega), Int.fdiv_eq_ediv_of_nonneg _ (by omega)]
        have tb : Bd k t := by
          have := I.ht
          unfold Bd
          omega
        simp! [b_inverse_1a, dv, b_inverse_1a_1, bin_mul qb bbd (by omega), bin_mul qb tb (by omega)]
        exact ⟨m', hm, by trivial, _, _, _, _, _, rfl, J, ⟨bWW, by rw [e]; have := Int.emod_lt_of_pos a b1; omega⟩, by rw [e]; exact T'⟩
      · have hb : b = 0 := by simpa using hc
        subst hb
        have ga := I.g
        rw [hg] at ga
        have a1 : a = 1 := by
          have : Int.gcd a 0 = a.natAbs := Int.gcd_zero_right a
          have := I.a0
          omega
        subst a1
        simp! [b_inverse_2, md]
        refine ⟨by trivial, h % W, Int.emod_nonneg _ (by omega), Int.emod_lt_of_pos _ (by omega), ?_, rfl⟩
        have d1 := I.ah
        have d2 : W ∣ h - h % W := sub_emod h W
        have : h % W * n - 1 = (h * n - 1) - (h - h % W) * n := by grind
        rw [this]
        exact Int.dvd_sub d1 (Int.dvd_mul_of_dvd_left d2)
    · have : (n % W).natAbs * W.natAbs < 2 ^ k * 2 ^ k := Nat.mul_lt_mul'' (by omega) bw
      rw [← Nat.pow_add] at this
      have e : 2 * k + 1 - 1 = k + k := by omega
      rw [e]
      exact this
  obtain ⟨x, st', e, rfl, i, h1, h2, h3, rfl⟩ := w.ex
  exact ⟨i, h1, h2, h3, e⟩
theorem gcd_pr {p n : Int} (hp : Pr p) (hn : ¬ p ∣ n) : Int.gcd n p = 1 := by
  have g1 : ((Int.gcd n p : Nat) : Int) ∣ n := Int.gcd_dvd_left ..
  obtain ⟨c, hc⟩ : ((Int.gcd n p : Nat) : Int) ∣ p := Int.gcd_dvd_right ..
  rcases hp.dv _ c ⟨1, by rw [Int.mul_one]; exact hc.symm⟩ with h | ⟨d, hd⟩
  · exact absurd (Int.dvd_trans h g1) hn
  · have h2 := hp.two
    have e : p * 1 = p * (((Int.gcd n p : Nat) : Int) * d) := by
      conv => lhs; rw [Int.mul_one, hc, hd]
      ac_rfl
    have e2 := Int.eq_of_mul_eq_mul_left (show p ≠ 0 by omega) e
    have : Int.gcd n p ∣ 1 := Int.natCast_dvd_natCast.mp ⟨d, e2⟩
    exact Nat.dvd_one.mp this
theorem gcd_pow {p n : Int} (hp : Pr p) (hn : ¬ p ∣ n) (k : Nat) : Int.gcd n (p ^ k) = 1 := by
  show Nat.gcd n.natAbs (p ^ k).natAbs = 1
  rw [Int.natAbs_pow]
  exact Nat.Coprime.pow_right k (gcd_pr hp hn)
theorem rest_ok {j l : Nat} (p k : Int) (x : Fr) (st : Store) (hp : Pr p) (bp : Bd j p) (k0 : 0 ≤ k) (k1 : k < 2 ^ 62) (bx : BdP l x) (hx : ¬ p ∣ x.2) (hj : j * k.toNat + j + 1 ≤ 4000) (hl : l ≤ 4000) :
    ∃ r, 0 ≤ r ∧ r < p ^ k.toNat ∧ p ^ k.toNat ∣ x.2 * r - x.1 ∧ f_rest [.dat (.int p), .dat (.int k), .dat (eP x)] st = .ok ⟨false, .dat (.int r)⟩ st := by
  have hpp := hp.two
  have W1 : 1 ≤ p ^ k.toNat := Int.pow_pos (by omega)
  have bW : Bd (j * k.toNat + 1) (p ^ k.toNat) := bp.pow _
  obtain ⟨i, i0, i1, hi, e⟩ := inverse_ok x.2 (p ^ k.toNat) st W1 bW (by omega) (gcd_pow hp hx _)
  have bi : Bd (j * k.toNat + 1) i := by
    unfold Bd at *
    omega
  have md : ∀ y, bin .mod (.int y) (.int (p ^ k.toNat)) = some (false, .int (y % p ^ k.toNat)) := fun y => by rw [bin_mod (by omega), Int.fmod_eq_emod_of_nonneg _ (by omega)]
  refine ⟨x.1 * i % p ^ k.toNat, Int.emod_nonneg _ (by omega), Int.emod_lt_of_pos _ (by omega), ?_, ?_⟩
  · have d := sub_emod (x.1 * i) (p ^ k.toNat)
    have : x.2 * (x.1 * i % p ^ k.toNat) - x.1 = x.1 * (i * x.2 - 1) - x.2 * (x.1 * i - x.1 * i % p ^ k.toNat) := by grind
    rw [this]
    exact Int.dvd_sub (Int.dvd_mul_of_dvd_right hi) (Int.dvd_mul_of_dvd_right d)
  · refine fn_eq rfl ?_
    simp! [b_rest, prog_raised_ok p k st bp k0 k1 (by omega), b_rest_1, e, bin_mul bx.1 bi (by omega), md]
end
section
/-! fractions as rationals -/
def toR (x : Fr) : Rat := (x.1 : Rat) / (x.2 : Rat)
theorem ic_ne {a : Int} (h : a ≠ 0) : (a : Rat) ≠ 0 := fun q => h (Rat.intCast_inj.mp (by simpa using q))
theorem toR_frac {n d : Int} (hd : d ≠ 0) : toR (frac n d) = (n : Rat) / d := by
  have c := frac_cross (n := n) hd
  have h2 : ((frac n d).2 : Rat) ≠ 0 := ic_ne (frac_nf (n := n) hd).ne
  have h3 := ic_ne hd
  have c' : ((frac n d).1 : Rat) * d = n * (frac n d).2 := by
    have := congrArg (fun z : Int => (z : Rat)) c
    simpa using this
  unfold toR
  grind
theorem NF.ext {x y : Fr} (hx : NF x) (hy : NF y) (h : toR x = toR y) : x = y := by
  refine (NF_eq hx hy).mpr ?_
  have h1 := ic_ne hx.ne
  have h2 := ic_ne hy.ne
  unfold toR at h
  have : (x.1 : Rat) * y.2 = y.1 * x.2 := by grind
  refine Rat.intCast_inj.mp ?_
  simpa using this
theorem toR_add {x y : Fr} (hx : NF x) (hy : NF y) : toR (addF x y) = toR x + toR y := by
  have h1 := ic_ne hx.ne
  have h2 := ic_ne hy.ne
  unfold addF
  rw [toR_frac (Int.mul_ne_zero hx.ne hy.ne)]
  unfold toR
  simp only [Rat.intCast_add, Rat.intCast_mul]
  grind
theorem toR_sub {x y : Fr} (hx : NF x) (hy : NF y) : toR (subF x y) = toR x - toR y := by
  have h1 := ic_ne hx.ne
  have h2 := ic_ne hy.ne
  unfold subF
  rw [toR_frac (Int.mul_ne_zero hx.ne hy.ne)]
  unfold toR
  simp only [Rat.intCast_sub, Rat.intCast_mul]
  grind
theorem toR_mul {x y : Fr} (hx : NF x) (hy : NF y) : toR (mulF x y) = toR x * toR y := by
  have h1 := ic_ne hx.ne
  have h2 := ic_ne hy.ne
  unfold mulF
  rw [toR_frac (Int.mul_ne_zero hx.ne hy.ne)]
  unfold toR
  simp only [Rat.intCast_mul]
  grind
theorem toR_div {x y : Fr} (hx : NF x) (hy : NF y) (h : y.1 ≠ 0) : toR (divF x y) = toR x / toR y := by
  have h1 := ic_ne hx.ne
  have h2 := ic_ne hy.ne
  have h3 := ic_ne h
  unfold divF
  rw [toR_frac (Int.mul_ne_zero hx.ne h)]
  unfold toR
  simp only [Rat.intCast_mul]
  grind
theorem toR_zero {x : Fr} (hx : NF x) : toR x = 0 ↔ x.1 = 0 := by
  have h1 := ic_ne hx.ne
  unfold toR
  constructor
  · intro h
    have : (x.1 : Rat) = 0 := by grind
    exact Rat.intCast_inj.mp (by simpa using this)
  · intro h
    rw [h]
    have : ((0 : Int) : Rat) = 0 := by simp
    rw [this]
    grind
theorem toR_int {n : Int} : toR (n, 1) = n := by
  unfold toR
  simp
  grind
/-! divided by a power -/
def Dv (p : Int) (n : Int) (x : Rat) : Prop := ∃ a b : Int, ¬ p ∣ b ∧ x * b = (p : Rat) ^ n * a
section
variable {p : Int} {m n k : Int} {x y z : Rat}
theorem Pr.ne0 (h : Pr p) : (p : Rat) ≠ 0 := ic_ne (by have := h.two; omega)
theorem Pr.not1 (h : Pr p) : ¬ p ∣ 1 := fun q => by
  have := h.two
  have := Int.le_of_dvd (by decide) q
  omega
theorem pz_ne (h : Pr p) : (p : Rat) ^ n ≠ 0 := by
  intro z
  have e := Rat.zpow_add h.ne0 n (-n)
  rw [z, Int.add_right_neg, Rat.zpow_zero] at e
  grind
theorem pz_add (h : Pr p) : (p : Rat) ^ (m + n) = (p : Rat) ^ m * (p : Rat) ^ n := Rat.zpow_add h.ne0 _ _
theorem pz_nat {j : Nat} : (p : Rat) ^ (j : Int) = ((p ^ j : Int) : Rat) := by
  rw [Rat.zpow_natCast, Rat.intCast_pow]
theorem Dv.zero (h : Pr p) : Dv p n 0 := ⟨0, 1, h.not1, by simp⟩
theorem Dv.neg (d : Dv p n x) : Dv p n (-x) := by
  obtain ⟨a, b, hb, e⟩ := d
  exact ⟨-a, b, hb, by rw [Rat.neg_mul, e, Rat.intCast_neg]; grind⟩
theorem Dv.add (h : Pr p) (d : Dv p n x) (e : Dv p n y) : Dv p n (x + y) := by
  obtain ⟨a, b, hb, e1⟩ := d
  obtain ⟨c, f, hf, e2⟩ := e
  refine ⟨a * f + c * b, b * f, fun q => (h.dv _ _ q).elim hb hf, ?_⟩
  simp only [Rat.intCast_add, Rat.intCast_mul]
  grind
theorem Dv.sub (h : Pr p) (d : Dv p n x) (e : Dv p n y) : Dv p n (x - y) := by
  rw [Rat.sub_eq_add_neg]
  exact d.add h e.neg
theorem Dv.comm (d : Dv p n (x - y)) : Dv p n (y - x) := by
  have := d.neg
  rwa [Rat.neg_sub] at this
theorem Dv.trans (h : Pr p) (d : Dv p n (x - y)) (e : Dv p n (y - z)) : Dv p n (x - z) := by
  have := d.add h e
  have q : x - y + (y - z) = x - z := by grind
  rwa [q] at this
theorem Dv.mul (h : Pr p) (d : Dv p m x) (e : Dv p n y) : Dv p (m + n) (x * y) := by
  obtain ⟨a, b, hb, e1⟩ := d
  obtain ⟨c, f, hf, e2⟩ := e
  refine ⟨a * c, b * f, fun q => (h.dv _ _ q).elim hb hf, ?_⟩
  simp only [Rat.intCast_mul, pz_add h]
  grind
theorem Dv.int (h : Pr p) (a : Int) : Dv p 0 a := ⟨a, 1, h.not1, by simp⟩
theorem Dv.pz (h : Pr p) : Dv p n ((p : Rat) ^ n) := ⟨1, 1, h.not1, by simp⟩
theorem Dv.mono (h : Pr p) (d : Dv p n x) (hm : m ≤ n) : Dv p m x := by
  obtain ⟨a, b, hb, e⟩ := d
  refine ⟨p ^ (n - m).toNat * a, b, hb, ?_⟩
  have e1 : n = m + ((n - m).toNat : Int) := by omega
  rw [e]
  conv => lhs; rw [e1, pz_add h, pz_nat]
  rw [Rat.intCast_mul, Rat.mul_assoc]
theorem Dv.shift (h : Pr p) : Dv p (k + n) ((p : Rat) ^ k * x) ↔ Dv p n x := by
  constructor
  · rintro ⟨a, b, hb, e⟩
    refine ⟨a, b, hb, ?_⟩
    rw [pz_add h] at e
    have := pz_ne (n := k) h
    grind
  · intro d
    exact (Dv.pz h).mul h d
/-- an integer -/
theorem Dv.nat (h : Pr p) {j : Nat} {a : Int} : Dv p j a ↔ p ^ j ∣ a := by
  constructor
  · rintro ⟨c, b, hb, e⟩
    rw [pz_nat] at e
    have e' : a * b = p ^ j * c := by
      refine Rat.intCast_inj.mp ?_
      simpa using e
    have hp : (p ^ j : Int) ∣ b * a := ⟨c, by rw [Int.mul_comm, e']⟩
    clear e e'
    induction j generalizing a c with
    | zero => exact ⟨a, by simp⟩
    | succ j ih =>
      rw [Int.pow_succ] at hp ⊢
      have d1 : p ∣ b * a := Int.dvd_trans (Int.dvd_mul_left _ _) hp
      obtain ⟨a', rfl⟩ := (h.dv _ _ d1).resolve_left hb
      have p0 : p ≠ 0 := by have := h.two; omega
      obtain ⟨c', hc'⟩ := hp
      have : p ^ j ∣ b * a' := ⟨c', Int.eq_of_mul_eq_mul_left p0 (by rw [show p * (p ^ j * c') = p ^ j * p * c' by ac_rfl, ← hc']; ac_rfl)⟩
      obtain ⟨u, hu⟩ := ih c' this
      exact ⟨u, by rw [hu]; ac_rfl⟩
  · rintro ⟨c, rfl⟩
    exact ⟨c, 1, h.not1, by rw [pz_nat]; simp⟩
theorem Dv.par (h : Pr p) {q : Fr} (h2 : q.2 ≠ 0) (h1 : q.1 ≠ 0) : Dv p n (toR q) ↔ n ≤ prt p q := by
  have hp := h.two
  obtain ⟨m, e1, hm⟩ := vl_spec hp h1
  obtain ⟨u, e2, hu⟩ := vl_spec hp h2
  have u0 : (u : Rat) ≠ 0 := ic_ne fun z => hu (z ▸ Int.dvd_zero p)
  have key : toR q * u = (p : Rat) ^ prt p q * m := by
    have a1 : (q.1 : Rat) = (p : Rat) ^ (vl p q.1 : Int) * m := by
      rw [pz_nat, ← Rat.intCast_mul, ← e1]
    have a2 : (q.2 : Rat) = (p : Rat) ^ (vl p q.2 : Int) * u := by
      rw [pz_nat, ← Rat.intCast_mul, ← e2]
    have a3 : (p : Rat) ^ (vl p q.1 : Int) = (p : Rat) ^ prt p q * (p : Rat) ^ (vl p q.2 : Int) := by
      rw [← pz_add h]
      unfold prt
      rw [Int.sub_add_cancel]
    have a4 := pz_ne (n := (vl p q.2 : Int)) h
    unfold toR
    rw [a1, a2, a3]
    grind
  constructor
  · rintro d
    refine Classical.byContradiction fun hn => ?_
    obtain ⟨a, b, hb, e⟩ := d.mono h (m := prt p q + 1) (by omega)
    rw [pz_add h, show (p : Rat) ^ (1 : Int) = p from by rw [show (1 : Int) = ((1 : Nat) : Int) from rfl, pz_nat]; simp] at e
    have p0 := pz_ne (n := prt p q) h
    have e3 : (m : Rat) * b = p * (a * u) := by grind
    have e4 : m * b = p * (a * u) := Rat.intCast_inj.mp (by simpa using e3)
    rcases h.dv m b ⟨_, e4⟩ with z | z
    · exact hm z
    · exact hb z
  · intro hn
    exact Dv.mono h ⟨m, u, hu, key⟩ hn
/-- of each rational but 0 there is an end of being divided -/
theorem Dv.lo (h : Pr p) {q : Fr} (h2 : q.2 ≠ 0) : ∃ N, Dv p N (toR q) := by
  by_cases h1 : q.1 = 0
  · refine ⟨0, ?_⟩
    have : toR q = 0 := by
      unfold toR
      rw [h1]
      have : ((0 : Int) : Rat) = 0 := by simp
      rw [this]
      grind
    rw [this]
    exact .zero h
  · exact ⟨_, (Dv.par h h2 h1).mpr (Int.le_refl _)⟩
/-! the least one of a ball -/
structure IsQ (p n : Int) (q : Rat) : Prop where
  lo : 0 ≤ q
  hi : q < (p : Rat) ^ n
  den : ∃ (j : Nat) (z : Int), q * (p : Rat) ^ (j : Int) = z
theorem IsQ.eq (h : Pr p) {q r : Rat} (hq : IsQ p n q) (hr : IsQ p n r) (d : Dv p n (q - r)) : q = r := by
  obtain ⟨j, z, ez⟩ := hq.den
  obtain ⟨i, y, ey⟩ := hr.den
  have pj := fun k : Int => pz_ne (n := k) h
  obtain ⟨t, ht⟩ : ∃ t : Nat, (t : Int) = n + (j + i + n.natAbs : Nat) := ⟨(n + (j + i + n.natAbs : Nat)).toNat, by omega⟩
  have e1 : (q - r) * (p : Rat) ^ ((j + i + n.natAbs : Nat) : Int) = ((z * p ^ (i + n.natAbs) - y * p ^ (j + n.natAbs) : Int) : Rat) := by
    rw [Rat.intCast_sub, Rat.intCast_mul, Rat.intCast_mul, ← pz_nat, ← pz_nat, ← ez, ← ey]
    rw [show ((j + i + n.natAbs : Nat) : Int) = (j : Int) + (i : Int) + (n.natAbs : Nat) by omega, show ((i + n.natAbs : Nat) : Int) = (i : Int) + (n.natAbs : Nat) by omega, show ((j + n.natAbs : Nat) : Int) = (j : Int) + (n.natAbs : Nat) by omega, pz_add h, pz_add h, pz_add h, pz_add h]
    grind
  have d2 := (Dv.shift (k := ((j + i + n.natAbs : Nat) : Int)) h).mpr d
  rw [Rat.mul_comm, e1, Int.add_comm, ← ht] at d2
  obtain ⟨c, hc⟩ := (Dv.nat h).mp d2
  rw [hc, Rat.intCast_mul, ← pz_nat, ht, pz_add h] at e1
  have e2 : q - r = (p : Rat) ^ n * c := by
    have := pj ((j + i + n.natAbs : Nat) : Int)
    grind
  have pp : (0 : Rat) < (p : Rat) ^ n := by
    have := hq.lo
    have := hq.hi
    grind
  have c0 : c = 0 := by
    have u1 : (p : Rat) ^ n * c < (p : Rat) ^ n * 1 := by
      have := hq.hi
      have := hr.lo
      grind
    have u2 : (p : Rat) ^ n * (-1) < (p : Rat) ^ n * c := by
      have := hr.hi
      have := hq.lo
      grind
    have v1 : (c : Rat) < 1 := Rat.lt_of_mul_lt_mul_left u1 (Rat.le_of_lt pp)
    have v2 : (-1 : Rat) < c := Rat.lt_of_mul_lt_mul_left u2 (Rat.le_of_lt pp)
    have w1 : c < 1 := Rat.intCast_lt_intCast.mp (by simpa using v1)
    have w2 : -1 < c := Rat.intCast_lt_intCast.mp (by simpa using v2)
    omega
  rw [c0] at e2
  have : ((0 : Int) : Rat) = 0 := by simp
  grind
end
structure PP (p : Int) : Prop where
  pr : Pr p
  le : p ≤ 97
theorem PP.two {p : Int} (h : PP p) : 2 ≤ p := h.pr.two
theorem PP.bd {p : Int} (h : PP p) : Bd 7 p := bds (by
  have := h.two
  have := h.le
  omega)
theorem pps : PP 2 ∧ PP 3 ∧ PP 5 ∧ PP 7 ∧ PP 11 ∧ PP 97 ∧ PP 53 :=
  ⟨⟨pr_small (p := 2) (by decide) (by decide), by decide⟩, ⟨pr_small (p := 3) (by decide) (by decide), by decide⟩, ⟨pr_small (p := 5) (by decide) (by decide), by decide⟩, ⟨pr_small (p := 7) (by decide) (by decide), by decide⟩,
    ⟨pr_small (p := 11) (by decide) (by decide), by decide⟩, ⟨pr_small (p := 97) (by decide) (by decide +kernel), by decide⟩, ⟨pr_small (p := 53) (by decide) (by decide +kernel), by decide⟩⟩
theorem pow_mono1 {a b : Int} (h1 : 0 ≤ a) (h2 : a ≤ b) : ∀ i : Nat, a ^ i ≤ b ^ i
  | 0 => by rw [Int.pow_zero, Int.pow_zero]; exact Int.le_refl _
  | i + 1 => by
    rw [Int.pow_succ, Int.pow_succ]
    exact Int.mul_le_mul (pow_mono1 h1 h2 i) h2 h1 (Int.pow_nonneg (by omega))
theorem pow_mono2 {b : Int} (h1 : 1 ≤ b) (i : Nat) : ∀ k : Nat, b ^ i ≤ b ^ (i + k)
  | 0 => Int.le_refl _
  | k + 1 => by
    have := pow_mono2 h1 i k
    have p0 : 0 ≤ b ^ (i + k) := Int.pow_nonneg (by omega)
    have := Int.mul_le_mul_of_nonneg_left h1 p0
    rw [← Nat.add_assoc, Int.pow_succ]
    omega
theorem P4.pp {p : Int} (h : P4 p) : PP p := by
  rcases h with rfl | rfl | rfl | rfl
  · exact pps.1
  · exact pps.2.1
  · exact pps.2.2.1
  · exact pps.2.2.2.1
/-! the ball's own fraction -/
theorem pow_dvd_le {p : Int} {i j : Nat} (h : i ≤ j) : p ^ i ∣ p ^ j := ⟨p ^ (j - i), by rw [← Int.pow_add]; congr 1; omega⟩
theorem inv_ex {p u : Int} (hp : PP p) (hu : ¬ p ∣ u) : ∀ k : Nat, ∃ i, p ^ k ∣ i * u - 1
  | 0 => ⟨0, by simp⟩
  | 1 => by
    obtain ⟨i, _, _, h, _⟩ := inverse_ok u p [] (by have := hp.two; omega) hp.bd (by decide) (gcd_pr hp.pr hu)
    exact ⟨i, by rwa [Int.pow_succ, Int.pow_zero, Int.one_mul]⟩
  | k + 2 => by
    obtain ⟨i, c, hc⟩ := inv_ex hp hu (k + 1)
    refine ⟨i * (2 - i * u), ?_⟩
    have e : i * (2 - i * u) * u - 1 = p ^ (k + 1) * p ^ (k + 1) * -(c * c) := by
      have : i * (2 - i * u) * u - 1 = -((i * u - 1) * (i * u - 1)) := by grind
      rw [this, hc]
      grind
    rw [e, ← Int.pow_add]
    exact Int.dvd_mul_of_dvd_left (pow_dvd_le (by omega))
structure RpS (p n : Int) (x q : Fr) : Prop where
  nf : NF q
  isq : IsQ p n (toR q)
  near : Dv p n (toR q - toR x)
  low : ∃ j : Nat, q.2 = p ^ j ∧ j ≤ vl p x.2
theorem toR_nonneg {x : Fr} (hx : NF x) : 0 ≤ toR x ↔ 0 ≤ x.1 := by
  have h2 : (0 : Rat) < x.2 := by
    have := hx.1
    exact Rat.intCast_lt_intCast.mpr this
  unfold toR
  rw [Rat.div_def]
  have h3 : (0 : Rat) < (x.2 : Rat)⁻¹ := Rat.inv_pos.mpr h2
  constructor
  · intro h
    refine Classical.byContradiction fun n => ?_
    have n1 : (x.1 : Rat) < 0 := Rat.intCast_lt_intCast.mpr (by omega)
    have := Rat.mul_lt_mul_of_pos_right n1 h3
    grind
  · intro h
    have n1 : (0 : Rat) ≤ x.1 := Rat.intCast_le_intCast.mpr h
    exact Rat.mul_nonneg n1 (Rat.le_of_lt h3)
theorem pz_pos {p n : Int} (h : Pr p) : (0 : Rat) < (p : Rat) ^ n := by
  have hp : (0 : Int) < p := by have := h.two; omega
  exact Rat.zpow_pos (Rat.intCast_lt_intCast.mpr hp)
theorem den_pow {p d : Int} (hp : Pr p) (hd : 0 < d) : ∀ l : Nat, d ∣ p ^ l → ∃ j : Nat, d = p ^ j ∧ j ≤ l
  | 0, h => by
    rw [Int.pow_zero] at h
    have := Int.le_of_dvd (by decide) h
    exact ⟨0, by rw [Int.pow_zero]; omega, Nat.le_refl _⟩
  | l + 1, h => by
    have h2 := hp.two
    by_cases hpd : p ∣ d
    · obtain ⟨e, rfl⟩ := hpd
      have he : 0 < e := pos_of_mul (a := p) (by omega) hd
      have h' : e ∣ p ^ l := by
        obtain ⟨c, hc⟩ := h
        exact ⟨c, Int.eq_of_mul_eq_mul_left (a := p) (by omega) (by rw [Int.mul_comm, ← Int.pow_succ, hc]; ac_rfl)⟩
      obtain ⟨j, rfl, hj⟩ := den_pow hp he l h'
      exact ⟨j + 1, by rw [Int.pow_succ, Int.mul_comm], by omega⟩
    · have g := gcd_pr hp hpd
      rw [Int.gcd_comm] at g
      rw [Int.pow_succ, Int.mul_comm] at h
      obtain ⟨j, e, hj⟩ := den_pow hp hd l (cop_dvd g h)
      exact ⟨j, e, by omega⟩
theorem nf01 : NF (0, 1) := ⟨by decide, by decide⟩
theorem toR01 : toR (0, 1) = 0 := by
  rw [toR_zero nf01]
theorem vl_one' {p : Int} (hp : 2 ≤ p) : vl p 1 = 0 := by
  have := vl_pow hp 0
  rwa [Int.pow_zero] at this
theorem frac_den_dvd {n d : Int} (hd : d ≠ 0) : (frac n d).2 ∣ d := by
  obtain ⟨_, e2⟩ := frac_mul (n := n) hd
  exact ⟨_, by rw [Int.mul_comm]; exact e2.symm⟩
theorem rpS_mk {p n u r : Int} {x : Fr} {k : Nat} (hp : PP p) (hx : NF x) (e : x.2 = p ^ vl p x.2 * u) (hu : ¬ p ∣ u) (hk : (k : Int) = n + vl p x.2) (r0 : 0 ≤ r) (r1 : r < p ^ k) (rd : p ^ k ∣ r * u - x.1) : RpS p n x (frac r (p ^ vl p x.2)) := by
  have h2 := hp.two
  have pl := pow_ne h2 (vl p x.2)
  obtain ⟨c, key⟩ := rd
  have tq : toR (frac r (p ^ vl p x.2)) = (r : Rat) / ((p ^ vl p x.2 : Int) : Rat) := toR_frac pl
  have l0 := ic_ne pl
  have lp : (0 : Rat) < ((p ^ vl p x.2 : Int) : Rat) := Rat.intCast_lt_intCast.mpr (Int.pow_pos (by omega))
  have t1 : toR (frac r (p ^ vl p x.2)) * ((p ^ vl p x.2 : Int) : Rat) = r := by rw [tq]; grind
  have kn : ((p ^ k : Int) : Rat) = (p : Rat) ^ n * ((p ^ vl p x.2 : Int) : Rat) := by
    rw [← pz_nat, ← pz_nat, hk, pz_add hp.pr]
  refine ⟨frac_nf pl, ⟨?_, ?_, vl p x.2, r, by rw [pz_nat]; exact t1⟩, ⟨c, u, hu, ?_⟩, ?_⟩
  · refine Rat.le_of_mul_le_mul_right (c := ((p ^ vl p x.2 : Int) : Rat)) ?_ lp
    rw [t1]
    have : (0 : Rat) ≤ r := Rat.intCast_le_intCast.mpr r0
    grind
  · refine Rat.lt_of_mul_lt_mul_right (c := ((p ^ vl p x.2 : Int) : Rat)) ?_ (Rat.le_of_lt lp)
    rw [t1, ← kn]
    exact Rat.intCast_lt_intCast.mpr r1
  · have u0 : (u : Rat) ≠ 0 := ic_ne fun z => hu (z ▸ Int.dvd_zero p)
    have t2 : toR x * (((p ^ vl p x.2 : Int) : Rat) * u) = x.1 := by
      unfold toR
      have : ((x.2 : Int) : Rat) = ((p ^ vl p x.2 : Int) : Rat) * u := by rw [← Rat.intCast_mul, ← e]
      have x0 := ic_ne hx.ne
      rw [← this]
      grind
    have key' : (r : Rat) * u - x.1 = (p : Rat) ^ n * ((p ^ vl p x.2 : Int) : Rat) * (c : Rat) := by
      rw [← kn, ← Rat.intCast_mul, ← Rat.intCast_mul, ← Rat.intCast_sub, key]
    grind
  · exact den_pow hp.pr (frac_nf pl).1 _ (frac_den_dvd pl)
theorem rpS_zero {p n : Int} {x : Fr} (hp : PP p) (hx : NF x) (h : n + vl p x.2 ≤ 0 ∨ x.1 = 0) : RpS p n x (0, 1) := by
  refine ⟨nf01, ⟨by rw [toR01]; exact Rat.le_refl, by rw [toR01]; exact pz_pos hp.pr, 0, 0, by rw [toR01]; simp⟩, ?_, 0, by simp, Nat.zero_le _⟩
  rw [toR01]
  by_cases h1 : x.1 = 0
  · rw [(toR_zero hx).mpr h1]
    have : (0 : Rat) - 0 = 0 := by grind
    rw [this]
    exact .zero hp.pr
  · refine Dv.comm ?_
    have : toR x - 0 = toR x := by grind
    rw [this]
    refine (Dv.par hp.pr hx.ne h1).mpr ?_
    have := h.resolve_right h1
    unfold prt
    omega
theorem rp_ex {p n : Int} {x : Fr} (hp : PP p) (hx : NF x) : ∃ q, RpS p n x q := by
  have h2 := hp.two
  obtain ⟨u, e, hu⟩ := vl_spec h2 hx.ne
  by_cases hn : n + vl p x.2 ≤ 0
  · exact ⟨_, rpS_zero hp hx (.inl hn)⟩
  · obtain ⟨k, hk⟩ : ∃ k : Nat, (k : Int) = n + vl p x.2 := ⟨(n + vl p x.2).toNat, by omega⟩
    obtain ⟨i, c, hc⟩ := inv_ex hp hu k
    have pk := Int.pow_pos (n := p) (m := k) (by omega)
    refine ⟨_, rpS_mk hp hx e hu hk (Int.emod_nonneg (x.1 * i) (show p ^ k ≠ 0 by omega)) (Int.emod_lt_of_pos (x.1 * i) pk) ?_⟩
    obtain ⟨d, hd⟩ := sub_emod (x.1 * i) (p ^ k)
    refine ⟨c * x.1 - d * u, ?_⟩
    have e1 : x.1 * i % p ^ k * u - x.1 = x.1 * (i * u - 1) - (x.1 * i - x.1 * i % p ^ k) * u := by grind
    rw [e1, hc, hd]
    grind
open Classical in
noncomputable def rp (p n : Int) (x : Fr) : Fr := if h : ∃ q, RpS p n x q then Classical.choose h else x
section
variable {p n m : Int} {x y : Fr}
theorem rp_spec (hp : PP p) (hx : NF x) : RpS p n x (rp p n x) := by
  have h := rp_ex (n := n) hp hx
  unfold rp
  rw [dif_pos h]
  exact Classical.choose_spec h
theorem rp_nf (hp : PP p) (hx : NF x) : NF (rp p n x) := (rp_spec hp hx).nf
theorem rp_uniq (hp : PP p) (hx : NF x) {q : Fr} (nq : NF q) (iq : IsQ p n (toR q)) (d : Dv p n (toR q - toR x)) : rp p n x = q := by
  have s := rp_spec (n := n) hp hx
  exact s.nf.ext nq (s.isq.eq hp.pr iq (s.near.trans hp.pr d.comm))
theorem RpS.eq (hp : PP p) (hx : NF x) {q : Fr} (h : RpS p n x q) : rp p n x = q := rp_uniq hp hx h.nf h.isq h.near
theorem rp_iff (hp : PP p) (hx : NF x) (hy : NF y) : rp p n x = rp p n y ↔ Dv p n (toR x - toR y) := by
  have s := rp_spec (n := n) hp hx
  have t := rp_spec (n := n) hp hy
  constructor
  · intro h
    rw [h] at s
    exact s.near.comm.trans hp.pr t.near
  · intro d
    exact rp_uniq hp hx t.nf t.isq (t.near.trans hp.pr d.comm)
theorem rp_rp (hp : PP p) (hx : NF x) (h : m ≤ n) : rp p m (rp p n x) = rp p m x := by
  have s := rp_spec (n := n) hp hx
  exact (rp_iff hp s.nf hx).mpr (s.near.mono hp.pr h)
theorem rp_bd (hp : PP p) (hx : NF x) {N L : Nat} (hn : n ≤ N) (hl : vl p x.2 ≤ L) : BdP (7 * (N + L) + 1) (rp p n x) := by
  have h2 := hp.two
  have s := rp_spec (n := n) hp hx
  obtain ⟨j, e, hj⟩ := s.low
  have b0 := hp.bd.pow (N + L)
  have b1 : Bd (7 * (N + L) + 1) (p ^ j) := (hp.bd.pow j).up (by omega)
  refine ⟨?_, by rw [e]; exact b1⟩
  have q0 := (toR_nonneg s.nf).mp s.isq.lo
  have pj : (0 : Rat) < ((p ^ j : Int) : Rat) := Rat.intCast_lt_intCast.mpr (Int.pow_pos (by omega))
  have t1 : toR (rp p n x) * ((p ^ j : Int) : Rat) = (rp p n x).1 := by
    rw [← e]
    unfold toR
    have := ic_ne s.nf.ne
    grind
  have l1 : (rp p n x).1 < p ^ (N + L) := by
    refine Rat.intCast_lt_intCast.mp ?_
    rw [← t1]
    have a1 := Rat.mul_lt_mul_of_pos_right s.isq.hi pj
    refine Std.lt_of_lt_of_le a1 ?_
    rw [← pz_nat, ← pz_nat, ← pz_add hp.pr]
    obtain ⟨d, hd⟩ : ∃ d : Nat, ((N + L : Nat) : Int) = n + j + d := ⟨(((N + L : Nat) : Int) - (n + j)).toNat, by omega⟩
    rw [hd, pz_add (m := n + j) hp.pr, pz_nat (j := d)]
    have d1 : (1 : Rat) ≤ ((p ^ d : Int) : Rat) := Rat.intCast_le_intCast.mpr (Int.pow_pos (by omega))
    have p0 := pz_pos (n := n + j) hp.pr
    have := Rat.mul_le_mul_of_nonneg_left d1 (Rat.le_of_lt p0)
    grind
  unfold Bd at b0 ⊢
  have : 0 ≤ p ^ (N + L) := Int.pow_nonneg (by omega)
  omega
/-- which fractions a ball has -/
noncomputable def dvB (p n : Int) (x y : Fr) : Bool := @decide (Dv p n (toR x - toR y)) (Classical.propDecidable _)
theorem dvB_iff : dvB p n x y = true ↔ Dv p n (toR x - toR y) := by
  unfold dvB
  exact @decide_eq_true_iff _ (Classical.propDecidable _)
theorem dvB_zero (hp : PP p) (hx : NF x) (hy : NF y) (h : (subF x y).1 = 0) : dvB p n x y = true := by
  rw [dvB_iff, ← toR_sub hx hy, (toR_zero (subF_nf hx hy)).mpr h]
  exact .zero hp.pr
end
end
section
def b__law_parts_3 : Sms := (.cons (.ret (.var 2)) .nil)
def b__law_parts_2a : Sms := (.cons (.par [2, 4] (.cons (.bin .sub (.var 2) (.cst (.int 1))) (.cons (.bin .fdiv (.var 4) (.var 0)) .nil))) .nil)
def b__law_parts_2 : Sms := (.cons (.whil (.and (.cmp .gt (.var 0) (.cst (.int 1))) (.and (.cmp .ne (.var 4) (.cst (.int 0))) (.cmp .eq (.bin .mod (.var 4) (.var 0)) (.cst (.int 0))))) b__law_parts_2a) b__law_parts_3)
def b__law_parts_1a : Sms := (.cons (.par [2, 3] (.cons (.bin .add (.var 2) (.cst (.int 1))) (.cons (.bin .fdiv (.var 3) (.var 0)) .nil))) .nil)
def b__law_parts_1 : Sms := (.cons (.whil (.and (.cmp .gt (.var 0) (.cst (.int 1))) (.and (.cmp .ne (.var 3) (.cst (.int 0))) (.cmp .eq (.bin .mod (.var 3) (.var 0)) (.cst (.int 0))))) b__law_parts_1a) b__law_parts_2)
def b__law_parts : Sms := (.cons (.par [2, 3, 4] (.cons (.ite (.cmp .eq (.ix (.var 1) (.cst (.int 0))) (.cst (.int 0))) (.cst (.int 9999)) (.cst (.int 0))) (.cons (.ix (.var 1) (.cst (.int 0))) (.cons (.ix (.var 1) (.cst (.int 1))) .nil)))) b__law_parts_1)
def f__law_parts : Fn := fnOf 2 5 b__law_parts
def r__law_parts : List Req := []
theorem q__law_parts : rqSs b__law_parts = ([] : List Nat).map fun i => r__law_parts.getD i (.non "") := rfl
def b__law_power : Sms := (.cons (.ret (.ite (.cmp .ge (.var 1) (.cst (.int 0))) (.tup (.cons (.call "_law_raised" f__law_raised (.cons (.var 0) (.cons (.var 1) .nil))) (.cons (.cst (.int 1)) .nil))) (.tup (.cons (.cst (.int 1)) (.cons (.call "_law_raised" f__law_raised (.cons (.var 0) (.cons (.bin .sub (.cst (.int 0)) (.var 1)) .nil))) .nil))))) .nil)
def f__law_power : Fn := fnOf 2 2 b__law_power
def r__law_power : List Req := [.fn "_law_raised" f__law_raised]
theorem q__law_power : rqSs b__law_power = [0, 0].map fun i => r__law_power.getD i (.non "") := rfl
def b__law_turned_2 : Sms := (.cons (.ret (.bin .mod (.var 4) (.var 1))) .nil)
def b__law_turned_1a : Sms := (.cons (.setT (.cons (.nm 2) (.cons (.nm 3) (.cons (.nm 4) (.cons (.nm 5) .nil)))) (.tup (.cons (.var 3) (.cons (.bin .mod (.var 2) (.var 3)) (.cons (.var 5) (.cons (.bin .sub (.var 4) (.bin .mul (.bin .fdiv (.var 2) (.var 3)) (.var 5))) .nil)))))) .nil)
def b__law_turned_1 : Sms := (.cons (.whil (.cmp .ne (.var 3) (.cst (.int 0))) b__law_turned_1a) b__law_turned_2)
def b__law_turned : Sms := (.cons (.setT (.cons (.nm 2) (.cons (.nm 3) (.cons (.nm 4) (.cons (.nm 5) .nil)))) (.tup (.cons (.var 1) (.cons (.bin .mod (.var 0) (.var 1)) (.cons (.cst (.int 0)) (.cons (.cst (.int 1)) .nil)))))) b__law_turned_1)
def f__law_turned : Fn := fnOf 2 6 b__law_turned
def r__law_turned : List Req := []
theorem q__law_turned : rqSs b__law_turned = ([] : List Nat).map fun i => r__law_turned.getD i (.non "") := rfl
def b__law_ball_4 : Sms := (.cons (.ret (.tup (.cons (.var 1) (.cons (.call "_law_fraction" f__law_fraction (.cons (.bin .mod (.bin .mul (.ix (.var 2) (.cst (.int 0))) (.call "_law_turned" f__law_turned (.cons (.var 5) (.cons (.var 4) .nil)))) (.var 4)) (.cons (.call "_law_raised" f__law_raised (.cons (.var 0) (.cons (.bin .sub (.cst (.int 0)) (.var 3)) .nil))) .nil))) .nil)))) .nil)
def b__law_ball_3 : Sms := (.cons (.par [4, 5] (.cons (.call "_law_raised" f__law_raised (.cons (.var 0) (.cons (.bin .sub (.var 1) (.var 3)) .nil))) (.cons (.bin .fdiv (.ix (.var 2) (.cst (.int 1))) (.call "_law_raised" f__law_raised (.cons (.var 0) (.cons (.bin .sub (.cst (.int 0)) (.var 3)) .nil)))) .nil))) b__law_ball_4)
def b__law_ball_2a : Sms := (.cons (.ret (.tup (.cons (.var 1) (.cons (.tup (.cons (.cst (.int 0)) (.cons (.cst (.int 1)) .nil))) .nil)))) .nil)
def b__law_ball_2 : Sms := (.cons (.ite (.cmp .le (.var 1) (.var 3)) b__law_ball_2a .nil) b__law_ball_3)
def b__law_ball_1 : Sms := (.cons (.set 3 false (.call "_law_parts" f__law_parts (.cons (.var 0) (.cons (.tup (.cons (.cst (.int 1)) (.cons (.ix (.var 2) (.cst (.int 1))) .nil))) .nil)))) b__law_ball_2)
def b__law_ball_0a : Sms := (.cons (.ret (.tup (.cons (.var 1) (.cons (.tup (.cons (.cst (.int 0)) (.cons (.cst (.int 1)) .nil))) .nil)))) .nil)
def b__law_ball : Sms := (.cons (.ite (.cmp .eq (.ix (.var 2) (.cst (.int 0))) (.cst (.int 0))) b__law_ball_0a .nil) b__law_ball_1)
def f__law_ball : Fn := fnOf 3 6 b__law_ball
def r__law_ball : List Req := [.fn "_law_parts" f__law_parts, .fn "_law_raised" f__law_raised, .fn "_law_fraction" f__law_fraction, .fn "_law_turned" f__law_turned]
theorem q__law_ball : rqSs b__law_ball = [0, 1, 1, 2, 3, 1].map fun i => r__law_ball.getD i (.non "") := rfl
def b_power_of : Sms := (.cons (.ret (.ite (.cmp .ge (.var 1) (.cst (.int 0))) (.tup (.cons (.call "raised" f_raised (.cons (.var 0) (.cons (.var 1) .nil))) (.cons (.cst (.int 1)) .nil))) (.tup (.cons (.cst (.int 1)) (.cons (.call "raised" f_raised (.cons (.var 0) (.cons (.neg (.var 1)) .nil))) .nil))))) .nil)
def f_power_of : Fn := fnOf 2 2 b_power_of
def b_ball_4 : Sms := (.cons (.ret (.tup (.cons (.var 1) (.cons (.call "fraction" f_fraction (.cons (.call "rest" f_rest (.cons (.var 0) (.cons (.bin .add (.var 1) (.var 3)) (.cons (.call "times_of" f_times_of (.cons (.var 2) (.cons (.var 4) .nil))) .nil)))) (.cons (.ix (.var 4) (.cst (.int 0))) .nil))) .nil)))) .nil)
def b_ball_3 : Sms := (.cons (.set 4 false (.call "power_of" f_power_of (.cons (.var 0) (.cons (.var 3) .nil)))) b_ball_4)
def b_ball_2a : Sms := (.cons (.ret (.tup (.cons (.var 1) (.cons (.glob "ZERO" (.tuple [(.int 0), (.int 1)])) .nil)))) .nil)
def b_ball_2 : Sms := (.cons (.ite (.cmp .le (.bin .add (.var 1) (.var 3)) (.cst (.int 0))) b_ball_2a .nil) b_ball_3)
def b_ball_1 : Sms := (.cons (.set 3 false (.ix (.call "split_off" f_split_off (.cons (.var 0) (.cons (.ix (.var 2) (.cst (.int 1))) .nil))) (.cst (.int 0)))) b_ball_2)
def b_ball_0a : Sms := (.cons .never .nil)
def b_ball : Sms := (.cons (.ite (.or (.not (.call "is_number" f_is_number (.cons (.var 1) .nil))) (.not (.call "is_fraction" f_is_fraction (.cons (.var 2) .nil)))) b_ball_0a .nil) b_ball_1)
def f_ball : Fn := fnOf 3 5 b_ball
theorem md_ok {p : Int} (hp : 2 ≤ p) (x : Int) : bin .mod (.int x) (.int p) = some (false, .int (x % p)) := by rw [bin_mod (by omega), Int.fmod_eq_emod_of_nonneg _ (by omega)]
theorem dv_ok {p : Int} (hp : 2 ≤ p) (bp : Bd 10 p) (x : Int) : bin .fdiv (.int x) (.int p) = some (false, .int (x / p)) := by rw [bin_fdiv bp (by omega) (by decide), Int.fdiv_eq_ediv_of_nonneg _ (by omega)]
theorem law_parts_ok {k : Nat} (p : Int) (x : Fr) (st : Store) (hp : 2 ≤ p) (bp : Bd 10 p) (hx : x.2 ≠ 0) (h1 : x.1 ≠ 0) (bx : BdP k x) (hk : k ≤ 100000) : f__law_parts [.dat (.int p), .dat (eP x)] st = .ok ⟨false, .dat (.int (prt p x))⟩ st := by
  have gt : decide (1 < p) = true := decide_eq_true (by omega)
  refine Wp.is (wp_fn rfl ?_)
  simp! [b__law_parts, decide_eq_false h1, b__law_parts_1]
  refine wps_while (fun j env st' => st' = st ∧ ∃ (m : Int) (i : Nat), env = [.val (.dat (.int p)), .val (.dat (eP x)), .val (.dat (.int i)), .val (.dat (.int m)), .val (.dat (.int x.2))] ∧ m ≠ 0 ∧ x.1 = p ^ i * m ∧ j = vl p m) ?_ WF (vl p x.1) _ _ (Nat.lt_of_lt_of_le (vl_lt hp h1 bx.1) (Nat.le_trans hk (by decide))) ⟨rfl, x.1, 0, rfl, h1, by simp, rfl⟩
  rintro j env st' ⟨rfl, m, i, rfl, hm, e, rfl⟩
  simp! [gt, decide_eq_false hm, md_ok hp]
  refine ⟨fun h => ?_, fun h => ?_⟩
  · have hd : p ∣ m := Int.dvd_of_emod_eq_zero (of_decide_eq_true h)
    obtain ⟨_, h2, h3⟩ := div_lt hp hm hd
    simp! [b__law_parts_1a, dv_ok hp bp]
    refine ⟨vl p (m / p), by rw [vl_step hp hm hd]; omega, by trivial, m / p, i + 1, rfl, h2, ?_, rfl⟩
    rw [Int.pow_succ, e]
    conv => lhs; rw [h3]
    ac_rfl
  · have hd : ¬ p ∣ m := fun q => by
      rw [Int.emod_eq_zero_of_dvd q] at h
      simp at h
    obtain ⟨e1, _⟩ := left_of hp h1 e hd
    simp! [b__law_parts_2]
    refine wps_while (fun j env st2 => st2 = st' ∧ ∃ (u : Int) (l : Nat), env = [.val (.dat (.int p)), .val (.dat (eP x)), .val (.dat (.int ((i : Int) - l))), .val (.dat (.int m)), .val (.dat (.int u))] ∧ u ≠ 0 ∧ x.2 = p ^ l * u ∧ j = vl p u) ?_ WF (vl p x.2) _ _ (Nat.lt_of_lt_of_le (vl_lt hp hx bx.2) (Nat.le_trans hk (by decide))) ⟨rfl, x.2, 0, by simp, hx, by simp, rfl⟩
    rintro j env st2 ⟨rfl, u, l, rfl, hu, f, rfl⟩
    simp! [gt, decide_eq_false hu, md_ok hp]
    refine ⟨fun h => ?_, fun h => ?_⟩
    · have hd : p ∣ u := Int.dvd_of_emod_eq_zero (of_decide_eq_true h)
      obtain ⟨_, h2, h3⟩ := div_lt hp hu hd
      simp! [b__law_parts_2a, dv_ok hp bp]
      refine ⟨vl p (u / p), by rw [vl_step hp hu hd]; omega, by trivial, u / p, l + 1, ?_, h2, ?_, rfl⟩
      · have : (i : Int) - l - 1 = (i : Int) - ((l + 1 : Nat) : Int) := by omega
        rw [this]
      · rw [Int.pow_succ, f]
        conv => lhs; rw [h3]
        ac_rfl
    · have hd : ¬ p ∣ u := fun q => by
        rw [Int.emod_eq_zero_of_dvd q] at h
        simp at h
      obtain ⟨f1, _⟩ := left_of hp hx f hd
      simp! [b__law_parts_3]
      unfold prt
      rw [e1, f1]
      exact ⟨rfl, rfl⟩
theorem partsP {k : Nat} {p : Int} {x : Fr} {st : Store} (hp : PP p) (hx : NF x) (h1 : x.1 ≠ 0) (bx : BdP k x) (hk : k ≤ 100000 := by decide) : f_parts [.dat (.int p), .dat (eP x)] st = .ok ⟨false, .dat (.int (prt p x))⟩ st := by
  rw [parts_ok p x st hp.two (hp.bd.up (by decide)) hx.ne bx hk]
  simp [ptO, h1, eN]
theorem lpartsP {k : Nat} {p : Int} {x : Fr} {st : Store} (hp : PP p) (hx : NF x) (h1 : x.1 ≠ 0) (bx : BdP k x) (hk : k ≤ 100000 := by decide) : f__law_parts [.dat (.int p), .dat (eP x)] st = .ok ⟨false, .dat (.int (prt p x))⟩ st := law_parts_ok p x st hp.two (hp.bd.up (by decide)) hx.ne h1 bx hk
def pw (p n : Int) : Fr := if 0 ≤ n then (p ^ n.toNat, 1) else (1, p ^ (-n).toNat)
theorem law_power_ok {p : Int} (hp : PP p) (n : Int) (st : Store) (h : n.natAbs ≤ 1000) : f__law_power [.dat (.int p), .dat (.int n)] st = .ok ⟨false, .dat (eP (pw p n))⟩ st := by
  refine fn_eq rfl ?_
  by_cases h0 : 0 ≤ n
  · simp! [b__law_power, decide_eq_true h0, raised_ok (k := 7) p n st hp.bd (by omega) (by omega) (by omega)]
    simp [pw, h0, eP]
  · simp! [b__law_power, decide_eq_false h0, raised_ok (k := 7) p (0 - n) st hp.bd (by omega) (by omega) (by omega)]
    simp [pw, h0, eP]
theorem power_of_ok {p : Int} (hp : PP p) (n : Int) (st : Store) (h : n.natAbs ≤ 1000) : f_power_of [.dat (.int p), .dat (.int n)] st = .ok ⟨false, .dat (eP (pw p n))⟩ st := by
  refine fn_eq rfl ?_
  by_cases h0 : 0 ≤ n
  · simp! [b_power_of, decide_eq_true h0, prog_raised_ok (k := 7) p n st hp.bd (by omega) (by omega) (by omega)]
    simp [pw, h0, eP]
  · simp! [b_power_of, decide_eq_false h0, prog_raised_ok (k := 7) p (-n) st hp.bd (by omega) (by omega) (by omega)]
    simp [pw, h0, eP]
theorem pw_nf {p n : Int} (hp : PP p) : NF (pw p n) := by
  have h2 := hp.two
  unfold pw
  split
  · exact ⟨Int.one_pos, by simp⟩
  · exact ⟨Int.pow_pos (by omega), by simp⟩
theorem pw_bd {p n : Int} {N : Nat} (hp : PP p) (h : n.natAbs ≤ N) : BdP (7 * N + 1) (pw p n) := by
  unfold pw
  split
  · exact ⟨(hp.bd.pow _).up (by omega), bd1 _⟩
  · exact ⟨bd1 _, (hp.bd.pow _).up (by omega)⟩
theorem vl_one {p : Int} (hp : 2 ≤ p) : vl p 1 = 0 := vl_one' hp
theorem toR_pw {p n : Int} (hp : PP p) : toR (pw p n) = (p : Rat) ^ n := by
  unfold pw
  split
  · rename_i h
    rw [toR_int, ← pz_nat, Int.toNat_of_nonneg h]
  · rename_i h
    show ((1 : Int) : Rat) / ((p ^ (-n).toNat : Int) : Rat) = _
    rw [← pz_nat]
    have e : ((-n).toNat : Int) = -n := by omega
    rw [e]
    have a := pz_add (m := n) (n := -n) hp.pr
    rw [Int.add_right_neg, Rat.zpow_zero] at a
    have b := pz_ne (n := -n) hp.pr
    have c : ((1 : Int) : Rat) = 1 := by simp
    rw [c]
    grind
theorem turned_ok {k : Nat} (n W : Int) (st : Store) (hW : 1 ≤ W) (bW : Bd k W) (hk : k ≤ 4000) (hg : Int.gcd n W = 1) : ∃ i, 0 ≤ i ∧ i < W ∧ W ∣ i * n - 1 ∧ f__law_turned [.dat (.int n), .dat (.int W)] st = .ok ⟨false, .dat (.int i)⟩ st := by
  have md : ∀ x, bin .mod (.int x) (.int W) = some (false, .int (x % W)) := fun x => by rw [bin_mod (by omega), Int.fmod_eq_emod_of_nonneg _ (by omega)]
  have m0 := Int.emod_nonneg n (show W ≠ 0 by omega)
  have m1 := Int.emod_lt_of_pos n (show 0 < W by omega)
  have I0 : InvL n W W (n % W) 0 1 := ⟨by omega, m0, ⟨-1, by omega⟩, by
    rw [Int.one_mul]
    exact sub_emod n W, by simp, .inr ⟨by decide, by decide⟩, by omega, by simp, by
      have e1 : n % W = n - n / W * W := by
        have := Int.mul_ediv_add_emod n W
        rw [Int.mul_comm] at this
        omega
      have e : Int.gcd (n % W) W = Int.gcd n W := by
        rw [e1]
        exact Int.gcd_sub_mul_right_left W n (n / W)
      rw [Int.gcd_comm]
      exact e⟩
  have bw : W.natAbs < 2 ^ k := bW
  have w : Wp (f__law_turned [.dat (.int n), .dat (.int W)] st) fun x st' => st' = st ∧ ∃ i, 0 ≤ i ∧ i < W ∧ W ∣ i * n - 1 ∧ x = ⟨false, .dat (.int i)⟩ := by
    refine wp_fn rfl ?_
    simp! [b__law_turned, md, b__law_turned_1]
    refine wps_while (fun j env st' => st' = st ∧ ∃ (a b h t : Int), env = [.val (.dat (.int n)), .val (.dat (.int W)), .val (.dat (.int a)), .val (.dat (.int b)), .val (.dat (.int h)), .val (.dat (.int t))] ∧ InvL n W a b h t ∧ (a ≤ W ∧ b ≤ W) ∧ Tn j a b) ?_ WF (2 * k + 1) _ _ (Nat.lt_of_le_of_lt (show 2 * k + 1 ≤ 8001 by omega) (by decide)) ⟨rfl, _, _, _, _, rfl, I0, ⟨Int.le_refl _, by omega⟩, fun _ => ?_, fun q => by omega⟩
    · rintro j env st' ⟨rfl, a, b, h, t, rfl, I, ⟨aW, bWW⟩, T⟩
      simp!
      refine ⟨fun hc => ?_, fun hc => ?_⟩
      · have hb : b ≠ 0 := by simpa using hc
        obtain ⟨J, e, q0, qa⟩ := I.step hb
        have b1 : 0 < b := by
          have := I.b0
          omega
        obtain ⟨m', hm, T'⟩ := T.step I.a0 b1
        have bbd : Bd k b := by
          unfold Bd
          omega
        have qb : Bd k (a / b) := by unfold Bd; omega
        have dv : bin .fdiv (.int a) (.int b) = some (false, .int (a / b)) := by rw [bin_fdiv bbd hb (by omega), Int.fdiv_eq_ediv_of_nonneg _ (by omega)]
        have mb : bin .mod (.int a) (.int b) = some (false, .int (a % b)) := by rw [bin_mod hb, Int.fmod_eq_emod_of_nonneg _ (by omega)]
        have tb : Bd k t := by
          have := I.ht
          unfold Bd
          omega
        rw [e] at J
        simp! [b__law_turned_1a, dv, mb, bin_mul qb tb (by omega)]
        exact ⟨m', hm, by trivial, _, _, _, _, rfl, J, ⟨bWW, by have := Int.emod_lt_of_pos a b1; omega⟩, T'⟩
      · have hb : b = 0 := by simpa using hc
        subst hb
        have ga := I.g
        rw [hg] at ga
        have a1 : a = 1 := by
          have : Int.gcd a 0 = a.natAbs := Int.gcd_zero_right a
          have := I.a0
          omega
        subst a1
        simp! [b__law_turned_2, md]
        refine ⟨by trivial, h % W, Int.emod_nonneg _ (by omega), Int.emod_lt_of_pos _ (by omega), ?_, rfl⟩
        have d1 := I.ah
        have d2 : W ∣ h - h % W := sub_emod h W
        have : h % W * n - 1 = (h * n - 1) - (h - h % W) * n := by grind
        rw [this]
        exact Int.dvd_sub d1 (Int.dvd_mul_of_dvd_left d2)
    · have : W.natAbs * (n % W).natAbs < 2 ^ k * 2 ^ k := Nat.mul_lt_mul'' bw (by omega)
      rw [← Nat.pow_add] at this
      exact Nat.lt_of_lt_of_le this (Nat.pow_le_pow_right (by decide) (by omega))
  obtain ⟨x, st', e, rfl, i, h1, h2, h3, rfl⟩ := w.ex
  exact ⟨i, h1, h2, h3, e⟩
/-! balls -/
abbrev Bl := Int × Fr
def eB (u : Bl) : MP.D := .tuple [.int u.1, eP u.2]
theorem eB_fl (u : Bl) : Fl 2 (eB u) := .tup (.cons ((Fl.int _).up (by decide)) (.cons (eP_fl _) .nil))
theorem eB_inj {a b : Bl} : eB a = eB b ↔ a = b := by
  obtain ⟨a1, a2⟩ := a
  obtain ⟨b1, b2⟩ := b
  constructor
  · intro h
    simp only [eB, PyData.tuple.injEq, List.cons.injEq, PyData.int.injEq, and_true] at h
    rw [h.1, eP_inj.mp h.2]
  · intro h
    rw [h]
@[simp] theorem eq_eB (a b : Bl) : cmpD .eq (eB a) (eB b) = some (decide (a = b)) := (eB_fl a).eq (eB_fl b) (by decide) (by decide) eB_inj
@[simp] theorem ne_eB (a b : Bl) : cmpD .ne (eB a) (eB b) = some (!decide (a = b)) := (eB_fl a).ne (eB_fl b) (by decide) (by decide) eB_inj
theorem lB_fl (q : List Bl) : Fl 3 (.list (q.map eB)) := .lst (.map fun a _ => eB_fl a)
theorem lB_inj {a b : List Bl} : PyData.list (a.map eB) = .list (b.map eB) ↔ a = b := by
  rw [PyData.list.injEq]
  exact map_inj (fun _ _ => eB_inj) a b
@[simp] theorem eq_lB (a b : List Bl) : cmpD .eq (.list (a.map eB)) (.list (b.map eB)) = some (decide (a = b)) := (lB_fl a).eq (lB_fl b) (by decide) (by decide) lB_inj
@[simp] theorem ne_lB (a b : List Bl) : cmpD .ne (.list (a.map eB)) (.list (b.map eB)) = some (!decide (a = b)) := (lB_fl a).ne (lB_fl b) (by decide) (by decide) lB_inj
theorem eB_i0 {f g : Bool} {q : Bl} {st : Store} : ixV ⟨f, .dat (eB q)⟩ ⟨g, .dat (.int 0)⟩ st = .ok ⟨false, .dat (.int q.1)⟩ st := Eq.trans rfl rfl
theorem eB_i1 {f g : Bool} {q : Bl} {st : Store} : ixV ⟨f, .dat (eB q)⟩ ⟨g, .dat (.int 1)⟩ st = .ok ⟨false, .dat (eP q.2)⟩ st := Eq.trans rfl rfl
theorem eB_bt {ts : Tgs} {q : Bl} {env : MP.Env} : bindTg (.tup ts) (eB q) env = bindTgs ts [.int q.1, eP q.2] env := Eq.trans rfl rfl
theorem eB_sz {b : Nat} {u : Bl} (h0 : Bd b u.1) (h1 : BdP b u.2) (hb : b ≤ 1900) : Sz 2 (3 * b + 22) (eB u) := (Sz.tup (.cons (Sz.int h0 hb) (.cons (eP_sz h1.1 h1.2 hb) (Szs.nil (k := 0) (w := 0))))).up (by decide) (by omega)
theorem isfrac_ok {x : Fr} {st : Store} (hx : NF x) : f_is_fraction [.dat (eP x)] st = .ok ⟨false, .dat (.bool true)⟩ st := by
  have e : f_is_row_of_numbers [.dat (eP x), .dat (.int 2)] st = .ok ⟨false, .dat (.bool true)⟩ st := isrow_ok _ 2 st (by simp)
  have g : bltF .gcd [.int x.1, .int x.2] = some (false, .int (Int.gcd x.1 x.2 : Nat)) := rfl
  refine fn_eq rfl ?_
  simp! [b_is_fraction, e, decide_eq_true hx.1, g]
  rw [hx.2]
  rfl
section
variable {p n : Int} {x y : Fr} {st : Store} {k l L : Nat}
theorem rest_eq (hp : PP p) (hx : NF x) {u : Int} (e : x.2 = p ^ vl p x.2 * u) (hu : ¬ p ∣ u) : NF (mulF x (p ^ vl p x.2, 1)) ∧ ¬ p ∣ (mulF x (p ^ vl p x.2, 1)).2 ∧
    ∃ c, u = (mulF x (p ^ vl p x.2, 1)).2 * c ∧ x.1 = (mulF x (p ^ vl p x.2, 1)).1 * c := by
  have h2 := hp.two
  have x0 : x.2 * 1 ≠ 0 := by rw [Int.mul_one]; exact hx.ne
  have hy : NF (mulF x (p ^ vl p x.2, 1)) := frac_nf x0
  have cr : (mulF x (p ^ vl p x.2, 1)).1 * (x.2 * 1) = x.1 * p ^ vl p x.2 * (mulF x (p ^ vl p x.2, 1)).2 := frac_cross x0
  generalize mulF x (p ^ vl p x.2, 1) = y at hy cr ⊢
  have cr2 : y.1 * u = x.1 * y.2 := by
    refine Int.eq_of_mul_eq_mul_left (pow_ne h2 (vl p x.2)) ?_
    rw [Int.mul_one] at cr
    conv at cr => lhs; rw [e]
    grind
  have d : y.2 ∣ u := cop_dvd hy.2 ⟨x.1, by rw [cr2, Int.mul_comm]⟩
  obtain ⟨c, rfl⟩ := d
  refine ⟨hy, fun q => hu (Int.dvd_mul_of_dvd_left q), c, rfl, ?_⟩
  exact Int.eq_of_mul_eq_mul_right hy.ne (by rw [← cr2]; ac_rfl)
theorem ball_ok (st : Store) (hp : PP p) (hx : NF x) (bx : BdP k x) (hl : vl p x.2 ≤ L) (hn : n ≤ 300) (hk : k ≤ 2000 := by decide) (hL : L ≤ 268 := by decide) : f_ball [.dat (.int p), .dat (.int n), .dat (eP x)] st = .ok ⟨false, .dat (eB (n, rp p n x))⟩ st := by
  have h2 := hp.two
  obtain ⟨u, e, hu⟩ := vl_spec h2 hx.ne
  refine fn_eq rfl ?_
  simp! [b_ball, isnum_int, isfrac_ok hx, b_ball_1, split_ok p x.2 st h2 (hp.bd.up (by decide)) hx.ne bx.2 (by omega), b_ball_2]
  by_cases hn0 : n + vl p x.2 ≤ 0
  · simp! [decide_eq_true hn0, b_ball_2a]
    rw [(rpS_zero (n := n) hp hx (.inl hn0)).eq hp hx]
    rfl
  · obtain ⟨y1, y2, c, y3, y4⟩ := rest_eq hp hx e hu
    have bp : BdP (7 * L + 1) (p ^ vl p x.2, (1 : Int)) := ⟨(hp.bd.pow _).up (by omega), bd1 _⟩
    have np : NF (p ^ vl p x.2, (1 : Int)) := ⟨Int.one_pos, by simp⟩
    have w : pw p (vl p x.2 : Int) = (p ^ vl p x.2, 1) := by simp [pw]
    have by' := mulF_bd bx bp
    obtain ⟨j, hj⟩ : ∃ j : Nat, (j : Int) = n + vl p x.2 := ⟨(n + vl p x.2).toNat, by omega⟩
    obtain ⟨r, r0, r1, rd, er⟩ := rest_ok p (n + vl p x.2) _ st hp.pr hp.bd (by omega) (by omega) by' y2 (by omega) (by omega)
    have ej : (n + (vl p x.2 : Int)).toNat = j := by omega
    rw [ej] at r1 rd
    have br : Bd 3990 r := by
      have := hp.bd.pow j
      have : Bd 3990 (p ^ j) := this.up (by omega)
      unfold Bd at this ⊢
      omega
    have rd' : p ^ j ∣ r * u - x.1 := by
      have e1 : r * u - x.1 = c * ((mulF x (p ^ vl p x.2, 1)).2 * r - (mulF x (p ^ vl p x.2, 1)).1) := by
        conv => lhs; rw [y3, y4]
        grind
      rw [e1]
      exact Int.dvd_mul_of_dvd_right rd
    have m := (rpS_mk hp hx e hu hj r0 r1 rd').eq hp hx
    simp! [decide_eq_false hn0, b_ball_3, power_of_ok hp (vl p x.2 : Int) st (by omega), w, b_ball_4, times_ok st bx bp hx np (by omega), er, prog_fraction_ok r (p ^ vl p x.2) st br bp.1 (pow_ne h2 _) (by omega)]
    rw [m]
    rfl
theorem law_ball_ok (st : Store) (hp : PP p) (hx : NF x) (bx : BdP k x) (hl : vl p x.2 ≤ L) (hn : n ≤ 300) (hk : k ≤ 2000 := by decide) (hL : L ≤ 268 := by decide) : f__law_ball [.dat (.int p), .dat (.int n), .dat (eP x)] st = .ok ⟨false, .dat (eB (n, rp p n x))⟩ st := by
  have h2 := hp.two
  obtain ⟨u, e, hu⟩ := vl_spec h2 hx.ne
  refine fn_eq rfl ?_
  by_cases x0 : x.1 = 0
  · simp! [b__law_ball, decide_eq_true x0, b__law_ball_0a]
    rw [(rpS_zero (n := n) hp hx (.inr x0)).eq hp hx]
    rfl
  · have l1 := law_parts_ok p (1, x.2) st h2 (hp.bd.up (by decide)) hx.ne Int.one_ne_zero (k := k + 1) ⟨bd1 _, bx.2.up (by omega)⟩ (by omega)
    have l2 : prt p (1, x.2) = -(vl p x.2 : Int) := by
      show (vl p 1 : Int) - vl p x.2 = _
      rw [vl_one h2]
      omega
    rw [l2, eP_mk] at l1
    simp! [b__law_ball, decide_eq_false x0, b__law_ball_1, l1, b__law_ball_2]
    by_cases hn0 : n ≤ -(vl p x.2 : Int)
    · simp! [decide_eq_true hn0, b__law_ball_2a]
      rw [(rpS_zero (n := n) hp hx (.inl (by omega))).eq hp hx]
      rfl
    · obtain ⟨j, hj⟩ : ∃ j : Nat, (j : Int) = n + vl p x.2 := ⟨(n + vl p x.2).toNat, by omega⟩
      have c1 : f__law_raised [.dat (.int p), .dat (.int (n - -(vl p x.2 : Int)))] st = .ok ⟨false, .dat (.int (p ^ j))⟩ st := by
        rw [raised_ok (k := 7) p _ st hp.bd (by omega) (by omega) (by omega)]
        congr 5
        omega
      have c2 : f__law_raised [.dat (.int p), .dat (.int (0 - -(vl p x.2 : Int)))] st = .ok ⟨false, .dat (.int (p ^ vl p x.2))⟩ st := by
        rw [raised_ok (k := 7) p _ st hp.bd (by omega) (by omega) (by omega)]
        congr 5
        omega
      have bl : Bd (7 * L + 1) (p ^ vl p x.2) := (hp.bd.pow _).up (by omega)
      have bj : Bd 3990 (p ^ j) := (hp.bd.pow _).up (by omega)
      have dv : bin .fdiv (.int x.2) (.int (p ^ vl p x.2)) = some (false, .int u) := by
        rw [bin_fdiv bl (pow_ne h2 _) (by omega), Int.fdiv_eq_ediv_of_nonneg _ (Int.pow_nonneg (by omega))]
        congr 3
        conv => lhs; lhs; rw [e]
        exact Int.mul_ediv_cancel_left _ (pow_ne h2 _)
      have pj : 0 < p ^ j := Int.pow_pos (by omega)
      obtain ⟨i, i0, i1, id, ei⟩ := turned_ok u (p ^ j) st (by omega) bj (by decide) (gcd_pow hp.pr hu _)
      have bi : Bd 3990 i := by
        unfold Bd at bj ⊢
        omega
      have r0 := Int.emod_nonneg (x.1 * i) (show p ^ j ≠ 0 by omega)
      have r1 := Int.emod_lt_of_pos (x.1 * i) pj
      have md : bin .mod (.int (x.1 * i)) (.int (p ^ j)) = some (false, .int (x.1 * i % p ^ j)) := by rw [bin_mod (by omega), Int.fmod_eq_emod_of_nonneg _ (by omega)]
      have br : Bd 3990 (x.1 * i % p ^ j) := by
        unfold Bd at bj ⊢
        omega
      have rd : p ^ j ∣ x.1 * i % p ^ j * u - x.1 := by
        obtain ⟨c, hc⟩ := id
        obtain ⟨d, hd⟩ := sub_emod (x.1 * i) (p ^ j)
        refine ⟨c * x.1 - d * u, ?_⟩
        have e1 : x.1 * i % p ^ j * u - x.1 = x.1 * (i * u - 1) - (x.1 * i - x.1 * i % p ^ j) * u := by grind
        rw [e1, hc, hd]
        grind
      have m := (rpS_mk hp hx e hu hj r0 r1 rd).eq hp hx
      simp! [decide_eq_false hn0, b__law_ball_3, c1, c2, dv, b__law_ball_4, ei, bin_mul bx.1 bi (by omega), md, fraction_ok _ (p ^ vl p x.2) st br bl (pow_ne h2 _) (by decide) (by omega)]
      rw [m]
      rfl
end
/-! the least ball about two -/
def mt (p : Int) (x y : Fr) (n : Int) : Int := if (subF x y).1 = 0 then n else min n (prt p (subF x y))
def top (p : Int) (u v : Bl) : Int := mt p u.2 v.2 (min u.1 v.1)
section
variable {p k : Int} {u v w : Bl}
theorem le_mt {x y : Fr} {n : Int} (hp : PP p) (hx : NF x) (hy : NF y) : k ≤ mt p x y n ↔ k ≤ n ∧ Dv p k (toR x - toR y) := by
  unfold mt
  split
  · rename_i z
    have d := dvB_iff.mp (dvB_zero (n := k) hp hx hy z)
    exact ⟨fun h => ⟨h, d⟩, fun h => h.1⟩
  · rename_i z
    have e := Dv.par (n := k) hp.pr (subF_nf hx hy).ne z
    rw [toR_sub hx hy] at e
    rw [e]
    omega
theorem le_top (hp : PP p) (hu : NF u.2) (hv : NF v.2) : k ≤ top p u v ↔ k ≤ u.1 ∧ k ≤ v.1 ∧ Dv p k (toR u.2 - toR v.2) := by
  unfold top
  rw [le_mt hp hu hv]
  constructor
  · rintro ⟨a, b⟩
    exact ⟨by omega, by omega, b⟩
  · rintro ⟨a, b, c⟩
    exact ⟨by omega, c⟩
variable {i j : Nat} {st : Store}
def stp (p : Int) (u v : Bl) : Int := u.1 + v.1 - 2 * top p u v
end
end
section
/-! words: letters (number, 1 or -1) -/
abbrev Wd := List (Int × Int)
def inv (x : Int × Int) : Int × Int := (x.1, -x.2)
/-- no letter beside its back -/
def Rd : Wd → Prop
  | x :: y :: t => y ≠ inv x ∧ Rd (y :: t)
  | _ => True
theorem Rd.tail {x : Int × Int} {t : Wd} (h : Rd (x :: t)) : Rd t := by
  cases t with
  | nil => exact trivial
  | cons y t => exact h.2
/-- letters of so many moves -/
def Lok (n : Int) (x : Int × Int) : Prop := 0 ≤ x.1 ∧ x.1 < n ∧ (x.2 = 1 ∨ x.2 = -1)
theorem Lok.inv {n : Int} {x : Int × Int} (h : Lok n x) : Lok n (inv x) := ⟨h.1, h.2.1, by
  unfold MK.inv
  rcases h.2.2 with e | e <;> simp [e]⟩
def Wok (n : Int) (w : Wd) : Prop := ∀ x ∈ w, Lok n x
theorem Wok.app {n : Int} {v w : Wd} (h : Wok n v) (q : Wok n w) : Wok n (v ++ w) := fun x hx => (List.mem_append.mp hx).elim (h x) (q x)
/-! the program's -/
end
local macro_rules | `(tactic| simp! [$ls,*]) => `(tactic| simp only [$ls,*, eB_i0, eB_i1, eB_bt, eq_eB, ne_eB, eq_lB, ne_lB, eP_i0, eP_i1, eP_bt, eM_i0, eM_i1, eM_i2, eM_i3, eM_bt, eq_eP, ne_eP, eq_lP, ne_lP, eq_eM, ne_eM, eq_lM, ne_lM, cmp_strN, cmp_strE, ev_var, ev_cst, ev_glob, ev_neg, ev_not, ev_bin, ev_cmp, ev_chain, ev_and, ev_or, ev_ite, ev_tup, ev_lst, ev_ix, ev_slice, ev_rev, ev_call, ev_blt, ev_isi, ev_dicn, ev_dhasT, ev_dhasF, ev_dget, ev_dsort, ev_dixl, ev_revc, ev_cntL, ev_lrng1, ev_lrng2, blt_intB, es_dput, dgT_o, dpT_o, dgR_s, dxR_s, er_dhas, er_dget, er_dsort, er_dixl, ev_comp, ev_compF, ev_comp2, ev_comp2F, evA_n, evA_c, evA_s, evV_n, evV_c, evP_n, evP_c, evO_n, evO_s, evC_n, evC_s, evI_s, evI_1, evI_2, evI_3, evI_e, evI_z, listOf_l, zipD_l, zipD_t, es_pass, es_exp, es_set, es_setO, es_setT, es_par, es_parO, ownOf_t, evR_n, evR_f, evR_t, pS_n, pS_c, es_ite, es_whil, es_for, es_brk, es_cnt, es_frz, ess_n, ess_c, er_var, er_cst, er_glob, er_neg, er_not, er_bin, er_cmp, er_chain, er_and, er_or, er_ite, er_tup, er_lst, er_ix, er_slice, er_rev, er_call, er_blt, er_isi, er_comp, appR_o, augR_a, augR_s, frzR_o, varR_v, varR_o, retR_o, retR_v, ixR_s, ix_l, ix_t, bT_ok, sT_ok, qT_nx, qT_rt, qT_br, qT_ct, qT_ex, bT_exc, sT_exc, tT_ex, es_rais, es_try, es_tryY, optS_s, zT_nx, zT_rt, zT_ex, yT_nx, yT_rt, yT_br, yT_ct, yT_ex, es_clr, clrR_o, Cb_t, Cb_f, oT_s, tT_nx, tT_ct, tT_br, tT_rt, turn_nx, turn_ct, turn_br, turn_rt, datOf_dat, intOf_int, boolOf_bool, plain_eq, fresh_eq, ofBD_some, ofB_some, rOpt_some, seqOf_l, seqOf_t, lit_int, lit_str, lit_bool, lit_none, wp_ok, wp_bind, wps_sr, wps_seq, wps_tT, wps_nx, wps_rt, wps_br, wps_ct, List.getElem?_cons_zero, List.getElem?_cons_succ, List.set_cons_zero, List.set_cons_succ, List.map_cons, List.map_nil, Nat.reduceSub, List.replicate_succ, List.replicate_zero, List.cons_append, List.nil_append, List.append_nil, putVals, bt_nm, bt_t, bt_l, btT_s, bts_n, bts_c, wipeE, bin_int_add, bin_int_sub, cmp_int_eq, cmp_int_ne, cmp_int_lt, cmp_int_le, cmp_int_gt, cmp_int_ge, ix_0, ix_1, ix_2, ix_3, ix_4, ix_5, ix_6, ix_7, ix_m1, blt_absI, blt_intI, blt_tupL, blt_tupT, blt_lstL, blt_lstT, blt_lenL, blt_lenT, blt_lenLm, blt_lenTm, blt_min2, blt_max2, blt_min3, blt_max3, isi_n, isi_b, isi_i, isi_s, isi_l, isi_t, fits_0, fits_1, fits_2, fits_3, fits_4, fits_5, fits_6, fits_7, fits_8, fits_9, fits_10, fits_11, fits_12, fits_13, fits_14, fits_15, fits_16, fitsS_0, fitsS_1, fitsS_2, fitsS_3, fitsS_4, List.length_cons, List.length_nil, Nat.zero_add, Nat.reduceAdd, Bool.not_true, Bool.not_false, decide_true, decide_false, Int.reduceNeg, Int.reduceSub, Int.reduceAdd, Int.reduceLT, Int.reduceLE, Int.reduceEq, Int.reduceMul])
local macro_rules | `(tactic| simp!) => `(tactic| simp only [eB_i0, eB_i1, eB_bt, eq_eB, ne_eB, eq_lB, ne_lB, eP_i0, eP_i1, eP_bt, eM_i0, eM_i1, eM_i2, eM_i3, eM_bt, eq_eP, ne_eP, eq_lP, ne_lP, eq_eM, ne_eM, eq_lM, ne_lM, cmp_strN, cmp_strE, ev_var, ev_cst, ev_glob, ev_neg, ev_not, ev_bin, ev_cmp, ev_chain, ev_and, ev_or, ev_ite, ev_tup, ev_lst, ev_ix, ev_slice, ev_rev, ev_call, ev_blt, ev_isi, ev_dicn, ev_dhasT, ev_dhasF, ev_dget, ev_dsort, ev_dixl, ev_revc, ev_cntL, ev_lrng1, ev_lrng2, blt_intB, es_dput, dgT_o, dpT_o, dgR_s, dxR_s, er_dhas, er_dget, er_dsort, er_dixl, ev_comp, ev_compF, ev_comp2, ev_comp2F, evA_n, evA_c, evA_s, evV_n, evV_c, evP_n, evP_c, evO_n, evO_s, evC_n, evC_s, evI_s, evI_1, evI_2, evI_3, evI_e, evI_z, listOf_l, zipD_l, zipD_t, es_pass, es_exp, es_set, es_setO, es_setT, es_par, es_parO, ownOf_t, evR_n, evR_f, evR_t, pS_n, pS_c, es_ite, es_whil, es_for, es_brk, es_cnt, es_frz, ess_n, ess_c, er_var, er_cst, er_glob, er_neg, er_not, er_bin, er_cmp, er_chain, er_and, er_or, er_ite, er_tup, er_lst, er_ix, er_slice, er_rev, er_call, er_blt, er_isi, er_comp, appR_o, augR_a, augR_s, frzR_o, varR_v, varR_o, retR_o, retR_v, ixR_s, ix_l, ix_t, bT_ok, sT_ok, qT_nx, qT_rt, qT_br, qT_ct, qT_ex, bT_exc, sT_exc, tT_ex, es_rais, es_try, es_tryY, optS_s, zT_nx, zT_rt, zT_ex, yT_nx, yT_rt, yT_br, yT_ct, yT_ex, es_clr, clrR_o, Cb_t, Cb_f, oT_s, tT_nx, tT_ct, tT_br, tT_rt, turn_nx, turn_ct, turn_br, turn_rt, datOf_dat, intOf_int, boolOf_bool, plain_eq, fresh_eq, ofBD_some, ofB_some, rOpt_some, seqOf_l, seqOf_t, lit_int, lit_str, lit_bool, lit_none, wp_ok, wp_bind, wps_sr, wps_seq, wps_tT, wps_nx, wps_rt, wps_br, wps_ct, List.getElem?_cons_zero, List.getElem?_cons_succ, List.set_cons_zero, List.set_cons_succ, List.map_cons, List.map_nil, Nat.reduceSub, List.replicate_succ, List.replicate_zero, List.cons_append, List.nil_append, List.append_nil, putVals, bt_nm, bt_t, bt_l, btT_s, bts_n, bts_c, wipeE, bin_int_add, bin_int_sub, cmp_int_eq, cmp_int_ne, cmp_int_lt, cmp_int_le, cmp_int_gt, cmp_int_ge, ix_0, ix_1, ix_2, ix_3, ix_4, ix_5, ix_6, ix_7, ix_m1, blt_absI, blt_intI, blt_tupL, blt_tupT, blt_lstL, blt_lstT, blt_lenL, blt_lenT, blt_lenLm, blt_lenTm, blt_min2, blt_max2, blt_min3, blt_max3, isi_n, isi_b, isi_i, isi_s, isi_l, isi_t, fits_0, fits_1, fits_2, fits_3, fits_4, fits_5, fits_6, fits_7, fits_8, fits_9, fits_10, fits_11, fits_12, fits_13, fits_14, fits_15, fits_16, fitsS_0, fitsS_1, fitsS_2, fitsS_3, fitsS_4, List.length_cons, List.length_nil, Nat.zero_add, Nat.reduceAdd, Bool.not_true, Bool.not_false, decide_true, decide_false, Int.reduceNeg, Int.reduceSub, Int.reduceAdd, Int.reduceLT, Int.reduceLE, Int.reduceEq, Int.reduceMul])
section
/-! balls that are what they are, within bounds -/
structure IsB (p : Int) (N : Nat) (u : Bl) : Prop where
  nf : NF u.2
  rp : rp p u.1 u.2 = u.2
  lo : -(N : Int) ≤ u.1
  hi : u.1 ≤ N
  den : vl p u.2.2 ≤ N
section
variable {p n m k : Int} {x y : Fr} {u v w : Bl} {N M L : Nat} {st : Store}
theorem IsB.bd (hp : PP p) (h : IsB p N u) : BdP (14 * N + 1) u.2 := by
  have := rp_bd (n := u.1) hp h.nf h.hi h.den
  rw [h.rp] at this
  exact this.up (by omega)
theorem IsB.up (h : IsB p N u) (hm : N ≤ M) : IsB p M u := ⟨h.nf, h.rp, by have := h.lo; omega, by have := h.hi; omega, Nat.le_trans h.den hm⟩
theorem IsB.bn (h : IsB p N u) (hN : N ≤ 1000) : Bd 10 u.1 := bds (by have := h.lo; have := h.hi; omega)
theorem rp_den (hp : PP p) (hx : NF x) : vl p (MK.rp p n x).2 ≤ vl p x.2 := by
  obtain ⟨j, e, hj⟩ := (rp_spec (n := n) hp hx).low
  rw [e, vl_pow hp.two]
  exact hj
/-- the ball of a fraction -/
theorem IsB.of (hp : PP p) (hx : NF x) (hd : vl p x.2 ≤ N) (h1 : -(N : Int) ≤ n) (h2 : n ≤ N) : IsB p N (n, MK.rp p n x) :=
  ⟨rp_nf hp hx, rp_rp hp hx (Int.le_refl n), h1, h2, Nat.le_trans (rp_den hp hx) hd⟩
theorem IsB.eq (hp : PP p) (hu : IsB p N u) (hv : IsB p M v) : u = v ↔ u.1 = v.1 ∧ Dv p u.1 (toR u.2 - toR v.2) := by
  constructor
  · rintro rfl
    exact ⟨rfl, (rp_iff hp hu.nf hu.nf).mp rfl⟩
  · rintro ⟨h1, h2⟩
    have := (rp_iff hp hu.nf hv.nf).mpr h2
    rw [hu.rp, h1, hv.rp] at this
    exact Prod.ext h1 this
theorem IsB.sz (hp : PP p) (h : IsB p N u) (hN : N ≤ 130) : Sz 2 6000 (eB u) := (eB_sz ((h.bn (by omega)).up (show 10 ≤ 14 * 130 + 1 by decide)) ((h.bd hp).up (by omega)) (by decide)).up (by decide) (by decide)
theorem IsB.repr (hp : PP p) (h : IsB p N u) (hN : N ≤ 130) : bltF .repr [eB u] = some (false, .str (eB u).shown) := (h.sz hp hN).repr (by decide) (by decide)
end
/-! of levels -/
section
variable {p k : Int} {u v w : Bl}
theorem top_comm (hp : PP p) (hu : NF u.2) (hv : NF v.2) : top p u v = top p v u := by
  have h : ∀ k, k ≤ top p u v ↔ k ≤ top p v u := fun k => by
    rw [le_top hp hu hv, le_top hp hv hu]
    exact ⟨fun ⟨a, b, c⟩ => ⟨b, a, c.comm⟩, fun ⟨a, b, c⟩ => ⟨b, a, c.comm⟩⟩
  have := (h (top p u v)).mp (Int.le_refl _)
  have := (h (top p v u)).mpr (Int.le_refl _)
  omega
theorem top_l (hp : PP p) (hu : NF u.2) (hv : NF v.2) : top p u v ≤ u.1 := ((le_top hp hu hv).mp (Int.le_refl _)).1
theorem top_r (hp : PP p) (hu : NF u.2) (hv : NF v.2) : top p u v ≤ v.1 := ((le_top hp hu hv).mp (Int.le_refl _)).2.1
theorem top_d (hp : PP p) (hu : NF u.2) (hv : NF v.2) : Dv p (top p u v) (toR u.2 - toR v.2) := ((le_top hp hu hv).mp (Int.le_refl _)).2.2
theorem top_self (hp : PP p) (hu : NF u.2) : top p u u = u.1 := by
  have := top_l hp hu hu
  have : u.1 ≤ top p u u := (le_top hp hu hu).mpr ⟨Int.le_refl _, Int.le_refl _, (rp_iff hp hu hu).mp rfl⟩
  omega
theorem top_tri (hp : PP p) (hu : NF u.2) (hv : NF v.2) (hw : NF w.2) : min (top p u v) (top p v w) ≤ top p u w := by
  have a := top_d hp hu hv
  have b := top_d hp hv hw
  have := top_l hp hu hv
  have := top_r hp hv hw
  exact (le_top hp hu hw).mpr ⟨by omega, by omega, (a.mono hp.pr (by omega)).trans hp.pr (b.mono hp.pr (by omega))⟩
end
section
variable {p n : Int} {x : Fr} {u v : Bl} {N : Nat}
theorem dv_den (hp : PP p) (hx : NF x) : Dv p (-(vl p x.2 : Int)) (toR x) := by
  by_cases h1 : x.1 = 0
  · rw [(toR_zero hx).mpr h1]
    exact .zero hp.pr
  · refine (Dv.par hp.pr hx.ne h1).mpr ?_
    unfold prt
    omega
theorem top_lo (hp : PP p) (hu : IsB p N u) (hv : IsB p N v) : -(N : Int) ≤ top p u v := by
  have a := dv_den hp hu.nf
  have b := dv_den hp hv.nf
  have := hu.den
  have := hv.den
  exact (le_top hp hu.nf hv.nf).mpr ⟨hu.lo, hv.lo, (a.mono hp.pr (by omega)).sub hp.pr (b.mono hp.pr (by omega))⟩
theorem IsB.at_ (hp : PP p) (hu : IsB p N u) {M : Nat} (hm : N ≤ M) (h1 : -(M : Int) ≤ n) (h2 : n ≤ M) : IsB p M (n, MK.rp p n u.2) := .of hp hu.nf (Nat.le_trans hu.den hm) h1 h2
end
end
section
/-! distances of a tree -/
section
variable {p : Int} {a b c e : Bl}
theorem stp_comm (hp : PP p) (ha : NF a.2) (hb : NF b.2) : stp p a b = stp p b a := by
  unfold stp
  rw [top_comm hp ha hb]
  omega
theorem stp_self (hp : PP p) (ha : NF a.2) : stp p a a = 0 := by
  unfold stp
  rw [top_self hp ha]
  omega
theorem stp_nn (hp : PP p) (ha : NF a.2) (hb : NF b.2) : 0 ≤ stp p a b := by
  have := top_l hp ha hb
  have := top_r hp ha hb
  unfold stp
  omega
theorem stp_zero (hp : PP p) {N M : Nat} (ha : IsB p N a) (hb : IsB p M b) : stp p a b = 0 ↔ a = b := by
  constructor
  · intro h
    have := top_l hp ha.nf hb.nf
    have := top_r hp ha.nf hb.nf
    have d := top_d hp ha.nf hb.nf
    unfold stp at h
    exact (IsB.eq hp ha hb).mpr ⟨by omega, d.mono hp.pr (by omega)⟩
  · rintro rfl
    exact stp_self hp ha.nf
theorem four_aux (ab ac ae bc be ce : Int) (h1 : min ab bc ≤ ac) (h2 : min ab be ≤ ae) (h3 : min ac ce ≤ ae) (h4 : min bc ce ≤ be) (h5 : min ab ac ≤ bc) (h6 : min ab ae ≤ be) (h7 : min ac ae ≤ ce) (h8 : min bc be ≤ ce)
    (h9 : min ac bc ≤ ab) (h10 : min ae be ≤ ab) (h11 : min ae ce ≤ ac) (h12 : min be ce ≤ bc) : min (ac + be) (ae + bc) ≤ ab + ce := by
  by_cases q1 : ac ≤ bc <;> by_cases q2 : ae ≤ be <;> omega
theorem stp_four (hp : PP p) (ha : NF a.2) (hb : NF b.2) (hc : NF c.2) (he : NF e.2) : stp p a b + stp p c e ≤ max (stp p a c + stp p b e) (stp p a e + stp p b c) := by
  have t := fun {x y z : Bl} (hx : NF x.2) (hy : NF y.2) (hz : NF z.2) => top_tri hp hx hy hz
  have cm := fun {x y : Bl} (hx : NF x.2) (hy : NF y.2) => top_comm hp hx hy
  have h5 := t hb ha hc
  have h6 := t hb ha he
  have h7 := t hc ha he
  have h8 := t hc hb he
  have h9 := t ha hc hb
  have h10 := t ha he hb
  have h11 := t ha he hc
  have h12 := t hb he hc
  rw [cm hb ha] at h5 h6
  rw [cm hc ha] at h7
  rw [cm hc hb] at h8 h9
  rw [cm he hb] at h10
  rw [cm he hc] at h11 h12
  have f := four_aux (top p a b) (top p a c) (top p a e) (top p b c) (top p b e) (top p c e) (t ha hb hc) (t ha hb he) (t ha hc he) (t hb hc he) h5 h6 h7 h8 h9 h10 h11 h12
  unfold stp
  omega
end
/-! neighbours -/
theorem IsQ.int {p n : Int} (h : Pr p) {q r : Rat} (hq : IsQ p n q) {m : Int} (hr : IsQ p m r) (d : Dv p n (r - q)) : ∃ c : Int, r - q = (p : Rat) ^ n * c := by
  obtain ⟨j, z, ez⟩ := hr.den
  obtain ⟨i, y, ey⟩ := hq.den
  have pj := fun k : Int => pz_ne (n := k) h
  obtain ⟨t, ht⟩ : ∃ t : Nat, (t : Int) = n + (j + i + n.natAbs : Nat) := ⟨(n + (j + i + n.natAbs : Nat)).toNat, by omega⟩
  have e1 : (r - q) * (p : Rat) ^ ((j + i + n.natAbs : Nat) : Int) = ((z * p ^ (i + n.natAbs) - y * p ^ (j + n.natAbs) : Int) : Rat) := by
    rw [Rat.intCast_sub, Rat.intCast_mul, Rat.intCast_mul, ← pz_nat, ← pz_nat, ← ez, ← ey]
    rw [show ((j + i + n.natAbs : Nat) : Int) = (j : Int) + (i : Int) + (n.natAbs : Nat) by omega, show ((i + n.natAbs : Nat) : Int) = (i : Int) + (n.natAbs : Nat) by omega, show ((j + n.natAbs : Nat) : Int) = (j : Int) + (n.natAbs : Nat) by omega, pz_add h, pz_add h, pz_add h, pz_add h]
    grind
  have d2 := (Dv.shift (k := ((j + i + n.natAbs : Nat) : Int)) h).mpr d
  rw [Rat.mul_comm, e1, Int.add_comm, ← ht] at d2
  obtain ⟨c, hc⟩ := (Dv.nat h).mp d2
  rw [hc, Rat.intCast_mul, ← pz_nat, ht, pz_add h] at e1
  refine ⟨c, ?_⟩
  have := pj ((j + i + n.natAbs : Nat) : Int)
  grind
section
variable {p k : Int} {u v : Bl} {N M : Nat} {st : Store}
theorem IsB.isq (hp : PP p) (hu : IsB p N u) : IsQ p u.1 (toR u.2) := by
  have := (rp_spec (n := u.1) hp hu.nf).isq
  rwa [hu.rp] at this
theorem pz_one : (p : Rat) ^ (1 : Int) = p := by
  rw [show (1 : Int) = ((1 : Nat) : Int) from rfl, pz_nat]
  simp
end
end
section
/-! how often the prime divides a rational, exactly -/
def Vl (p n : Int) (x : Rat) : Prop := ∃ a b : Int, ¬ p ∣ a ∧ ¬ p ∣ b ∧ x * b = (p : Rat) ^ n * a
section
variable {p m n k : Int} {x y : Rat}
theorem Vl.dv (v : Vl p n x) : Dv p n x := by
  obtain ⟨a, b, _, hb, e⟩ := v
  exact ⟨a, b, hb, e⟩
theorem Vl.mul (h : Pr p) (v : Vl p m x) (w : Vl p n y) : Vl p (m + n) (x * y) := by
  obtain ⟨a, b, ha, hb, e⟩ := v
  obtain ⟨c, d, hc, hd, f⟩ := w
  refine ⟨a * c, b * d, fun z => (h.dv _ _ z).elim ha hc, fun z => (h.dv _ _ z).elim hb hd, ?_⟩
  simp only [Rat.intCast_mul, pz_add h]
  grind
theorem Vl.ne (h : Pr p) (v : Vl p n x) : x ≠ 0 := by
  obtain ⟨a, b, ha, hb, e⟩ := v
  intro z
  have a0 : (a : Rat) ≠ 0 := ic_ne fun q => ha (q ▸ Int.dvd_zero p)
  have := pz_ne (n := n) h
  grind
theorem Vl.inv (h : Pr p) (v : Vl p n x) : Vl p (-n) (1 / x) := by
  have x0 := v.ne h
  obtain ⟨a, b, ha, hb, e⟩ := v
  refine ⟨b, a, hb, ha, ?_⟩
  have q : (p : Rat) ^ (-n) * (p : Rat) ^ n = 1 := by rw [← pz_add h, Int.add_left_neg, Rat.zpow_zero]
  have := pz_ne (n := n) h
  grind
theorem Vl.pz (h : Pr p) : Vl p n ((p : Rat) ^ n) := ⟨1, 1, h.not1, h.not1, by simp⟩
theorem Vl.one (h : Pr p) : Vl p 0 1 := ⟨1, 1, h.not1, h.not1, by simp⟩
theorem Vl.neg (v : Vl p n x) : Vl p n (-x) := by
  obtain ⟨a, b, ha, hb, e⟩ := v
  exact ⟨-a, b, fun z => ha (Int.dvd_neg.mp z), hb, by rw [Rat.neg_mul, e, Rat.intCast_neg]; grind⟩
theorem Vl.of {q : Fr} (h : Pr p) (h2 : q.2 ≠ 0) (h1 : q.1 ≠ 0) : Vl p (prt p q) (toR q) := by
  have hp := h.two
  obtain ⟨m, e1, hm⟩ := vl_spec hp h1
  obtain ⟨u, e2, hu⟩ := vl_spec hp h2
  refine ⟨m, u, hm, hu, ?_⟩
  have u0 : (u : Rat) ≠ 0 := ic_ne fun z => hu (z ▸ Int.dvd_zero p)
  have a1 : (q.1 : Rat) = (p : Rat) ^ (vl p q.1 : Int) * m := by
    rw [pz_nat, ← Rat.intCast_mul, ← e1]
  have a2 : (q.2 : Rat) = (p : Rat) ^ (vl p q.2 : Int) * u := by
    rw [pz_nat, ← Rat.intCast_mul, ← e2]
  have a3 : (p : Rat) ^ (vl p q.1 : Int) = (p : Rat) ^ prt p q * (p : Rat) ^ (vl p q.2 : Int) := by
    rw [← pz_add h]
    unfold prt
    rw [Int.sub_add_cancel]
  have a4 := pz_ne (n := (vl p q.2 : Int)) h
  unfold toR
  rw [a1, a2, a3]
  grind
theorem Vl.ex (h : Pr p) (x0 : x ≠ 0) : ∃ n, Vl p n x := by
  have e : toR (x.num, (x.den : Int)) = x := by
    have := Rat.num_divInt_den x
    rw [Rat.divInt_eq_div] at this
    exact this
  have d0 : ((x.den : Int)) ≠ 0 := by
    have := x.den_nz
    omega
  have n0 : x.num ≠ 0 := by simpa using x0
  refine ⟨prt p (x.num, (x.den : Int)), ?_⟩
  have := Vl.of (q := (x.num, (x.den : Int))) h d0 n0
  rwa [e] at this
theorem Vl.dvd (h : Pr p) (v : Vl p n x) : Dv p m x ↔ m ≤ n := by
  constructor
  · intro d
    refine Classical.byContradiction fun hn => ?_
    obtain ⟨a, b, hb, e⟩ := d.mono h (m := n + 1) (by omega)
    obtain ⟨c, u, hc, hu, f⟩ := v
    rw [pz_add h, show (p : Rat) ^ (1 : Int) = p from by rw [show (1 : Int) = ((1 : Nat) : Int) from rfl, pz_nat]; simp] at e
    have p0 := pz_ne (n := n) h
    have e3 : (c : Rat) * b = p * (a * u) := by grind
    have e4 : c * b = p * (a * u) := Rat.intCast_inj.mp (by simpa using e3)
    rcases h.dv c b ⟨_, e4⟩ with z | z
    · exact hc z
    · exact hb z
  · intro hm
    exact v.dv.mono h hm
theorem Vl.uniq (h : Pr p) (v : Vl p n x) (w : Vl p m x) : n = m := by
  have a := (v.dvd h).mp w.dv
  have b := (w.dvd h).mp v.dv
  omega
theorem Dv.cut (h : Pr p) (v : Vl p n x) (d : Dv p m (x * y)) : Dv p (m - n) y := by
  have e := (v.inv h).dv.mul h d
  have x0 := v.ne h
  have q : 1 / x * (x * y) = y := by grind
  rw [q] at e
  have : -n + m = m - n := by omega
  rwa [this] at e
end
/-! tables of rationals, and the balls that they stand for -/
structure R4 where
  a : Rat
  b : Rat
  c : Rat
  d : Rat
theorem R4.ext' {M N : R4} (h1 : M.a = N.a) (h2 : M.b = N.b) (h3 : M.c = N.c) (h4 : M.d = N.d) : M = N := by
  cases M; cases N; simp at *; exact ⟨h1, h2, h3, h4⟩
def R4.mul (M N : R4) : R4 := ⟨M.a * N.a + M.b * N.c, M.a * N.b + M.b * N.d, M.c * N.a + M.d * N.c, M.c * N.b + M.d * N.d⟩
def R4.sc (s : Rat) (M : R4) : R4 := ⟨s * M.a, s * M.b, s * M.c, s * M.d⟩
def R4.det (M : R4) : Rat := M.a * M.d - M.b * M.c
def R4.adj (M : R4) : R4 := ⟨M.d, -M.b, -M.c, M.a⟩
def R4.one : R4 := ⟨1, 0, 0, 1⟩
theorem R4.mul_assoc (M N K : R4) : (M.mul N).mul K = M.mul (N.mul K) := R4.ext' (by simp [R4.mul]; grind) (by simp [R4.mul]; grind) (by simp [R4.mul]; grind) (by simp [R4.mul]; grind)
theorem R4.mul_sc (s : Rat) (M N : R4) : M.mul (N.sc s) = (M.mul N).sc s := R4.ext' (by simp [R4.mul, R4.sc]; grind) (by simp [R4.mul, R4.sc]; grind) (by simp [R4.mul, R4.sc]; grind) (by simp [R4.mul, R4.sc]; grind)
theorem R4.sc_mul (s : Rat) (M N : R4) : (M.sc s).mul N = (M.mul N).sc s := R4.ext' (by simp [R4.mul, R4.sc]; grind) (by simp [R4.mul, R4.sc]; grind) (by simp [R4.mul, R4.sc]; grind) (by simp [R4.mul, R4.sc]; grind)
theorem R4.sc_sc (s t : Rat) (M : R4) : (M.sc s).sc t = M.sc (t * s) := R4.ext' (by simp [R4.sc]; grind) (by simp [R4.sc]; grind) (by simp [R4.sc]; grind) (by simp [R4.sc]; grind)
theorem R4.sc_one (M : R4) : M.sc 1 = M := R4.ext' (by simp [R4.sc]) (by simp [R4.sc]) (by simp [R4.sc]) (by simp [R4.sc])
theorem R4.mul_one (M : R4) : M.mul R4.one = M := R4.ext' (by simp [R4.mul, R4.one]; grind) (by simp [R4.mul, R4.one]; grind) (by simp [R4.mul, R4.one]; grind) (by simp [R4.mul, R4.one]; grind)
theorem R4.mul_adj (M : R4) : M.mul M.adj = R4.one.sc M.det := R4.ext' (by simp [R4.mul, R4.adj, R4.sc, R4.one, R4.det]; grind) (by simp [R4.mul, R4.adj, R4.sc, R4.one, R4.det]; grind) (by simp [R4.mul, R4.adj, R4.sc, R4.one, R4.det]; grind) (by simp [R4.mul, R4.adj, R4.sc, R4.one, R4.det]; grind)
theorem R4.det_mul (M N : R4) : (M.mul N).det = M.det * N.det := by
  simp [R4.mul, R4.det]
  grind
theorem R4.det_sc (s : Rat) (M : R4) : (M.sc s).det = s * s * M.det := by
  simp [R4.sc, R4.det]
  grind
/-- whole entries, by the prime -/
structure Wh (p : Int) (G : R4) : Prop where
  a : Dv p 0 G.a
  b : Dv p 0 G.b
  c : Dv p 0 G.c
  d : Dv p 0 G.d
structure GLp (p : Int) (G : R4) : Prop where
  w : Wh p G
  u : Vl p 0 G.det
section
variable {p m n : Int} {M N K G H : R4}
theorem d00 (h : Pr p) {x y : Rat} (a : Dv p 0 x) (b : Dv p 0 y) : Dv p 0 (x * y) := by
  have := a.mul h b
  rwa [Int.zero_add] at this
theorem Wh.mul (h : Pr p) (x : Wh p G) (y : Wh p H) : Wh p (G.mul H) :=
  ⟨(d00 h x.a y.a).add h (d00 h x.b y.c), (d00 h x.a y.b).add h (d00 h x.b y.d), (d00 h x.c y.a).add h (d00 h x.d y.c), (d00 h x.c y.b).add h (d00 h x.d y.d)⟩
theorem Wh.sc (h : Pr p) {s : Rat} (ds : Dv p 0 s) (x : Wh p G) : Wh p (G.sc s) := ⟨d00 h ds x.a, d00 h ds x.b, d00 h ds x.c, d00 h ds x.d⟩
theorem GLp.one (h : Pr p) : GLp p R4.one := ⟨⟨(Vl.one h).dv, .zero h, .zero h, (Vl.one h).dv⟩, by
  have : R4.one.det = 1 := by simp [R4.det, R4.one]; grind
  rw [this]
  exact Vl.one h⟩
theorem GLp.mul (h : Pr p) (x : GLp p G) (y : GLp p H) : GLp p (G.mul H) := ⟨x.w.mul h y.w, by
  rw [R4.det_mul]
  have := x.u.mul h y.u
  rwa [Int.zero_add] at this⟩
theorem GLp.inv (h : Pr p) (x : GLp p G) : GLp p (G.adj.sc (1 / G.det)) := by
  have i := x.u.inv h
  rw [Int.neg_zero] at i
  have n0 := x.u.ne h
  refine ⟨Wh.sc h i.dv ⟨x.w.d, x.w.b.neg, x.w.c.neg, x.w.a⟩, ?_⟩
  have e : (G.adj.sc (1 / G.det)).det = 1 / G.det := by
    rw [R4.det_sc]
    have : G.adj.det = G.det := by simp [R4.det, R4.adj]; grind
    rw [this]
    grind
  rw [e]
  exact i
theorem GLp.mul_inv (h : Pr p) (x : GLp p G) : G.mul (G.adj.sc (1 / G.det)) = R4.one := by
  have n0 := x.u.ne h
  rw [R4.mul_sc, R4.mul_adj, R4.sc_sc]
  have : 1 / G.det * G.det = 1 := by grind
  rw [this, R4.sc_one]
/-- two tables of one ball -/
def Eqv (p : Int) (M N : R4) : Prop := ∃ s : Rat, s ≠ 0 ∧ ∃ G, GLp p G ∧ N = (M.mul G).sc s
theorem Eqv.refl (h : Pr p) : Eqv p M M := ⟨1, by decide, R4.one, .one h, by rw [R4.mul_one, R4.sc_one]⟩
theorem Eqv.symm (h : Pr p) (e : Eqv p M N) : Eqv p N M := by
  obtain ⟨s, s0, G, g, rfl⟩ := e
  refine ⟨1 / s, by grind, _, g.inv h, ?_⟩
  rw [R4.sc_mul, R4.mul_assoc, g.mul_inv h, R4.mul_one, R4.sc_sc]
  have : 1 / s * s = 1 := by grind
  rw [this, R4.sc_one]
theorem Eqv.trans (h : Pr p) (e : Eqv p M N) (f : Eqv p N K) : Eqv p M K := by
  obtain ⟨s, s0, G, g, rfl⟩ := e
  obtain ⟨t, t0, H, k, rfl⟩ := f
  refine ⟨t * s, by grind, G.mul H, g.mul h k, ?_⟩
  rw [R4.sc_mul, R4.sc_sc, R4.mul_assoc]
theorem Eqv.left (e : Eqv p M N) : Eqv p (K.mul M) (K.mul N) := by
  obtain ⟨s, s0, G, g, rfl⟩ := e
  exact ⟨s, s0, G, g, by rw [R4.mul_sc, R4.mul_assoc]⟩
theorem Eqv.sc {s : Rat} (h : Pr p) (s0 : s ≠ 0) : Eqv p M (M.sc s) := ⟨s, s0, R4.one, .one h, by rw [R4.mul_one]⟩
theorem Eqv.gl (g : GLp p G) : Eqv p M (M.mul G) := ⟨1, by decide, G, g, by rw [R4.sc_one]⟩
end
/-- the table of a ball -/
def bm (p : Int) (u : Bl) : R4 := ⟨(p : Rat) ^ u.1, toR u.2, 0, 1⟩
section
variable {p m n : Int} {M N K G H : R4} {u v w : Bl} {i j : Nat}
theorem bm_det : (bm p u).det = (p : Rat) ^ u.1 := by
  simp [bm, R4.det]
  grind
theorem bm_uniq (hp : PP p) (hu : IsB p i u) (hv : IsB p j v) (e : Eqv p (bm p u) (bm p v)) : u = v := by
  have h := hp.pr
  obtain ⟨s, s0, G, g, e⟩ := e
  have ea := congrArg R4.a e
  have eb := congrArg R4.b e
  have ec := congrArg R4.c e
  have ed := congrArg R4.d e
  simp only [bm, R4.mul, R4.sc] at ea eb ec ed
  have c0 : G.c = 0 := by
    have : s * G.c = 0 := by grind
    rcases Rat.mul_eq_zero.mp this with z | z
    · exact absurd z s0
    · exact z
  have sd : s * G.d = 1 := by grind
  have pd : Vl p 0 (G.a * G.d) := by
    have := g.u
    unfold R4.det at this
    rw [c0] at this
    have e : G.a * G.d - G.b * 0 = G.a * G.d := by grind
    rwa [e] at this
  have ad0 := pd.ne h
  have a0 : G.a ≠ 0 := fun z => ad0 (by rw [z]; grind)
  have d0 : G.d ≠ 0 := fun z => ad0 (by rw [z]; grind)
  obtain ⟨x, hx⟩ := Vl.ex h a0
  obtain ⟨y, hy⟩ := Vl.ex h d0
  have xy := (hx.mul h hy).uniq h pd
  have x0 := (hx.dvd h).mp g.w.a
  have y0 := (hy.dvd h).mp g.w.d
  have hx : Vl p 0 G.a := by
    have : x = 0 := by omega
    rwa [this] at hx
  have hy : Vl p 0 G.d := by
    have : y = 0 := by omega
    rwa [this] at hy
  have hs : Vl p 0 s := by
    have := hy.inv h
    have e : 1 / G.d = s := by grind
    rwa [e, Int.neg_zero] at this
  have n1 : v.1 = u.1 := by
    have a1 : Vl p v.1 ((p : Rat) ^ v.1) := Vl.pz h
    have a2 : Vl p (0 + (u.1 + 0)) (s * ((p : Rat) ^ u.1 * G.a)) := hs.mul h ((Vl.pz h).mul h hx)
    have e2 : s * ((p : Rat) ^ u.1 * G.a) = (p : Rat) ^ v.1 := by grind
    rw [e2] at a2
    have := a1.uniq h a2
    omega
  refine ((hu.eq hp hv).mpr ⟨n1.symm, ?_⟩)
  have e3 : toR v.2 - toR u.2 = (p : Rat) ^ u.1 * (s * G.b) := by grind
  have d3 : Dv p (u.1 + 0) ((p : Rat) ^ u.1 * (s * G.b)) := (Dv.pz h).mul h (d00 h hs.dv g.w.b)
  rw [← e3, Int.add_zero] at d3
  exact d3.comm
/-- two columns, the second of which divides below: the ball -/
theorem col_ball (h : Pr p) {x0 x1 y0 y1 c : Rat} {n : Int} (y1n : y1 ≠ 0) (t : Dv p 0 (x1 / y1)) (l : Vl p n ((x0 - x1 / y1 * y0) / y1)) (hc : Dv p n (c - y0 / y1)) : Eqv p ⟨x0, y0, x1, y1⟩ ⟨(p : Rat) ^ n, c, 0, 1⟩ := by
  have pn := pz_ne (n := n) h
  have l0 := l.ne h
  -- the first column cleared
  have e1 : Eqv p ⟨x0, y0, x1, y1⟩ ((⟨x0, y0, x1, y1⟩ : R4).mul ⟨1, 0, -(x1 / y1), 1⟩) := Eqv.gl ⟨⟨(Vl.one h).dv, .zero h, t.neg, (Vl.one h).dv⟩, by
    have : (⟨1, 0, -(x1 / y1), 1⟩ : R4).det = 1 := by simp [R4.det]; grind
    rw [this]
    exact Vl.one h⟩
  have e2 : ((⟨x0, y0, x1, y1⟩ : R4).mul ⟨1, 0, -(x1 / y1), 1⟩) = (⟨(x0 - x1 / y1 * y0) / y1, y0 / y1, 0, 1⟩ : R4).sc y1 := by
    refine R4.ext' ?_ ?_ ?_ ?_ <;> simp [R4.mul, R4.sc] <;> grind
  rw [e2] at e1
  have e3 := e1.trans h ((Eqv.sc (M := ⟨(x0 - x1 / y1 * y0) / y1, y0 / y1, 0, 1⟩) h y1n).symm h)
  generalize (x0 - x1 / y1 * y0) / y1 = L at *
  generalize y0 / y1 = C at *
  have v0 : Vl p 0 (L / (p : Rat) ^ n) := by
    have := l.mul h ((Vl.pz (n := n) h).inv h)
    have e : L * (1 / (p : Rat) ^ n) = L / (p : Rat) ^ n := by grind
    rwa [e, Int.add_right_neg] at this
  have z0 : Dv p 0 ((c - C) / (p : Rat) ^ n) := by
    have := hc.mul h ((Vl.pz (n := n) h).inv h).dv
    have e : (c - C) * (1 / (p : Rat) ^ n) = (c - C) / (p : Rat) ^ n := by grind
    rwa [e, Int.add_right_neg] at this
  have e4 : Eqv p (⟨(p : Rat) ^ n, C, 0, 1⟩ : R4) ((⟨(p : Rat) ^ n, C, 0, 1⟩ : R4).mul ⟨L / (p : Rat) ^ n, 0, 0, 1⟩) := Eqv.gl ⟨⟨v0.dv, .zero h, .zero h, (Vl.one h).dv⟩, by
    have : (⟨L / (p : Rat) ^ n, 0, 0, 1⟩ : R4).det = L / (p : Rat) ^ n := by simp [R4.det]; grind
    rw [this]
    exact v0⟩
  have e5 : (⟨(p : Rat) ^ n, C, 0, 1⟩ : R4).mul ⟨L / (p : Rat) ^ n, 0, 0, 1⟩ = ⟨L, C, 0, 1⟩ := by
    refine R4.ext' ?_ ?_ ?_ ?_ <;> simp [R4.mul] <;> grind
  rw [e5] at e4
  have e6 : Eqv p (⟨(p : Rat) ^ n, C, 0, 1⟩ : R4) ((⟨(p : Rat) ^ n, C, 0, 1⟩ : R4).mul ⟨1, (c - C) / (p : Rat) ^ n, 0, 1⟩) := Eqv.gl ⟨⟨(Vl.one h).dv, z0, .zero h, (Vl.one h).dv⟩, by
    have : (⟨1, (c - C) / (p : Rat) ^ n, 0, 1⟩ : R4).det = 1 := by simp [R4.det]; grind
    rw [this]
    exact Vl.one h⟩
  have e7 : (⟨(p : Rat) ^ n, C, 0, 1⟩ : R4).mul ⟨1, (c - C) / (p : Rat) ^ n, 0, 1⟩ = ⟨(p : Rat) ^ n, c, 0, 1⟩ := by
    refine R4.ext' ?_ ?_ ?_ ?_ <;> simp [R4.mul] <;> grind
  rw [e7] at e6
  exact e3.trans h ((e4.symm h).trans h e6)
theorem Eqv.swap (h : Pr p) {a b c d : Rat} : Eqv p ⟨a, b, c, d⟩ ⟨b, a, d, c⟩ := by
  have e : (⟨a, b, c, d⟩ : R4).mul ⟨0, 1, 1, 0⟩ = ⟨b, a, d, c⟩ := by
    refine R4.ext' ?_ ?_ ?_ ?_ <;> simp [R4.mul] <;> grind
  rw [← e]
  exact Eqv.gl ⟨⟨.zero h, (Vl.one h).dv, (Vl.one h).dv, .zero h⟩, by
    have : (⟨0, 1, 1, 0⟩ : R4).det = -1 := by simp [R4.det]; grind
    rw [this]
    exact (Vl.one h).neg⟩
/-! how far two tables are apart -/
structure Prm (p : Int) (X : R4) : Prop where
  w : Wh p X
  n : ¬ (Dv p 1 X.a ∧ Dv p 1 X.b ∧ Dv p 1 X.c ∧ Dv p 1 X.d)
def Dst (p : Int) (M N : R4) (k : Int) : Prop := ∃ s : Rat, s ≠ 0 ∧ ∃ X, Prm p X ∧ Vl p k X.det ∧ N = (M.mul X).sc s
theorem Dst.left {k : Int} (e : Dst p M N k) : Dst p (K.mul M) (K.mul N) k := by
  obtain ⟨s, s0, X, x, v, rfl⟩ := e
  exact ⟨s, s0, X, x, v, by rw [R4.mul_sc, R4.mul_assoc]⟩
theorem Prm.mul_r (h : Pr p) (x : Prm p M) (g : GLp p G) : Prm p (M.mul G) := by
  refine ⟨x.w.mul h g.w, fun ⟨a, b, c, d⟩ => x.n ?_⟩
  have i := (g.inv h).w
  have e : (M.mul G).mul (G.adj.sc (1 / G.det)) = M := by rw [R4.mul_assoc, g.mul_inv h, R4.mul_one]
  generalize G.adj.sc (1 / G.det) = I at i e
  have t : ∀ {x y z w : Rat}, Dv p 1 x → Dv p 0 y → Dv p 1 z → Dv p 0 w → Dv p 1 (x * y + z * w) := fun a b c d => ((a.mul h b).add h (c.mul h d))
  rw [← e]
  exact ⟨t a i.a b i.c, t a i.b b i.d, t c i.a d i.c, t c i.b d i.d⟩
theorem GLp.inv_mul (h : Pr p) (x : GLp p G) : (G.adj.sc (1 / G.det)).mul G = R4.one := by
  have n0 := x.u.ne h
  rw [R4.sc_mul]
  have e : G.adj.mul G = R4.one.sc G.det := by
    refine R4.ext' ?_ ?_ ?_ ?_ <;> simp [R4.mul, R4.adj, R4.sc, R4.one, R4.det] <;> grind
  rw [e, R4.sc_sc]
  have : 1 / G.det * G.det = 1 := by grind
  rw [this, R4.sc_one]
theorem R4.one_mul (M : R4) : R4.one.mul M = M := by
  refine R4.ext' ?_ ?_ ?_ ?_ <;> simp [R4.mul, R4.one] <;> grind
theorem Prm.mul_l (h : Pr p) (x : Prm p M) (g : GLp p G) : Prm p (G.mul M) := by
  refine ⟨g.w.mul h x.w, fun ⟨a, b, c, d⟩ => x.n ?_⟩
  have i := (g.inv h).w
  have e : (G.adj.sc (1 / G.det)).mul (G.mul M) = M := by rw [← R4.mul_assoc, g.inv_mul h, R4.one_mul]
  generalize G.adj.sc (1 / G.det) = I at i e
  have t : ∀ {x y z w : Rat}, Dv p 0 x → Dv p 1 y → Dv p 0 z → Dv p 1 w → Dv p 1 (x * y + z * w) := fun a b c d => by
    have q1 := a.mul h b
    have q2 := c.mul h d
    rw [Int.zero_add] at q1 q2
    exact q1.add h q2
  rw [← e]
  exact ⟨t i.a a i.b c, t i.a b i.b d, t i.c a i.d c, t i.c b i.d d⟩
theorem Dst.right {k : Int} (h : Pr p) (d : Dst p M N k) (e : Eqv p N K) : Dst p M K k := by
  obtain ⟨s, s0, X, x, v, rfl⟩ := d
  obtain ⟨t, t0, G, g, rfl⟩ := e
  refine ⟨t * s, by grind, X.mul G, x.mul_r h g, ?_, by rw [R4.sc_mul, R4.sc_sc, R4.mul_assoc]⟩
  rw [R4.det_mul]
  have := v.mul h g.u
  rwa [Int.add_zero] at this
theorem Dst.back {k : Int} (h : Pr p) (d : Dst p M N k) (e : Eqv p K M) : Dst p K N k := by
  obtain ⟨s, s0, X, x, v, rfl⟩ := d
  obtain ⟨t, t0, G, g, rfl⟩ := e
  refine ⟨s * t, by grind, G.mul X, x.mul_l h g, ?_, by rw [R4.sc_mul, R4.sc_sc, R4.mul_assoc]⟩
  rw [R4.det_mul]
  have := g.u.mul h v
  rwa [Int.zero_add] at this
end
section
variable {p m n k l : Int} {M N K : R4} {u v w u' v' : Bl} {i j i' j' : Nat}
theorem Dst.uniq (h : Pr p) (hd : M.det ≠ 0) (d : Dst p M N k) (e : Dst p M N l) : k = l := by
  obtain ⟨s, s0, X, x, vx, e1⟩ := d
  obtain ⟨t, t0, Y, y, vy, e2⟩ := e
  have eq : (M.mul X).sc s = (M.mul Y).sc t := e1.symm.trans e2
  have eq2 : (M.adj.mul ((M.mul X).sc s)) = M.adj.mul ((M.mul Y).sc t) := by rw [eq]
  have ma : M.adj.mul M = R4.one.sc M.det := by
    refine R4.ext' ?_ ?_ ?_ ?_ <;> simp [R4.mul, R4.adj, R4.sc, R4.one, R4.det] <;> grind
  rw [R4.mul_sc, R4.mul_sc, ← R4.mul_assoc, ← R4.mul_assoc, ma, R4.sc_mul, R4.sc_mul, R4.one_mul, R4.one_mul, R4.sc_sc, R4.sc_sc] at eq2
  have D0 := hd
  generalize M.det = D at D0 eq2
  have ea := congrArg R4.a eq2
  have eb := congrArg R4.b eq2
  have ec := congrArg R4.c eq2
  have ed := congrArg R4.d eq2
  simp only [R4.sc] at ea eb ec ed
  have r0 : s / t ≠ 0 := by grind
  obtain ⟨j, hj⟩ := Vl.ex h r0
  have ya : Y.a = s / t * X.a := by grind
  have yb : Y.b = s / t * X.b := by grind
  have yc : Y.c = s / t * X.c := by grind
  have yd : Y.d = s / t * X.d := by grind
  generalize s / t = r at *
  have up : ¬ 1 ≤ j := fun z => y.n (by
    have q : ∀ {x : Rat}, Dv p 0 x → Dv p 1 (r * x) := fun dx => by
      have := hj.dv.mul h dx
      rw [Int.add_zero] at this
      exact this.mono h z
    rw [ya, yb, yc, yd]
    exact ⟨q x.w.a, q x.w.b, q x.w.c, q x.w.d⟩)
  have dn : ¬ j ≤ -1 := fun z => x.n (by
    have q : ∀ {x : Rat}, Dv p 0 (r * x) → Dv p 1 x := fun dx => by
      have := Dv.cut h hj dx
      exact this.mono h (by omega)
    have wa := y.w.a
    have wb := y.w.b
    have wc := y.w.c
    have wd := y.w.d
    rw [ya] at wa
    rw [yb] at wb
    rw [yc] at wc
    rw [yd] at wd
    exact ⟨q wa, q wb, q wc, q wd⟩)
  have j0 : j = 0 := by omega
  rw [j0] at hj
  have de : Y.det = r * (r * X.det) := by
    unfold R4.det
    rw [ya, yb, yc, yd]
    grind
  have vz := hj.mul h (hj.mul h vx)
  rw [← de] at vz
  have := vz.uniq h vy
  omega
theorem stp_dst (hp : PP p) (hu : IsB p i u) (hv : IsB p j v) : Dst p (bm p u) (bm p v) (stp p u v) := by
  have h := hp.pr
  have t1 := top_l hp hu.nf hv.nf
  have t2 := top_r hp hu.nf hv.nf
  have td := (top_d hp hu.nf hv.nf).comm
  have mx := fun m => le_top (k := m) hp hu.nf hv.nf
  have es : stp p u v = (v.1 - top p u v) + (u.1 - top p u v) := by
    unfold stp
    omega
  rw [es]
  generalize top p u v = t at *
  have pe : ∀ {a b c : Int}, a + b = c → (p : Rat) ^ a * (p : Rat) ^ b = (p : Rat) ^ c := fun {a b c} e => by rw [← pz_add h, e]
  have zero : (p : Rat) ^ (0 : Int) = 1 := Rat.zpow_zero _
  refine ⟨(p : Rat) ^ (t - u.1), pz_ne h, ⟨(p : Rat) ^ (v.1 - t), (toR v.2 - toR u.2) * (p : Rat) ^ (-t), 0, (p : Rat) ^ (u.1 - t)⟩, ⟨⟨?_, ?_, .zero h, ?_⟩, ?_⟩, ?_, ?_⟩
  · exact ((Vl.pz h).dvd h).mpr (by omega)
  · have := td.mul h (Vl.pz (n := -t) h).dv
    rwa [Int.add_right_neg] at this
  · exact ((Vl.pz h).dvd h).mpr (by omega)
  · rintro ⟨a, b, _, d⟩
    simp only at a b d
    have a1 := ((Vl.pz h).dvd h).mp a
    have d1 := ((Vl.pz h).dvd h).mp d
    have b1 := b.mul h (Vl.pz (n := t) h).dv
    have e1 : (toR v.2 - toR u.2) * (p : Rat) ^ (-t) * (p : Rat) ^ t = toR v.2 - toR u.2 := by
      rw [Rat.mul_assoc, pe (c := 0) (by omega), zero, Rat.mul_one]
    rw [e1] at b1
    have := (mx (1 + t)).mpr ⟨by omega, by omega, b1.comm⟩
    omega
  · have e2 : (⟨(p : Rat) ^ (v.1 - t), (toR v.2 - toR u.2) * (p : Rat) ^ (-t), 0, (p : Rat) ^ (u.1 - t)⟩ : R4).det = (p : Rat) ^ (v.1 - t) * (p : Rat) ^ (u.1 - t) := by
      simp [R4.det]
      grind
    rw [e2]
    exact (Vl.pz h).mul h (Vl.pz h)
  · have q1 := pe (a := t - u.1) (b := u.1) (c := t) (by omega)
    have q2 := pe (a := t) (b := v.1 - t) (c := v.1) (by omega)
    have q3 := pe (a := t - u.1) (b := u.1 - t) (c := 0) (by omega)
    have q4 := pe (a := t) (b := -t) (c := 0) (by omega)
    rw [zero] at q3 q4
    generalize (p : Rat) ^ (t - u.1) = A at *
    generalize (p : Rat) ^ (v.1 - t) = B at *
    generalize (p : Rat) ^ (u.1 - t) = C at *
    generalize (p : Rat) ^ (-t) = E at *
    refine R4.ext' ?_ ?_ ?_ ?_ <;> simp [bm, R4.mul, R4.sc] <;> grind
/-- tables lead balls so that steps stay -/
theorem stp_led (hp : PP p) (hu : IsB p i u) (hv : IsB p j v) (hu' : IsB p i' u') (hv' : IsB p j' v') (e : Eqv p (K.mul (bm p u)) (bm p u')) (f : Eqv p (K.mul (bm p v)) (bm p v')) : stp p u' v' = stp p u v := by
  have h := hp.pr
  have d := (((stp_dst hp hu hv).left (K := K)).right h f).back h (e.symm h)
  refine Dst.uniq h ?_ (stp_dst hp hu' hv') d
  rw [bm_det]
  exact pz_ne h
end
end
section
theorem any_eqv {u : Bl} : ∀ L : List Bl, ((L.map eB).any fun z => PyData.eqv z (eB u)) = decide (u ∈ L)
  | [] => by simp
  | a :: L => by
    rw [List.map_cons, List.any_cons, any_eqv L]
    have e : PyData.eqv (eB a) (eB u) = decide (a = u) := eqv_dec (eB_fl a).n (eB_fl u).n eB_inj
    rw [e]
    by_cases q : a = u
    · simp [q]
    · have : ¬ u = a := fun z => q z.symm
      simp [q, this]
theorem in_lB {u : Bl} {L : List Bl} : cmpD .isIn (eB u) (.list (L.map eB)) = some (decide (u ∈ L)) := by
  show (bif shp (eB u) && shp (.list (L.map eB)) then some ((L.map eB).any fun z => PyData.eqv z (eB u)) else none) = _
  rw [(eB_fl u).shp (by decide), (lB_fl L).shp (by decide), any_eqv]
  rfl
theorem nin_lB {u : Bl} {L : List Bl} : cmpD .notIn (eB u) (.list (L.map eB)) = some (!decide (u ∈ L)) := by
  show (bif shp (eB u) && shp (.list (L.map eB)) then some (!(L.map eB).any fun z => PyData.eqv z (eB u)) else none) = _
  rw [(eB_fl u).shp (by decide), (lB_fl L).shp (by decide), any_eqv]
  rfl
theorem tB_fl (q : List Bl) : Fl 3 (.tuple (q.map eB)) := .tup (.map fun a _ => eB_fl a)
theorem in_tB {u : Bl} {L : List Bl} : cmpD .isIn (eB u) (.tuple (L.map eB)) = some (decide (u ∈ L)) := by
  show (bif shp (eB u) && shp (.tuple (L.map eB)) then some ((L.map eB).any fun z => PyData.eqv z (eB u)) else none) = _
  rw [(eB_fl u).shp (by decide), (tB_fl L).shp (by decide), any_eqv]
  rfl
theorem nin_tB {u : Bl} {L : List Bl} : cmpD .notIn (eB u) (.tuple (L.map eB)) = some (!decide (u ∈ L)) := by
  show (bif shp (eB u) && shp (.tuple (L.map eB)) then some (!(L.map eB).any fun z => PyData.eqv z (eB u)) else none) = _
  rw [(eB_fl u).shp (by decide), (tB_fl L).shp (by decide), any_eqv]
  rfl
@[simp] theorem eq_tB (a b : List Bl) : cmpD .eq (.tuple (a.map eB)) (.tuple (b.map eB)) = some (decide (a = b)) := (tB_fl a).eq (tB_fl b) (by decide) (by decide) (by
  rw [PyData.tuple.injEq]
  exact map_inj (fun _ _ => eB_inj) a b)
@[simp] theorem ne_tB (a b : List Bl) : cmpD .ne (.tuple (a.map eB)) (.tuple (b.map eB)) = some (!decide (a = b)) := (tB_fl a).ne (tB_fl b) (by decide) (by decide) (by
  rw [PyData.tuple.injEq]
  exact map_inj (fun _ _ => eB_inj) a b)
theorem nc_0 : ((0 : Nat) : Int) = 0 := rfl
theorem nc_1 : ((1 : Nat) : Int) = 1 := rfl
theorem nc_2 : ((2 : Nat) : Int) = 2 := rfl
theorem nc_3 : ((3 : Nat) : Int) = 3 := rfl
theorem nc_4 : ((4 : Nat) : Int) = 4 := rfl
/-! roads -/
noncomputable def onr (p : Int) (u v : Bl) (k : Int) : Bl := if k ≤ u.1 - top p u v then (u.1 - k, rp p (u.1 - k) u.2) else (top p u v + k - (u.1 - top p u v), rp p (top p u v + k - (u.1 - top p u v)) v.2)
section
variable {p k : Int} {u v w : Bl} {N M : Nat} {st : Store}
theorem onr_b (hp : PP p) (hu : IsB p N u) (hv : IsB p N v) (k0 : 0 ≤ k) (k1 : k ≤ stp p u v) : IsB p N (onr p u v k) := by
  have t1 := top_l hp hu.nf hv.nf
  have t2 := top_r hp hu.nf hv.nf
  have t3 := top_lo hp hu hv
  have := hu.hi
  have := hv.hi
  unfold stp at k1
  unfold onr
  split
  · exact hu.at_ hp (Nat.le_refl _) (by omega) (by omega)
  · exact hv.at_ hp (Nat.le_refl _) (by omega) (by omega)
/-- at the upper end both ways tell one ball -/
theorem onr_dn (hp : PP p) (hu : IsB p N u) (hv : IsB p N v) (h : u.1 - top p u v ≤ k) : onr p u v k = (top p u v + k - (u.1 - top p u v), rp p (top p u v + k - (u.1 - top p u v)) v.2) := by
  by_cases e : k = u.1 - top p u v
  · have d := top_d hp hu.nf hv.nf
    unfold onr
    rw [if_pos (by omega)]
    have e1 : u.1 - k = top p u v := by omega
    have e2 : top p u v + k - (u.1 - top p u v) = top p u v := by omega
    rw [e1, e2, (rp_iff hp hu.nf hv.nf).mpr d]
  · unfold onr
    rw [if_neg (by omega)]
theorem onr_up (h : k ≤ u.1 - top p u v) : onr p u v k = (u.1 - k, rp p (u.1 - k) u.2) := if_pos h
theorem top_anc (hp : PP p) (hu : NF u.2) (hv : NF v.2) (h : k ≤ u.1) : top p (k, rp p k u.2) v = min k (top p u v) := by
  have s := (rp_spec (n := k) hp hu).near
  have n := rp_nf (n := k) hp hu
  have a : ∀ m, m ≤ top p (k, rp p k u.2) v ↔ m ≤ min k (top p u v) := fun m => by
    rw [le_top hp n hv]
    constructor
    · rintro ⟨h1, h2, h3⟩
      have h1 : m ≤ k := h1
      have : m ≤ top p u v := (le_top hp hu hv).mpr ⟨by omega, h2, (s.comm.mono hp.pr h1).trans hp.pr h3⟩
      omega
    · intro h1
      obtain ⟨h2, h3, h4⟩ := (le_top (k := m) hp hu hv).mp (by omega)
      exact ⟨by show m ≤ k; omega, h3, (s.mono hp.pr (by omega)).trans hp.pr h4⟩
  have := (a _).mp (Int.le_refl _)
  have := (a _).mpr (Int.le_refl _)
  omega
theorem onr_d (hp : PP p) (hu : IsB p N u) (hv : IsB p N v) (k0 : 0 ≤ k) (k1 : k ≤ stp p u v) : stp p u (onr p u v k) = k ∧ stp p (onr p u v k) v = stp p u v - k := by
  have t1 := top_l hp hu.nf hv.nf
  have t2 := top_r hp hu.nf hv.nf
  have bo := onr_b hp hu hv k0 k1
  rw [stp_comm hp hu.nf bo.nf]
  by_cases q : k ≤ u.1 - top p u v
  · rw [onr_up q]
    have a := top_anc (v := u) hp hu.nf hu.nf (show u.1 - k ≤ u.1 by omega)
    have b := top_anc hp hu.nf hv.nf (show u.1 - k ≤ u.1 by omega)
    rw [top_self hp hu.nf] at a
    unfold stp
    rw [a, b]
    show u.1 - k + u.1 - _ = k ∧ u.1 - k + v.1 - _ = _
    omega
  · rw [onr_dn hp hu hv (by omega)]
    unfold stp at k1
    have a := top_anc (v := u) hp hv.nf hu.nf (show top p u v + k - (u.1 - top p u v) ≤ v.1 by omega)
    have b := top_anc (v := v) hp hv.nf hv.nf (show top p u v + k - (u.1 - top p u v) ≤ v.1 by omega)
    rw [top_self hp hv.nf] at b
    rw [top_comm hp hv.nf hu.nf] at a
    unfold stp
    rw [a, b]
    show top p u v + k - (u.1 - top p u v) + u.1 - _ = k ∧ top p u v + k - (u.1 - top p u v) + v.1 - _ = _
    omega
/-- what is on a road is told by its steps -/
theorem onr_uniq (hp : PP p) (hu : IsB p N u) (hv : IsB p N v) (hw : IsB p M w) (h : stp p u w + stp p w v = stp p u v) : w = onr p u v (stp p u w) := by
  have a := stp_nn hp hu.nf hw.nf
  have b := stp_nn hp hw.nf hv.nf
  have bo := onr_b (k := stp p u w) hp hu hv a (by omega)
  obtain ⟨d1, d2⟩ := onr_d (k := stp p u w) hp hu hv a (by omega)
  generalize onr p u v (stp p u w) = z at bo d1 d2
  refine (stp_zero hp hw bo).mp ?_
  have f := stp_four hp hw.nf bo.nf hu.nf hv.nf
  rw [stp_comm hp hw.nf hu.nf, stp_comm hp bo.nf hu.nf] at f
  have := stp_nn hp hw.nf bo.nf
  omega
/-! what the texts tell -/
/-! the fork -/
noncomputable def lst (p : Int) (u v : Bl) : Bl := (top p u v, rp p (top p u v) u.2)
/-- on the roads between each two of three -/
structure Med (p : Int) (u v w m : Bl) : Prop where
  uv : stp p u m + stp p m v = stp p u v
  vw : stp p v m + stp p m w = stp p v w
  uw : stp p u m + stp p m w = stp p u w
theorem Med.eq (hp : PP p) (hu : IsB p N u) (hv : IsB p N v) {m m' : Bl} (hm : IsB p M m) {L : Nat} (hm' : IsB p L m') (h : Med p u v w m) (h' : Med p u v w m') (hw : NF w.2) : m = m' := by
  have e : stp p u m = stp p u m' := by
    have c1 := stp_comm hp hv.nf hm.nf
    have c2 := stp_comm hp hv.nf hm'.nf
    have := h.uv
    have := h.vw
    have := h.uw
    have := h'.uv
    have := h'.vw
    have := h'.uw
    omega
  rw [onr_uniq hp hu hv hm h.uv, onr_uniq hp hu hv hm' h'.uv, e]
end
/-! drawn ones, at all primes -/
theorem vl_den {p N D : Int} (hp : Pr p) (hD : D ≠ 0) : vl p (frac N D).2 ≤ vl p D :=
  (vl_le hp.two hD).mp (Int.dvd_trans ((vl_le hp.two (frac_nf hD).ne).mpr (Nat.le_refl _)) (frac_den_dvd hD))
end
local macro_rules | `(tactic| simp! [$ls,*]) => `(tactic| simp only [$ls,*, eB_i0, eB_i1, eB_bt, eq_eB, ne_eB, eq_lB, ne_lB, in_lB, nin_lB, in_tB, nin_tB, eq_tB, ne_tB, eP_i0, eP_i1, eP_bt, eM_i0, eM_i1, eM_i2, eM_i3, eM_bt, eq_eP, ne_eP, eq_lP, ne_lP, eq_eM, ne_eM, eq_lM, ne_lM, cmp_strN, cmp_strE, ev_var, ev_cst, ev_glob, ev_neg, ev_not, ev_bin, ev_cmp, ev_chain, ev_and, ev_or, ev_ite, ev_tup, ev_lst, ev_ix, ev_slice, ev_rev, ev_call, ev_blt, ev_isi, ev_dicn, ev_dhasT, ev_dhasF, ev_dget, ev_dsort, ev_dixl, ev_revc, ev_cntL, ev_lrng1, ev_lrng2, blt_intB, es_dput, dgT_o, dpT_o, dgR_s, dxR_s, er_dhas, er_dget, er_dsort, er_dixl, ev_comp, ev_compF, ev_comp2, ev_comp2F, evA_n, evA_c, evA_s, evV_n, evV_c, evP_n, evP_c, evO_n, evO_s, evC_n, evC_s, evI_s, evI_1, evI_2, evI_3, evI_e, evI_z, listOf_l, zipD_l, zipD_t, es_pass, es_exp, es_set, es_setO, es_setT, es_par, es_parO, ownOf_t, evR_n, evR_f, evR_t, pS_n, pS_c, es_ite, es_whil, es_for, es_brk, es_cnt, es_frz, ess_n, ess_c, er_var, er_cst, er_glob, er_neg, er_not, er_bin, er_cmp, er_chain, er_and, er_or, er_ite, er_tup, er_lst, er_ix, er_slice, er_rev, er_call, er_blt, er_isi, er_comp, appR_o, augR_a, augR_s, frzR_o, varR_v, varR_o, retR_o, retR_v, ixR_s, ix_l, ix_t, bT_ok, sT_ok, qT_nx, qT_rt, qT_br, qT_ct, qT_ex, bT_exc, sT_exc, tT_ex, es_rais, es_try, es_tryY, optS_s, zT_nx, zT_rt, zT_ex, yT_nx, yT_rt, yT_br, yT_ct, yT_ex, es_clr, clrR_o, Cb_t, Cb_f, oT_s, tT_nx, tT_ct, tT_br, tT_rt, turn_nx, turn_ct, turn_br, turn_rt, datOf_dat, intOf_int, boolOf_bool, plain_eq, fresh_eq, ofBD_some, ofB_some, rOpt_some, seqOf_l, seqOf_t, lit_int, lit_str, lit_bool, lit_none, wp_ok, wp_bind, wps_sr, wps_seq, wps_tT, wps_nx, wps_rt, wps_br, wps_ct, List.getElem?_cons_zero, List.getElem?_cons_succ, List.set_cons_zero, List.set_cons_succ, List.map_cons, List.map_nil, Nat.reduceSub, List.replicate_succ, List.replicate_zero, List.cons_append, List.nil_append, List.append_nil, putVals, bt_nm, bt_t, bt_l, btT_s, bts_n, bts_c, wipeE, bin_int_add, bin_int_sub, cmp_int_eq, cmp_int_ne, cmp_int_lt, cmp_int_le, cmp_int_gt, cmp_int_ge, ix_0, ix_1, ix_2, ix_3, ix_4, ix_5, ix_6, ix_7, ix_m1, blt_absI, blt_intI, blt_tupL, blt_tupT, blt_lstL, blt_lstT, blt_lenL, blt_lenT, blt_lenLm, blt_lenTm, blt_min2, blt_max2, blt_min3, blt_max3, isi_n, isi_b, isi_i, isi_s, isi_l, isi_t, fits_0, fits_1, fits_2, fits_3, fits_4, fits_5, fits_6, fits_7, fits_8, fits_9, fits_10, fits_11, fits_12, fits_13, fits_14, fits_15, fits_16, fitsS_0, fitsS_1, fitsS_2, fitsS_3, fitsS_4, List.length_cons, List.length_nil, Nat.zero_add, Nat.reduceAdd, Bool.not_true, Bool.not_false, decide_true, decide_false, Int.reduceNeg, Int.reduceSub, Int.reduceAdd, Int.reduceLT, Int.reduceLE, Int.reduceEq, Int.reduceMul, nc_0, nc_1, nc_2, nc_3, nc_4])
local macro_rules | `(tactic| simp!) => `(tactic| simp only [eB_i0, eB_i1, eB_bt, eq_eB, ne_eB, eq_lB, ne_lB, in_lB, nin_lB, in_tB, nin_tB, eq_tB, ne_tB, eP_i0, eP_i1, eP_bt, eM_i0, eM_i1, eM_i2, eM_i3, eM_bt, eq_eP, ne_eP, eq_lP, ne_lP, eq_eM, ne_eM, eq_lM, ne_lM, cmp_strN, cmp_strE, ev_var, ev_cst, ev_glob, ev_neg, ev_not, ev_bin, ev_cmp, ev_chain, ev_and, ev_or, ev_ite, ev_tup, ev_lst, ev_ix, ev_slice, ev_rev, ev_call, ev_blt, ev_isi, ev_dicn, ev_dhasT, ev_dhasF, ev_dget, ev_dsort, ev_dixl, ev_revc, ev_cntL, ev_lrng1, ev_lrng2, blt_intB, es_dput, dgT_o, dpT_o, dgR_s, dxR_s, er_dhas, er_dget, er_dsort, er_dixl, ev_comp, ev_compF, ev_comp2, ev_comp2F, evA_n, evA_c, evA_s, evV_n, evV_c, evP_n, evP_c, evO_n, evO_s, evC_n, evC_s, evI_s, evI_1, evI_2, evI_3, evI_e, evI_z, listOf_l, zipD_l, zipD_t, es_pass, es_exp, es_set, es_setO, es_setT, es_par, es_parO, ownOf_t, evR_n, evR_f, evR_t, pS_n, pS_c, es_ite, es_whil, es_for, es_brk, es_cnt, es_frz, ess_n, ess_c, er_var, er_cst, er_glob, er_neg, er_not, er_bin, er_cmp, er_chain, er_and, er_or, er_ite, er_tup, er_lst, er_ix, er_slice, er_rev, er_call, er_blt, er_isi, er_comp, appR_o, augR_a, augR_s, frzR_o, varR_v, varR_o, retR_o, retR_v, ixR_s, ix_l, ix_t, bT_ok, sT_ok, qT_nx, qT_rt, qT_br, qT_ct, qT_ex, bT_exc, sT_exc, tT_ex, es_rais, es_try, es_tryY, optS_s, zT_nx, zT_rt, zT_ex, yT_nx, yT_rt, yT_br, yT_ct, yT_ex, es_clr, clrR_o, Cb_t, Cb_f, oT_s, tT_nx, tT_ct, tT_br, tT_rt, turn_nx, turn_ct, turn_br, turn_rt, datOf_dat, intOf_int, boolOf_bool, plain_eq, fresh_eq, ofBD_some, ofB_some, rOpt_some, seqOf_l, seqOf_t, lit_int, lit_str, lit_bool, lit_none, wp_ok, wp_bind, wps_sr, wps_seq, wps_tT, wps_nx, wps_rt, wps_br, wps_ct, List.getElem?_cons_zero, List.getElem?_cons_succ, List.set_cons_zero, List.set_cons_succ, List.map_cons, List.map_nil, Nat.reduceSub, List.replicate_succ, List.replicate_zero, List.cons_append, List.nil_append, List.append_nil, putVals, bt_nm, bt_t, bt_l, btT_s, bts_n, bts_c, wipeE, bin_int_add, bin_int_sub, cmp_int_eq, cmp_int_ne, cmp_int_lt, cmp_int_le, cmp_int_gt, cmp_int_ge, ix_0, ix_1, ix_2, ix_3, ix_4, ix_5, ix_6, ix_7, ix_m1, blt_absI, blt_intI, blt_tupL, blt_tupT, blt_lstL, blt_lstT, blt_lenL, blt_lenT, blt_lenLm, blt_lenTm, blt_min2, blt_max2, blt_min3, blt_max3, isi_n, isi_b, isi_i, isi_s, isi_l, isi_t, fits_0, fits_1, fits_2, fits_3, fits_4, fits_5, fits_6, fits_7, fits_8, fits_9, fits_10, fits_11, fits_12, fits_13, fits_14, fits_15, fits_16, fitsS_0, fitsS_1, fitsS_2, fitsS_3, fitsS_4, List.length_cons, List.length_nil, Nat.zero_add, Nat.reduceAdd, Bool.not_true, Bool.not_false, decide_true, decide_false, Int.reduceNeg, Int.reduceSub, Int.reduceAdd, Int.reduceLT, Int.reduceLE, Int.reduceEq, Int.reduceMul, nc_0, nc_1, nc_2, nc_3, nc_4])
section
def b_has_more_1 : Sms := (.cons (.ret (.or (.cmp .eq (.ix (.var 1) (.cst (.int 0))) (.cst (.int 0))) (.cmp .gt (.call "parts" f_parts (.cons (.var 0) (.cons (.var 1) .nil))) (.call "parts" f_parts (.cons (.var 0) (.cons (.var 2) .nil)))))) .nil)
def b_has_more_0a : Sms := (.cons (.ret (.cst (.bool false))) .nil)
def b_has_more : Sms := (.cons (.ite (.cmp .eq (.ix (.var 2) (.cst (.int 0))) (.cst (.int 0))) b_has_more_0a .nil) b_has_more_1)
def f_has_more : Fn := fnOf 3 3 b_has_more
def b_ball_of_3 : Sms := (.cons (.ret (.call "ball" f_ball (.cons (.var 0) (.cons (.call "parts" f_parts (.cons (.var 0) (.cons (.var 4) .nil))) (.cons (.call "divided" f_divided (.cons (.ix (.var 2) (.cst (.int 0))) (.cons (.ix (.var 2) (.cst (.int 1))) .nil))) .nil))))) .nil)
def b_ball_of_2 : Sms := (.cons (.set 4 false (.call "divided" f_divided (.cons (.call "minus" f_minus (.cons (.ix (.var 1) (.cst (.int 0))) (.cons (.call "times_of" f_times_of (.cons (.var 3) (.cons (.ix (.var 2) (.cst (.int 0))) .nil))) .nil))) (.cons (.ix (.var 2) (.cst (.int 1))) .nil)))) b_ball_of_3)
def b_ball_of_1 : Sms := (.cons (.set 3 false (.call "divided" f_divided (.cons (.ix (.var 1) (.cst (.int 1))) (.cons (.ix (.var 2) (.cst (.int 1))) .nil)))) b_ball_of_2)
def b_ball_of_0a : Sms := (.cons (.par [1, 2] (.cons (.var 2) (.cons (.var 1) .nil))) .nil)
def b_ball_of : Sms := (.cons (.ite (.call "has_more" f_has_more (.cons (.var 0) (.cons (.ix (.var 2) (.cst (.int 1))) (.cons (.ix (.var 1) (.cst (.int 1))) .nil)))) b_ball_of_0a .nil) b_ball_of_1)
def f_ball_of : Fn := fnOf 3 5 b_ball_of
def b_led_4 : Sms := (.cons (.ret (.call "ball_of" f_ball_of (.cons (.var 0) (.cons (.var 10) (.cons (.tup (.cons (.call "plus" f_plus (.cons (.call "times_of" f_times_of (.cons (.var 3) (.cons (.var 8) .nil))) (.cons (.var 4) .nil))) (.cons (.call "plus" f_plus (.cons (.call "times_of" f_times_of (.cons (.var 5) (.cons (.var 8) .nil))) (.cons (.var 6) .nil))) .nil))) .nil))))) .nil)
def b_led_3 : Sms := (.cons (.set 10 false (.tup (.cons (.call "times_of" f_times_of (.cons (.var 3) (.cons (.var 9) .nil))) (.cons (.call "times_of" f_times_of (.cons (.var 5) (.cons (.var 9) .nil))) .nil)))) b_led_4)
def b_led_2 : Sms := (.cons (.set 9 false (.call "power_of" f_power_of (.cons (.var 0) (.cons (.var 7) .nil)))) b_led_3)
def b_led_1 : Sms := (.cons (.setT (.cons (.nm 7) (.cons (.nm 8) .nil)) (.var 2)) b_led_2)
def b_led : Sms := (.cons (.setT (.cons (.nm 3) (.cons (.nm 4) (.cons (.nm 5) (.cons (.nm 6) .nil)))) (.comp (.tup (.cons (.var 11) (.cons (.cst (.int 1)) .nil))) [("number", 11)] (.nm 11) (.seq (.var 1)) .non)) b_led_1)
def f_led : Fn := fnOf 3 12 b_led
def b__law_led_7 : Sms := (.cons (.ret (.call "_law_ball" f__law_ball (.cons (.var 0) (.cons (.call "_law_parts" f__law_parts (.cons (.var 0) (.cons (.call "_law_product" f__law_product (.cons (.var 9) (.cons (.var 7) .nil))) .nil))) (.cons (.call "_law_product" f__law_product (.cons (.ix (.var 6) (.cst (.int 0))) (.cons (.var 7) .nil))) .nil))))) .nil)
def b__law_led_6 : Sms := (.cons (.set 9 false (.call "_law_sum" f__law_sum (.cons (.ix (.var 5) (.cst (.int 0))) (.cons (.call "_law_product" f__law_product (.cons (.tup (.cons (.bin .sub (.cst (.int 0)) (.ix (.var 8) (.cst (.int 0)))) (.cons (.ix (.var 8) (.cst (.int 1))) .nil))) (.cons (.ix (.var 6) (.cst (.int 0))) .nil))) .nil)))) b__law_led_7)
def b__law_led_5 : Sms := (.cons (.set 8 false (.call "_law_product" f__law_product (.cons (.ix (.var 5) (.cst (.int 1))) (.cons (.var 7) .nil)))) b__law_led_6)
def b__law_led_4 : Sms := (.cons (.set 7 false (.ite (.cmp .gt (.ix (.ix (.var 6) (.cst (.int 1))) (.cst (.int 0))) (.cst (.int 0))) (.tup (.cons (.ix (.ix (.var 6) (.cst (.int 1))) (.cst (.int 1))) (.cons (.ix (.ix (.var 6) (.cst (.int 1))) (.cst (.int 0))) .nil))) (.tup (.cons (.bin .sub (.cst (.int 0)) (.ix (.ix (.var 6) (.cst (.int 1))) (.cst (.int 1)))) (.cons (.bin .sub (.cst (.int 0)) (.ix (.ix (.var 6) (.cst (.int 1))) (.cst (.int 0)))) .nil))))) b__law_led_5)
def b__law_led_3a : Sms := (.cons (.par [5, 6] (.cons (.var 6) (.cons (.var 5) .nil))) .nil)
def b__law_led_3 : Sms := (.cons (.ite (.or (.cmp .eq (.ix (.ix (.var 6) (.cst (.int 1))) (.cst (.int 0))) (.cst (.int 0))) (.and (.cmp .ne (.ix (.ix (.var 5) (.cst (.int 1))) (.cst (.int 0))) (.cst (.int 0))) (.cmp .lt (.call "_law_parts" f__law_parts (.cons (.var 0) (.cons (.ix (.var 5) (.cst (.int 1))) .nil))) (.call "_law_parts" f__law_parts (.cons (.var 0) (.cons (.ix (.var 6) (.cst (.int 1))) .nil)))))) b__law_led_3a .nil) b__law_led_4)
def b__law_led_2 : Sms := (.cons (.set 6 false (.tup (.cons (.call "_law_sum" f__law_sum (.cons (.call "_law_product" f__law_product (.cons (.tup (.cons (.ix (.var 1) (.cst (.int 0))) (.cons (.cst (.int 1)) .nil))) (.cons (.var 4) .nil))) (.cons (.tup (.cons (.ix (.var 1) (.cst (.int 1))) (.cons (.cst (.int 1)) .nil))) .nil))) (.cons (.call "_law_sum" f__law_sum (.cons (.call "_law_product" f__law_product (.cons (.tup (.cons (.ix (.var 1) (.cst (.int 2))) (.cons (.cst (.int 1)) .nil))) (.cons (.var 4) .nil))) (.cons (.tup (.cons (.ix (.var 1) (.cst (.int 3))) (.cons (.cst (.int 1)) .nil))) .nil))) .nil)))) b__law_led_3)
def b__law_led_1 : Sms := (.cons (.set 5 false (.tup (.cons (.call "_law_product" f__law_product (.cons (.tup (.cons (.ix (.var 1) (.cst (.int 0))) (.cons (.cst (.int 1)) .nil))) (.cons (.var 3) .nil))) (.cons (.call "_law_product" f__law_product (.cons (.tup (.cons (.ix (.var 1) (.cst (.int 2))) (.cons (.cst (.int 1)) .nil))) (.cons (.var 3) .nil))) .nil)))) b__law_led_2)
def b__law_led : Sms := (.cons (.par [3, 4] (.cons (.call "_law_power" f__law_power (.cons (.var 0) (.cons (.ix (.var 2) (.cst (.int 0))) .nil))) (.cons (.ix (.var 2) (.cst (.int 1))) .nil))) b__law_led_1)
def f__law_led : Fn := fnOf 3 10 b__law_led
def r__law_led : List Req := [.fn "_law_power" f__law_power, .fn "_law_product" f__law_product, .fn "_law_sum" f__law_sum, .fn "_law_parts" f__law_parts, .fn "_law_ball" f__law_ball]
theorem q__law_led : rqSs b__law_led = [0, 1, 1, 2, 1, 2, 1, 3, 3, 1, 2, 1, 4, 3, 1, 1].map fun i => r__law_led.getD i (.non "") := rfl
/-! the ball of two columns -/
def hasm (p : Int) (x y : Fr) : Bool := !decide (y.1 = 0) && (decide (x.1 = 0) || decide (prt p y < prt p x))
def pvL (x0 x1 y0 y1 : Fr) : Fr := divF (subF x0 (mulF (divF x1 y1) y0)) y1
noncomputable def pvB (p : Int) (x0 x1 y0 y1 : Fr) : Bl := (prt p (pvL x0 x1 y0 y1), rp p (prt p (pvL x0 x1 y0 y1)) (divF y0 y1))
noncomputable def blo (p : Int) (x0 x1 y0 y1 : Fr) : Bl := if hasm p y1 x1 = true then pvB p y0 y1 x0 x1 else pvB p x0 x1 y0 y1
structure Cl (k L : Nat) (p : Int) (x0 x1 : Fr) : Prop where
  n0 : NF x0
  n1 : NF x1
  b0 : BdP k x0
  b1 : BdP k x1
  l : x1.1 ≠ 0 → vl p (divF x0 x1).2 ≤ L
section
variable {p : Int} {x0 x1 y0 y1 x y : Fr} {k L : Nat} {st : Store}
theorem has_more_ok (st : Store) (hp : PP p) (hx : NF x) (hy : NF y) (bx : BdP k x) (b_y : BdP k y) (hk : k ≤ 100000 := by decide) : f_has_more [.dat (.int p), .dat (eP x), .dat (eP y)] st = .ok ⟨false, .dat (.bool (hasm p x y))⟩ st := by
  refine fn_eq rfl ?_
  unfold hasm
  by_cases y1 : y.1 = 0
  · simp! [b_has_more, decide_eq_true y1, b_has_more_0a, Bool.false_and]
  · by_cases z : x.1 = 0
    · simp! [b_has_more, decide_eq_false y1, b_has_more_1, decide_eq_true z, Bool.true_or, Bool.true_and]
    · simp! [b_has_more, decide_eq_false y1, b_has_more_1, decide_eq_false z, partsP hp hx z bx hk, partsP hp hy y1 b_y hk, Bool.false_or, Bool.true_and]
theorem toR_ne {x : Fr} (hx : NF x) : x.1 ≠ 0 ↔ toR x ≠ 0 := not_congr (toR_zero hx).symm
theorem pvL_R (h0 : NF x0) (h1 : NF x1) (g0 : NF y0) (g1 : NF y1) (y1n : y1.1 ≠ 0) : NF (pvL x0 x1 y0 y1) ∧ toR (pvL x0 x1 y0 y1) = (toR x0 - toR x1 / toR y1 * toR y0) / toR y1 := by
  have a := divF_nf h1 y1n
  have b := mulF_nf a g0
  have c := subF_nf h0 b
  refine ⟨divF_nf c y1n, ?_⟩
  unfold pvL
  rw [toR_div c g1 y1n, toR_sub h0 b, toR_mul a g0, toR_div h1 g1 y1n]
theorem pvL_det (h0 : NF x0) (h1 : NF x1) (g0 : NF y0) (g1 : NF y1) (y1n : y1.1 ≠ 0) : toR (pvL x0 x1 y0 y1) = (toR x0 * toR y1 - toR x1 * toR y0) / (toR y1 * toR y1) := by
  rw [(pvL_R h0 h1 g0 g1 y1n).2]
  have := (toR_ne g1).mp y1n
  grind
theorem has_false (h1 : NF x1) (g1 : NF y1) (D : toR x0 * toR y1 - toR x1 * toR y0 ≠ 0) (h : hasm p y1 x1 = false) : y1.1 ≠ 0 ∧ (x1.1 = 0 ∨ prt p y1 ≤ prt p x1) := by
  unfold hasm at h
  by_cases z : y1.1 = 0
  · exfalso
    simp [z] at h
    have e1 := (toR_zero g1).mpr z
    have e2 := (toR_zero h1).mpr h
    rw [e1, e2] at D
    exact D (by grind)
  · refine ⟨z, ?_⟩
    simp [z] at h
    by_cases w : x1.1 = 0
    · exact .inl w
    · exact .inr (h w)
theorem has_true (h : hasm p y1 x1 = true) : x1.1 ≠ 0 ∧ (y1.1 = 0 ∨ prt p x1 ≤ prt p y1) := by
  unfold hasm at h
  simp at h
  refine ⟨h.1, ?_⟩
  rcases h.2 with z | z
  · exact .inl z
  · exact .inr (by omega)
theorem times_dv (hp : PP p) (h1 : NF x1) (g1 : NF y1) (y1n : y1.1 ≠ 0) (h : x1.1 = 0 ∨ prt p y1 ≤ prt p x1) : Dv p 0 (toR x1 / toR y1) := by
  have hh := hp.pr
  have e : toR x1 / toR y1 = toR x1 * (1 / toR y1) := by
    have := (toR_ne g1).mp y1n
    grind
  have vy := (Vl.of (q := y1) hh g1.ne y1n).inv hh
  rw [e]
  by_cases z : x1.1 = 0
  · rw [(toR_zero h1).mpr z]
    have : (0 : Rat) * (1 / toR y1) = 0 := by grind
    rw [this]
    exact .zero hh
  · have hm := h.resolve_left z
    have vx := (Vl.of (q := x1) hh h1.ne z).mul hh vy
    exact (vx.dvd hh).mpr (by omega)
/-- the told ball stands for the two columns -/
theorem pvB_eqv (hp : PP p) (h0 : NF x0) (h1 : NF x1) (g0 : NF y0) (g1 : NF y1) (D : toR x0 * toR y1 - toR x1 * toR y0 ≠ 0) (y1n : y1.1 ≠ 0) (h : x1.1 = 0 ∨ prt p y1 ≤ prt p x1) :
    Eqv p ⟨toR x0, toR y0, toR x1, toR y1⟩ (bm p (pvB p x0 x1 y0 y1)) := by
  have hh := hp.pr
  have yn := (toR_ne g1).mp y1n
  obtain ⟨nl, el⟩ := pvL_R h0 h1 g0 g1 y1n
  have ln : (pvL x0 x1 y0 y1).1 ≠ 0 := by
    rw [toR_ne nl, pvL_det h0 h1 g0 g1 y1n]
    grind
  have lv := Vl.of (q := pvL x0 x1 y0 y1) hh nl.ne ln
  have nc := divF_nf g0 y1n
  have s := rp_spec (n := prt p (pvL x0 x1 y0 y1)) hp nc
  have near := s.near
  rw [toR_div g0 g1 y1n] at near
  rw [el] at lv
  exact col_ball hh yn (times_dv hp h1 g1 y1n h) lv near
theorem blo_eqv (hp : PP p) (h0 : NF x0) (h1 : NF x1) (g0 : NF y0) (g1 : NF y1) (D : toR x0 * toR y1 - toR x1 * toR y0 ≠ 0) : Eqv p ⟨toR x0, toR y0, toR x1, toR y1⟩ (bm p (blo p x0 x1 y0 y1)) := by
  unfold blo
  cases z : hasm p y1 x1 with
  | true =>
    rw [if_pos rfl]
    obtain ⟨a, b⟩ := has_true z
    exact (Eqv.swap hp.pr).trans hp.pr (pvB_eqv hp g0 g1 h0 h1 (by grind) a b)
  | false =>
    rw [if_neg (by decide)]
    obtain ⟨a, b⟩ := has_false h1 g1 D z
    exact pvB_eqv hp h0 h1 g0 g1 D a b
theorem blo_is (hp : PP p) (h0 : NF x0) (h1 : NF x1) (g0 : NF y0) (g1 : NF y1) (D : toR x0 * toR y1 - toR x1 * toR y0 ≠ 0) : ∃ N, IsB p N (blo p x0 x1 y0 y1) := by
  have one : ∀ {x0 x1 y0 y1 : Fr}, NF y0 → y1.1 ≠ 0 → ∃ N, IsB p N (pvB p x0 x1 y0 y1) := fun {x0 x1 y0 y1} g0 y1n => by
    have nc := divF_nf g0 y1n
    exact ⟨vl p (divF y0 y1).2 + (prt p (pvL x0 x1 y0 y1)).natAbs, .of hp nc (by omega) (by omega) (by omega)⟩
  unfold blo
  cases z : hasm p y1 x1 with
  | true =>
    rw [if_pos rfl]
    exact one h0 (has_true z).1
  | false =>
    rw [if_neg (by decide)]
    exact one g0 (has_false h1 g1 D z).1
end
section
variable {p : Int} {x0 x1 y0 y1 x y : Fr} {k L : Nat} {st : Store}
theorem pvL_bd (a0 : BdP k x0) (a1 : BdP k x1) (c0 : BdP k y0) (c1 : BdP k y1) : BdP (5 * k + 1) (pvL x0 x1 y0 y1) := (divF_bd (subF_bd a0 (mulF_bd (divF_bd a1 c1) c0)) c1).up (by omega)
/-- what lies behind the exchange -/
theorem ball_of_run (st : Store) (hp : PP p) (ax : Cl k L p x0 x1) (ay : Cl k L p y0 y1) (hk : k ≤ 900) (hL : L ≤ 268) (D : toR x0 * toR y1 - toR x1 * toR y0 ≠ 0) (y1n : y1.1 ≠ 0) (hn : prt p (pvL x0 x1 y0 y1) ≤ 300) :
    evSs b_ball_of_1 [.val (.dat (.int p)), .val (.dat (.tuple [eP x0, eP x1])), .val (.dat (.tuple [eP y0, eP y1])), .un, .un] st = .rt ⟨false, .dat (eB (pvB p x0 x1 y0 y1))⟩ st := by
  have hh := hp.pr
  have yn := (toR_ne ay.n1).mp y1n
  obtain ⟨nl, el⟩ := pvL_R ax.n0 ax.n1 ay.n0 ay.n1 y1n
  have ln : (pvL x0 x1 y0 y1).1 ≠ 0 := by
    rw [toR_ne nl, pvL_det ax.n0 ax.n1 ay.n0 ay.n1 y1n]
    grind
  have d1 := divided_ok st ax.b1 ay.b1 ax.n1 y1n (by omega)
  have n1 := divF_nf ax.n1 y1n
  have bd1 := divF_bd ax.b1 ay.b1
  have t1 := times_ok st bd1 ay.b0 n1 ay.n0 (by omega)
  have nt := mulF_nf n1 ay.n0
  have bt := mulF_bd bd1 ay.b0
  have m1 := minus_ok st ax.b0 bt ax.n0 nt (by omega)
  have ns := subF_nf ax.n0 nt
  have bs := subF_bd ax.b0 bt
  have d2 : f_divided [.dat (eP (subF x0 (mulF (divF x1 y1) y0))), .dat (eP y1)] st = .ok ⟨false, .dat (eP (pvL x0 x1 y0 y1))⟩ st := divided_ok st bs ay.b1 ns y1n (by omega)
  have pt := partsP (st := st) hp nl ln (pvL_bd ax.b0 ax.b1 ay.b0 ay.b1) (by omega)
  have nc := divF_nf ay.n0 y1n
  have bc := divF_bd ay.b0 ay.b1
  have d3 := divided_ok st ay.b0 ay.b1 ay.n0 y1n (by omega)
  have b := ball_ok (n := prt p (pvL x0 x1 y0 y1)) (L := L) st hp nc bc (ay.l y1n) hn (by omega) hL
  have b : f_ball [.dat (.int p), .dat (.int (prt p (pvL x0 x1 y0 y1))), .dat (eP (divF y0 y1))] st = .ok ⟨false, .dat (eB (pvB p x0 x1 y0 y1))⟩ st := b
  simp! [b_ball_of_1, d1, b_ball_of_2, t1, m1, d2, b_ball_of_3, pt, d3, b]
theorem ball_of_ok (st : Store) (hp : PP p) (ax : Cl k L p x0 x1) (ay : Cl k L p y0 y1) (hk : k ≤ 900) (hL : L ≤ 268) (D : toR x0 * toR y1 - toR x1 * toR y0 ≠ 0) (hn : (blo p x0 x1 y0 y1).1 ≤ 300) :
    f_ball_of [.dat (.int p), .dat (.tuple [eP x0, eP x1]), .dat (.tuple [eP y0, eP y1])] st = .ok ⟨false, .dat (eB (blo p x0 x1 y0 y1))⟩ st := by
  have hm := has_more_ok st hp ay.n1 ax.n1 ay.b1 ax.b1 (by omega)
  refine fn_eq rfl ?_
  unfold blo at hn ⊢
  cases z : hasm p y1 x1 with
  | true =>
    rw [z] at hm
    rw [if_pos z] at hn
    rw [if_pos rfl]
    obtain ⟨a, _⟩ := has_true z
    have r := ball_of_run st hp ay ax hk hL (by grind) a hn
    simp! [b_ball_of, hm, b_ball_of_0a, r]
  | false =>
    rw [z] at hm
    rw [if_neg (by rw [z]; decide)] at hn
    rw [if_neg (by decide)]
    obtain ⟨a, _⟩ := has_false ax.n1 ay.n1 D z
    have r := ball_of_run st hp ax ay hk hL D a hn
    simp! [b_ball_of, hm, r]
end
/-! a ball led by a move -/
def cX (m : Int) (p : Int) (u : Bl) : Fr := mulF (m, 1) (pw p u.1)
def cY (m n : Int) (u : Bl) : Fr := addF (mulF (m, 1) u.2) (n, 1)
noncomputable def ledB (p : Int) (m : M4) (u : Bl) : Bl := blo p (cX m.a p u) (cX m.c p u) (cY m.a m.b u) (cY m.c m.d u)
def ofM (m : M4) : R4 := ⟨m.a, m.b, m.c, m.d⟩
/-- what led needs to run -/
structure LedOk (p : Int) (m : M4) (u : Bl) (k L : Nat) : Prop where
  x : Cl k L p (cX m.a p u) (cX m.c p u)
  y : Cl k L p (cY m.a m.b u) (cY m.c m.d u)
  hk : k ≤ 900
  hl : L ≤ 268
  n : (ledB p m u).1 ≤ 300
  e : u.1.natAbs ≤ 1000
  q : NF u.2
  bq : BdP k u.2
  bp : BdP k (pw p u.1)
  ba : Bd k m.a
  bb : Bd k m.b
  bc : Bd k m.c
  bd : Bd k m.d
section
variable {p : Int} {m n : M4} {u v : Bl} {k L N M : Nat} {st : Store}
theorem nfI (n : Int) : NF (n, 1) := ⟨(by decide : (0 : Int) < 1), by show Int.gcd n 1 = 1; simp⟩
theorem cX_nf (hp : PP p) (a : Int) : NF (cX a p u) := mulF_nf (nfI a) (pw_nf hp)
theorem cY_nf (hu : NF u.2) (a b : Int) : NF (cY a b u) := addF_nf (mulF_nf (nfI a) hu) (nfI b)
theorem cX_R (hp : PP p) (a : Int) : toR (cX a p u) = a * (p : Rat) ^ u.1 := by
  unfold cX
  rw [toR_mul (nfI a) (pw_nf hp), toR_int, toR_pw hp]
theorem cY_R (hu : NF u.2) (a b : Int) : toR (cY a b u) = a * toR u.2 + b := by
  unfold cY
  rw [toR_add (mulF_nf (nfI a) hu) (nfI b), toR_mul (nfI a) hu, toR_int, toR_int]
theorem led_D (hp : PP p) (hu : NF u.2) (hm : det4 m ≠ 0) : toR (cX m.a p u) * toR (cY m.c m.d u) - toR (cX m.c p u) * toR (cY m.a m.b u) ≠ 0 := by
  rw [cX_R hp, cX_R hp, cY_R hu, cY_R hu]
  have p0 := pz_ne (n := u.1) hp.pr
  have d0 : ((det4 m : Int) : Rat) ≠ 0 := ic_ne hm
  have e : ((det4 m : Int) : Rat) = (m.a : Rat) * m.d - m.b * m.c := by
    unfold det4
    simp only [Rat.intCast_sub, Rat.intCast_mul]
  rw [e] at d0
  generalize (p : Rat) ^ u.1 = P at *
  intro z
  have : P * ((m.a : Rat) * m.d - m.b * m.c) = 0 := by grind
  rcases Rat.mul_eq_zero.mp this with w | w
  · exact p0 w
  · exact d0 w
theorem led_tab (hp : PP p) (hu : NF u.2) : (⟨toR (cX m.a p u), toR (cY m.a m.b u), toR (cX m.c p u), toR (cY m.c m.d u)⟩ : R4) = (ofM m).mul (bm p u) := by
  rw [cX_R hp, cX_R hp, cY_R hu, cY_R hu]
  refine R4.ext' ?_ ?_ ?_ ?_ <;> simp [R4.mul, ofM, bm] <;> grind
theorem ledB_eqv (hp : PP p) (hu : NF u.2) (hm : det4 m ≠ 0) : Eqv p ((ofM m).mul (bm p u)) (bm p (ledB p m u)) := by
  rw [← led_tab hp hu]
  exact blo_eqv hp (cX_nf hp _) (cX_nf hp _) (cY_nf hu _ _) (cY_nf hu _ _) (led_D hp hu hm)
theorem ledB_is (hp : PP p) (hu : NF u.2) (hm : det4 m ≠ 0) : ∃ N, IsB p N (ledB p m u) := blo_is hp (cX_nf hp _) (cX_nf hp _) (cY_nf hu _ _) (cY_nf hu _ _) (led_D hp hu hm)
/-- a ball of the table is the led one -/
theorem ledB_uniq (hp : PP p) (hu : NF u.2) (hm : det4 m ≠ 0) (hv : IsB p N v) (e : Eqv p ((ofM m).mul (bm p u)) (bm p v)) : ledB p m u = v := by
  obtain ⟨M, h⟩ := ledB_is (u := u) hp hu hm
  exact bm_uniq hp h hv (((ledB_eqv hp hu hm).symm hp.pr).trans hp.pr e)
theorem ofM_scl (s : Int) (m : M4) : ofM (scl s m) = (ofM m).sc s := by
  refine R4.ext' ?_ ?_ ?_ ?_ <;> simp [ofM, scl, R4.sc]
theorem ofM_mul (m n : M4) : ofM (mulM m n) = (ofM m).mul (ofM n) := by
  refine R4.ext' ?_ ?_ ?_ ?_ <;> simp [ofM, mulM, R4.mul]
/-- moves one behind the other -/
theorem ledB_aft (hp : PP p) (hu : IsB p N u) (hm : det4 m ≠ 0) (hn : det4 n ≠ 0) : ledB p (aft m n) u = ledB p m (ledB p n u) := by
  have h := hp.pr
  obtain ⟨M, hw⟩ := ledB_is (u := u) hp hu.nf hn
  obtain ⟨K, hz⟩ := ledB_is (u := ledB p n u) hp hw.nf hm
  have dm := det_mul_ne hm hn
  refine ledB_uniq hp hu.nf (det_nm dm) hz ?_
  have s0 := sc4_ne (det_non0 dm)
  have e1 : ofM (mulM m n) = (ofM (aft m n)).sc (sc4 (mulM m n) : Int) := by
    rw [← ofM_scl]
    unfold aft
    rw [nm_mul (det_non0 dm)]
  have e2 : Eqv p ((ofM (aft m n)).mul (bm p u)) ((ofM (mulM m n)).mul (bm p u)) := by
    rw [e1, R4.sc_mul]
    exact Eqv.sc h (ic_ne s0)
  refine e2.trans h ?_
  rw [ofM_mul, R4.mul_assoc]
  exact ((ledB_eqv hp hu.nf hn).left).trans h (ledB_eqv hp hw.nf hm)
theorem ledB_one (hp : PP p) (hu : IsB p N u) : ledB p one4 u = u := by
  refine ledB_uniq hp hu.nf (by decide) hu ?_
  have e : (ofM one4).mul (bm p u) = bm p u := by
    refine R4.ext' ?_ ?_ ?_ ?_ <;> simp [R4.mul, ofM, one4, bm] <;> grind
  rw [e]
  exact Eqv.refl hp.pr
theorem ledB_bk (hp : PP p) (hu : IsB p N u) (hm : det4 m ≠ 0) : ledB p (bk m) (ledB p m u) = u := by
  rw [← ledB_aft hp hu (bk_d hm) hm, bk_aft hm, ledB_one hp hu]
/-- steps stay -/
theorem ledB_stp (hp : PP p) (hu : IsB p N u) (hv : IsB p M v) (hm : det4 m ≠ 0) : stp p (ledB p m u) (ledB p m v) = stp p u v := by
  obtain ⟨K, hw⟩ := ledB_is (u := u) hp hu.nf hm
  obtain ⟨L, hz⟩ := ledB_is (u := v) hp hv.nf hm
  exact stp_led hp hu hv hw hz (ledB_eqv hp hu.nf hm) (ledB_eqv hp hv.nf hm)
/-- the program's -/
theorem led_ok (st : Store) (hp : PP p) (hm : det4 m ≠ 0) (h : LedOk p m u k L) : f_led [.dat (.int p), .dat (eM m), .dat (eB u)] st = .ok ⟨false, .dat (eB (ledB p m u))⟩ st := by
  have hk := h.hk
  have pwk := power_of_ok hp u.1 st h.e
  have b1 : Bd k (1 : Int) := h.bp.2.up (Nat.le_refl _) |> fun _ => by
    have := h.bq.2
    have q0 := h.q.1
    unfold Bd at *
    omega
  have I : ∀ {i : Int}, Bd k i → BdP k ((i, 1) : Fr) := fun hi => ⟨hi, b1⟩
  have T : ∀ {i : Int} {y : Fr}, Bd k i → NF y → BdP k y → f_times_of [.dat (.tuple [.int i, .int 1]), .dat (eP y)] st = .ok ⟨false, .dat (eP (mulF (i, 1) y))⟩ st := fun hi hy b_y => times_ok (x := (_, 1)) st (I hi) b_y (nfI _) hy (by omega)
  have P : ∀ {i j : Int}, Bd k i → Bd k j → f_plus [.dat (eP (mulF (i, 1) u.2)), .dat (.tuple [.int j, .int 1])] st = .ok ⟨false, .dat (eP (cY i j u))⟩ st := fun hi hj => plus_ok (y := (_, 1)) st (mulF_bd (I hi) h.bq) (I hj) (mulF_nf (nfI _) h.q) (nfI _) (by omega)
  have B : f_ball_of [.dat (.int p), .dat (.tuple [eP (mulF (m.a, 1) (pw p u.1)), eP (mulF (m.c, 1) (pw p u.1))]), .dat (.tuple [eP (cY m.a m.b u), eP (cY m.c m.d u)])] st = .ok ⟨false, .dat (eB (ledB p m u))⟩ st := ball_of_ok st hp h.x h.y h.hk h.hl (led_D hp h.q hm) h.n
  refine Wp.is (wp_fn rfl ?_)
  simp! [b_led, seqOf_eM]
  refine wp_compM (xs := [m.a, m.b, m.c, m.d]) PyData.int (fun n => .tuple [.int n, .int 1]) (fun n hn => ?_) (by simp) ?_
  · simp!
    simp
  simp! [b_led_1, eB_bt, b_led_2, pwk, b_led_3, T h.ba (pw_nf hp) h.bp, T h.bc (pw_nf hp) h.bp, b_led_4, T h.ba h.q h.bq, T h.bc h.q h.bq, P h.ba h.bb, P h.bc h.bd, B]
  exact ⟨rfl, rfl⟩
end
/-! the law's own led -/
def ivF (y : Fr) : Fr := if 0 < y.1 then (y.2, y.1) else (0 - y.2, 0 - y.1)
section
variable {p : Int} {m : M4} {u : Bl} {x y x0 x1 y0 y1 t : Fr} {k L : Nat} {st : Store}
theorem ivF_nf (hy : NF y) (h : y.1 ≠ 0) : NF (ivF y) := by
  unfold ivF
  by_cases z : 0 < y.1
  · rw [if_pos z]
    exact ⟨z, by show Int.gcd y.2 y.1 = 1; rw [Int.gcd_comm]; exact hy.2⟩
  · rw [if_neg z]
    exact ⟨by show 0 < 0 - y.1; omega, by
      show Int.gcd (0 - y.2) (0 - y.1) = 1
      rw [Int.zero_sub, Int.zero_sub, Int.neg_gcd, Int.gcd_neg, Int.gcd_comm]
      exact hy.2⟩
theorem ivF_R (hy : NF y) (h : y.1 ≠ 0) : toR (ivF y) = 1 / toR y := by
  have a := ic_ne h
  have b := ic_ne hy.ne
  unfold ivF toR
  by_cases z : 0 < y.1
  · rw [if_pos z]
    show (y.2 : Rat) / (y.1 : Rat) = _
    grind
  · rw [if_neg z]
    show ((0 - y.2 : Int) : Rat) / ((0 - y.1 : Int) : Rat) = _
    simp only [Rat.intCast_sub]
    have : ((0 : Int) : Rat) = 0 := by simp
    rw [this]
    grind
theorem ivF_bd (b : BdP k y) : BdP k (ivF y) := by
  unfold ivF
  by_cases z : 0 < y.1
  · rw [if_pos z]
    exact ⟨b.2, b.1⟩
  · rw [if_neg z]
    exact ⟨by show Bd k (0 - y.2); rw [Int.zero_sub]; exact b.2.neg, by show Bd k (0 - y.1); rw [Int.zero_sub]; exact b.1.neg⟩
theorem mul_iv (hx : NF x) (hy : NF y) (h : y.1 ≠ 0) : mulF x (ivF y) = divF x y := by
  have a := (toR_ne hy).mp h
  refine (mulF_nf hx (ivF_nf hy h)).ext (divF_nf hx h) ?_
  rw [toR_mul hx (ivF_nf hy h), ivF_R hy h, toR_div hx hy h]
  grind
theorem ng_nf (hx : NF x) : NF (0 - x.1, x.2) := ⟨hx.1, by
  show Int.gcd (0 - x.1) x.2 = 1
  rw [Int.zero_sub, Int.neg_gcd]
  exact hx.2⟩
theorem ng_bd (b : BdP k x) : BdP k (0 - x.1, x.2) := ⟨by show Bd k (0 - x.1); rw [Int.zero_sub]; exact b.1.neg, b.2⟩
theorem ng_R : toR (0 - x.1, x.2) = - toR x := by
  unfold toR
  show ((0 - x.1 : Int) : Rat) / (x.2 : Rat) = _
  simp only [Rat.intCast_sub]
  have : ((0 : Int) : Rat) = 0 := by simp
  rw [this]
  grind
theorem add_ng (hx : NF x) (ht : NF t) (hy : NF y) : addF x (mulF (0 - t.1, t.2) y) = subF x (mulF t y) := by
  refine (addF_nf hx (mulF_nf (ng_nf ht) hy)).ext (subF_nf hx (mulF_nf ht hy)) ?_
  rw [toR_add hx (mulF_nf (ng_nf ht) hy), toR_mul (ng_nf ht) hy, toR_sub hx (mulF_nf ht hy), toR_mul ht hy, ng_R]
  grind
theorem law_led_run (st : Store) (hp : PP p) (ax : Cl k L p x0 x1) (ay : Cl k L p y0 y1) (hk : k ≤ 900) (hL : L ≤ 268) (D : toR x0 * toR y1 - toR x1 * toR y0 ≠ 0) (y1n : y1.1 ≠ 0) (hn : prt p (pvL x0 x1 y0 y1) ≤ 300) {s1 s2 s3 s4 : Slot} :
    evSs b__law_led_4 [.val (.dat (.int p)), s1, s2, s3, s4, .val (.dat (.tuple [eP x0, eP x1])), .val (.dat (.tuple [eP y0, eP y1])), .un, .un, .un] st = .rt ⟨false, .dat (eB (pvB p x0 x1 y0 y1))⟩ st := by
  have iv := ivF_nf ay.n1 y1n
  have bi := ivF_bd ay.b1
  obtain ⟨nl, el⟩ := pvL_R ax.n0 ax.n1 ay.n0 ay.n1 y1n
  have yn := (toR_ne ay.n1).mp y1n
  have ln : (pvL x0 x1 y0 y1).1 ≠ 0 := by
    rw [toR_ne nl, pvL_det ax.n0 ax.n1 ay.n0 ay.n1 y1n]
    grind
  have p1 := law_product_ok st ax.b1 bi ax.n1 iv (by omega)
  rw [mul_iv ax.n1 ay.n1 y1n] at p1
  have n1 := divF_nf ax.n1 y1n
  have bd1 := divF_bd ax.b1 ay.b1
  have p2 := law_product_ok (x := (0 - (divF x1 y1).1, (divF x1 y1).2)) st (ng_bd bd1) ay.b0 (ng_nf n1) ay.n0 (by omega)
  rw [eP_mk (a := 0 - (divF x1 y1).1) (b := (divF x1 y1).2)] at p2
  have s1' := law_sum_ok st ax.b0 (mulF_bd (ng_bd bd1) ay.b0) ax.n0 (mulF_nf (ng_nf n1) ay.n0) (by omega)
  rw [add_ng ax.n0 n1 ay.n0] at s1'
  have nt := mulF_nf n1 ay.n0
  have bt := mulF_bd bd1 ay.b0
  have ns := subF_nf ax.n0 nt
  have bs := subF_bd ax.b0 bt
  have p3 := law_product_ok st bs bi ns iv (by omega)
  rw [mul_iv ns ay.n1 y1n] at p3
  have p3 : f__law_product [.dat (eP (subF x0 (mulF (divF x1 y1) y0))), .dat (eP (ivF y1))] st = .ok ⟨false, .dat (eP (pvL x0 x1 y0 y1))⟩ st := p3
  have pt := lpartsP (st := st) hp nl ln (pvL_bd ax.b0 ax.b1 ay.b0 ay.b1) (by omega)
  have p4 := law_product_ok st ay.b0 bi ay.n0 iv (by omega)
  rw [mul_iv ay.n0 ay.n1 y1n] at p4
  have nc := divF_nf ay.n0 y1n
  have bc := divF_bd ay.b0 ay.b1
  have b := law_ball_ok (n := prt p (pvL x0 x1 y0 y1)) (L := L) st hp nc bc (ay.l y1n) hn (by omega) hL
  have b : f__law_ball [.dat (.int p), .dat (.int (prt p (pvL x0 x1 y0 y1))), .dat (eP (divF y0 y1))] st = .ok ⟨false, .dat (eB (pvB p x0 x1 y0 y1))⟩ st := b
  have go : evSs b__law_led_5 [.val (.dat (.int p)), s1, s2, s3, s4, .val (.dat (.tuple [eP x0, eP x1])), .val (.dat (.tuple [eP y0, eP y1])), .val (.dat (eP (ivF y1))), .un, .un] st = .rt ⟨false, .dat (eB (pvB p x0 x1 y0 y1))⟩ st := by
    simp! [b__law_led_5, p1, b__law_led_6, p2, s1', b__law_led_7, p3, pt, p4, b]
  by_cases z : 0 < y1.1
  · have e : ivF y1 = (y1.2, y1.1) := by unfold ivF; rw [if_pos z]
    rw [e, eP_mk (a := y1.2) (b := y1.1)] at go
    simp! [b__law_led_4, decide_eq_true z, go]
  · have e : ivF y1 = (0 - y1.2, 0 - y1.1) := by unfold ivF; rw [if_neg z]
    rw [e, eP_mk (a := 0 - y1.2) (b := 0 - y1.1)] at go
    simp! [b__law_led_4, decide_eq_false z, go]
theorem law_led_ok (st : Store) (hp : PP p) (hm : det4 m ≠ 0) (h : LedOk p m u k L) : f__law_led [.dat (.int p), .dat (eM m), .dat (eB u)] st = .ok ⟨false, .dat (eB (ledB p m u))⟩ st := by
  have hk := h.hk
  have pwk := law_power_ok hp u.1 st h.e
  have b1 : Bd k (1 : Int) := by
    have := h.bq.2
    have q0 := h.q.1
    unfold Bd at *
    omega
  have I : ∀ {i : Int}, Bd k i → BdP k ((i, 1) : Fr) := fun hi => ⟨hi, b1⟩
  have T : ∀ {i : Int} {y : Fr}, Bd k i → NF y → BdP k y → f__law_product [.dat (.tuple [.int i, .int 1]), .dat (eP y)] st = .ok ⟨false, .dat (eP (mulF (i, 1) y))⟩ st := fun hi hy b_y => law_product_ok (x := (_, 1)) st (I hi) b_y (nfI _) hy (by omega)
  have P : ∀ {i j : Int}, Bd k i → Bd k j → f__law_sum [.dat (eP (mulF (i, 1) u.2)), .dat (.tuple [.int j, .int 1])] st = .ok ⟨false, .dat (eP (cY i j u))⟩ st := fun hi hj => law_sum_ok (y := (_, 1)) st (mulF_bd (I hi) h.bq) (I hj) (mulF_nf (nfI _) h.q) (nfI _) (by omega)
  have D := led_D (u := u) hp h.q hm
  have hn := h.n
  have x := h.x
  have y := h.y
  have ex1 : mulF (m.a, 1) (pw p u.1) = cX m.a p u := rfl
  have ex2 : mulF (m.c, 1) (pw p u.1) = cX m.c p u := rfl
  have T1 := T h.ba (pw_nf (n := u.1) hp) h.bp
  have T2 := T h.bc (pw_nf (n := u.1) hp) h.bp
  rw [ex1] at T1
  rw [ex2] at T2
  have P1 := P h.ba h.bb
  have P2 := P h.bc h.bd
  unfold ledB blo at hn ⊢
  have xn1 := x.n1
  have yn1 := y.n1
  have lp1 : (cX m.c p u).1 ≠ 0 → f__law_parts [.dat (.int p), .dat (eP (cX m.c p u))] st = .ok ⟨false, .dat (.int (prt p (cX m.c p u)))⟩ st := fun z => lpartsP hp xn1 z x.b1 (by omega)
  have lp2 : (cY m.c m.d u).1 ≠ 0 → f__law_parts [.dat (.int p), .dat (eP (cY m.c m.d u))] st = .ok ⟨false, .dat (.int (prt p (cY m.c m.d u)))⟩ st := fun z => lpartsP hp yn1 z y.b1 (by omega)
  refine fn_eq rfl ?_
  by_cases z : hasm p (cY m.c m.d u) (cX m.c p u) = true
  · rw [if_pos z] at hn ⊢
    obtain ⟨a, _⟩ := has_true z
    have r := fun s1 s2 s3 s4 => law_led_run (s1 := s1) (s2 := s2) (s3 := s3) (s4 := s4) st hp y x h.hk h.hl (by grind) a hn
    by_cases w : (cY m.c m.d u).1 = 0
    · simp! [b__law_led, eB_i0, eB_i1, pwk, b__law_led_1, T1, T2, b__law_led_2, T h.ba h.q h.bq, T h.bc h.q h.bq, P1, P2, b__law_led_3, decide_eq_true w, b__law_led_3a, r]
    · unfold hasm at z
      simp [a, w] at z
      simp! [b__law_led, eB_i0, eB_i1, pwk, b__law_led_1, T1, T2, b__law_led_2, T h.ba h.q h.bq, T h.bc h.q h.bq, P1, P2, b__law_led_3, decide_eq_false w, decide_eq_false a, lp1 a, lp2 w, decide_eq_true z, b__law_led_3a, r]
  · rw [if_neg z] at hn ⊢
    have z' : hasm p (cY m.c m.d u) (cX m.c p u) = false := by simpa using z
    obtain ⟨a, b⟩ := has_false xn1 yn1 D z'
    have r := fun s1 s2 s3 s4 => law_led_run (s1 := s1) (s2 := s2) (s3 := s3) (s4 := s4) st hp x y h.hk h.hl D a hn
    by_cases w : (cX m.c p u).1 = 0
    · simp! [b__law_led, eB_i0, eB_i1, pwk, b__law_led_1, T1, T2, b__law_led_2, T h.ba h.q h.bq, T h.bc h.q h.bq, P1, P2, b__law_led_3, decide_eq_false a, decide_eq_true w, r]
    · have b := b.resolve_left w
      have b : ¬ prt p (cX m.c p u) < prt p (cY m.c m.d u) := by omega
      simp! [b__law_led, eB_i0, eB_i1, pwk, b__law_led_1, T1, T2, b__law_led_2, T h.ba h.q h.bq, T h.bc h.q h.bq, P1, P2, b__law_led_3, decide_eq_false a, decide_eq_false w, lp1 w, lp2 a, decide_eq_false b, r]
end
/-! bounds: when led runs -/
section
variable {p : Int} {m : M4} {u : Bl} {x y x0 x1 y0 y1 t : Fr} {k L N B j : Nat} {st : Store}
theorem vl_in {a : Int} (hp : 2 ≤ p) (a0 : a ≠ 0) (h : (a.natAbs : Int) < 2 ^ k * p ^ j) : vl p a ≤ k + j := by
  obtain ⟨m, e, hm⟩ := vl_spec hp a0
  refine Classical.byContradiction fun z => ?_
  have m0 : m ≠ 0 := fun q => hm (q ▸ Int.dvd_zero p)
  obtain ⟨d, hd⟩ : ∃ d, vl p a = j + d := ⟨vl p a - j, by omega⟩
  have pj : 0 < p ^ j := Int.pow_pos (by omega)
  have pd : 0 < p ^ d := Int.pow_pos (by omega)
  have a1 : (p ^ j * p ^ d) ≤ (a.natAbs : Int) := by
    rw [hd, Int.pow_add] at e
    have : (p ^ j * p ^ d) ∣ (a.natAbs : Int) := Int.dvd_natAbs.mpr ⟨m, e⟩
    exact Int.le_of_dvd (by omega) this
  have a2 : p ^ j * p ^ d < p ^ j * 2 ^ k := by
    have : (2 : Int) ^ k * p ^ j = p ^ j * 2 ^ k := Int.mul_comm _ _
    omega
  have a3 : p ^ d < 2 ^ k := Int.lt_of_mul_lt_mul_left a2 (Int.le_of_lt pj)
  have a4 : (2 : Int) ^ d ≤ p ^ d := pow_mono1 (by decide) hp d
  have a5 : (2 : Int) ^ k ≤ 2 ^ (k + (d - k)) := pow_mono2 (by decide) k (d - k)
  rw [show k + (d - k) = d by omega] at a5
  omega
theorem IsB.top2 (hp : PP p) (h : IsB p N u) : 0 ≤ u.2.1 ∧ u.2.1 < p ^ (2 * N) ∧ ∃ j : Nat, j ≤ N ∧ u.2.2 = p ^ j := by
  have h2 := hp.two
  have q := h.isq hp
  obtain ⟨j, e, hj⟩ := (rp_spec (n := u.1) hp h.nf).low
  rw [h.rp] at e
  have jN : j ≤ N := Nat.le_trans hj h.den
  have hi := h.hi
  refine ⟨(toR_nonneg h.nf).mp q.lo, ?_, j, jN, e⟩
  have pj : (0 : Rat) < ((p ^ j : Int) : Rat) := Rat.intCast_lt_intCast.mpr (Int.pow_pos (by omega))
  have t1 : toR u.2 * ((p ^ j : Int) : Rat) = u.2.1 := by
    rw [← e]
    unfold toR
    have := ic_ne h.nf.ne
    grind
  refine Rat.intCast_lt_intCast.mp ?_
  rw [← t1]
  have a1 := Rat.mul_lt_mul_of_pos_right q.hi pj
  refine Std.lt_of_lt_of_le a1 ?_
  rw [← pz_nat, ← pz_nat, ← pz_add hp.pr]
  obtain ⟨d, hd⟩ : ∃ d : Nat, ((2 * N : Nat) : Int) = u.1 + j + d := ⟨(((2 * N : Nat) : Int) - (u.1 + j)).toNat, by omega⟩
  rw [hd, pz_add (m := u.1 + j) hp.pr, pz_nat (j := d)]
  have d1 : (1 : Rat) ≤ ((p ^ d : Int) : Rat) := Rat.intCast_le_intCast.mpr (Int.pow_pos (by omega))
  have p0 := pz_pos (n := u.1 + j) hp.pr
  have := Rat.mul_le_mul_of_nonneg_left d1 (Rat.le_of_lt p0)
  grind
theorem IsB.dvq (hp : PP p) (h : IsB p N u) : Dv p (-(N : Int)) (toR u.2) := by
  obtain ⟨_, _, j, hj, e⟩ := h.top2 hp
  have p0 := pz_ne (n := (j : Int)) hp.pr
  have e2 : toR u.2 = (u.2.1 : Rat) * (p : Rat) ^ (-(j : Int)) := by
    have q : (p : Rat) ^ (-(j : Int)) * (p : Rat) ^ (j : Int) = 1 := by rw [← pz_add hp.pr, Int.add_left_neg, Rat.zpow_zero]
    unfold toR
    rw [e, ← pz_nat]
    grind
  rw [e2]
  have := (Dv.int hp.pr u.2.1).mul hp.pr (Vl.pz (n := -(j : Int)) hp.pr).dv
  exact this.mono hp.pr (by omega)
theorem prt_pvL (hp : PP p) (h0 : NF x0) (h1 : NF x1) (g0 : NF y0) (g1 : NF y1) (y1n : y1.1 ≠ 0) {e : Int} (D : Vl p e (toR x0 * toR y1 - toR x1 * toR y0)) : prt p (pvL x0 x1 y0 y1) = e - 2 * prt p y1 := by
  have hh := hp.pr
  obtain ⟨nl, _⟩ := pvL_R h0 h1 g0 g1 y1n
  have el := pvL_det h0 h1 g0 g1 y1n
  have yn := (toR_ne g1).mp y1n
  have d0 := D.ne hh
  have ln : (pvL x0 x1 y0 y1).1 ≠ 0 := by
    rw [toR_ne nl, el]
    grind
  have v1 := Vl.of (q := y1) hh g1.ne y1n
  have v2 := Vl.of (q := pvL x0 x1 y0 y1) hh nl.ne ln
  have v3 := D.mul hh ((v1.mul hh v1).inv hh)
  have e3 : (toR x0 * toR y1 - toR x1 * toR y0) * (1 / (toR y1 * toR y1)) = toR (pvL x0 x1 y0 y1) := by
    rw [el]
    grind
  rw [e3] at v3
  have := v2.uniq hh v3
  omega
theorem LedOk.of (hp : PP p) (gm : GM 34 m) (hu : IsB p N u) (hN : N ≤ 77) (hb : BdP B u.2) (hw : BdP B (pw p u.1)) (hB : B ≤ 830) : LedOk p m u (B + 69) 268 := by
  have hh := hp.pr
  have h2 := hp.two
  have lo := hu.lo
  have hi := hu.hi
  obtain ⟨q0, q1, j, hj, ej⟩ := hu.top2 hp
  have o1 : Bd 34 (1 : Int) := bds (by decide)
  have b := gm.b
  have ux : ∀ {i : Int}, Bd 34 i → BdP (B + 69) (cX i p u) := fun hi => (mulF_bd (x := (_, 1)) ⟨hi, o1⟩ hw).up (by omega)
  have uy : ∀ {i k : Int}, Bd 34 i → Bd 34 k → BdP (B + 69) (cY i k u) := fun hi hk => (addF_bd (mulF_bd (x := (_, 1)) ⟨hi, o1⟩ hb) (y := (_, 1)) ⟨hk, o1⟩).up (by omega)
  have D := led_D (u := u) hp hu.nf gm.d
  -- what the lower ones are divided by at least
  have dx : Dv p (-(N : Int)) (toR (cX m.c p u)) := by
    rw [cX_R hp]
    exact ((Dv.int hh m.c).mul hh (Vl.pz hh).dv).mono hh (by omega)
  have dy : Dv p (-(N : Int)) (toR (cY m.c m.d u)) := by
    rw [cY_R hu.nf]
    have a := (Dv.int hh m.c).mul hh (hu.dvq hp)
    rw [Int.zero_add] at a
    exact a.add hh ((Dv.int hh m.d).mono hh (by omega))
  obtain ⟨e, he⟩ := Vl.ex hh D
  have eb : e ≤ N + 69 := by
    have vd := Vl.of (q := (det4 m, 1)) hh (by decide : (1 : Int) ≠ 0) gm.d
    have pe : prt p (det4 m, 1) = vl p (det4 m) := by
      unfold prt
      show (vl p (det4 m) : Int) - (vl p 1 : Int) = _
      rw [vl_one' h2]
      omega
    rw [pe, toR_int] at vd
    have db : vl p (det4 m) < 69 := vl_lt h2 gm.d ((b.1.mul b.2.2.2).sub' (b.2.1.mul b.2.2.1))
    have v2 := (Vl.pz (n := u.1) hh).mul hh vd
    have eq : (p : Rat) ^ u.1 * ((det4 m : Int) : Rat) = toR (cX m.a p u) * toR (cY m.c m.d u) - toR (cX m.c p u) * toR (cY m.a m.b u) := by
      rw [cX_R hp, cX_R hp, cY_R hu.nf, cY_R hu.nf]
      have : ((det4 m : Int) : Rat) = (m.a : Rat) * m.d - m.b * m.c := by
        unfold det4
        simp only [Rat.intCast_sub, Rat.intCast_mul]
      rw [this]
      grind
    rw [eq] at v2
    have := he.uniq hh v2
    omega
  have n1 := cX_nf (u := u) hp m.a
  have n2 := cX_nf (u := u) hp m.c
  have n3 := cY_nf hu.nf m.a m.b
  have n4 := cY_nf hu.nf m.c m.d
  refine { x := ⟨n1, n2, ux b.1, ux b.2.2.1, fun z => ?_⟩, y := ⟨n3, n4, uy b.1 b.2.1, uy b.2.2.1 b.2.2.2, fun z => ?_⟩, hk := by omega, hl := by omega, n := ?_, e := by omega, q := hu.nf, bq := hb.up (by omega), bp := hw.up (by omega), ba := b.1.up (by omega), bb := b.2.1.up (by omega), bc := b.2.2.1.up (by omega), bd := b.2.2.2.up (by omega) }
  · -- a / c
    have c0 : m.c ≠ 0 := fun q => z (by
      rw [← toR_zero n2, cX_R hp, q]
      have : ((0 : Int) : Rat) = 0 := by simp
      rw [this]
      grind)
    have eq : divF (cX m.a p u) (cX m.c p u) = frac m.a m.c := by
      refine (divF_nf n1 z).ext (frac_nf c0) ?_
      rw [toR_div n1 n2 z, toR_frac c0, cX_R hp, cX_R hp]
      have p0 := pz_ne (n := u.1) hh
      have c1 := ic_ne c0
      grind
    rw [eq]
    have := Nat.le_trans (vl_den (N := m.a) hh c0) (Nat.le_of_lt (vl_lt h2 c0 b.2.2.1))
    omega
  · have z2 := (toR_ne n4).mp z
    have q2 := hu.nf.ne
    have l0 : ledL m u.2 ≠ 0 := fun q => z2 (by
      rw [cY_R hu.nf]
      unfold ledL at q
      have q' : (m.c : Rat) * u.2.1 + m.d * u.2.2 = 0 := by
        have := congrArg (fun i : Int => (i : Rat)) q
        simpa using this
      have q3 := ic_ne q2
      unfold toR
      grind)
    have eq : divF (cY m.a m.b u) (cY m.c m.d u) = frac (ledU m u.2) (ledL m u.2) := by
      refine (divF_nf n3 z).ext (frac_nf l0) ?_
      rw [cY_R hu.nf] at z2
      rw [toR_div n3 n4 z, toR_frac l0, cY_R hu.nf, cY_R hu.nf]
      have q3 := ic_ne q2
      have l1 := ic_ne l0
      unfold ledU ledL at *
      simp only [Rat.intCast_add, Rat.intCast_mul] at *
      unfold toR at *
      grind
    rw [eq]
    refine Nat.le_trans (vl_den (N := ledU m u.2) hh l0) (Nat.le_trans (vl_in (k := 35) (j := 2 * N) h2 l0 ?_) (by omega))
    have pj : u.2.2 ≤ p ^ (2 * N) := by
      rw [ej]
      have := pow_mono2 (b := p) (by omega) j (2 * N - j)
      rwa [show j + (2 * N - j) = 2 * N by omega] at this
    have q2p := hu.nf.1
    generalize p ^ (2 * N) = P at q1 pj ⊢
    have c1 := b.2.2.1
    have d1 := b.2.2.2
    unfold Bd at c1 d1
    unfold ledL
    have k1 : (m.c * u.2.1).natAbs ≤ 2 ^ 34 * P.natAbs := by
      rw [Int.natAbs_mul]
      exact Nat.mul_le_mul (by omega) (by omega)
    have k2 : (m.d * u.2.2).natAbs < 2 ^ 34 * P.natAbs := by
      rw [Int.natAbs_mul]
      exact Nat.lt_of_lt_of_le (Nat.mul_lt_mul_of_pos_right d1 (by omega)) (Nat.mul_le_mul_left _ (by omega))
    have k3 := Int.natAbs_add_le (m.c * u.2.1) (m.d * u.2.2)
    have : ((P.natAbs : Nat) : Int) = P := by omega
    omega
  · unfold ledB blo
    cases z : hasm p (cY m.c m.d u) (cX m.c p u) with
    | true =>
      rw [if_pos rfl]
      obtain ⟨a, _⟩ := has_true z
      have v := ((Vl.of (q := cX m.c p u) hh n2.ne a).dvd hh).mp dx
      have he' : Vl p e (toR (cY m.a m.b u) * toR (cX m.c p u) - toR (cY m.c m.d u) * toR (cX m.a p u)) := by
        have := he.neg
        have eq : -(toR (cX m.a p u) * toR (cY m.c m.d u) - toR (cX m.c p u) * toR (cY m.a m.b u)) = toR (cY m.a m.b u) * toR (cX m.c p u) - toR (cY m.c m.d u) * toR (cX m.a p u) := by grind
        rwa [eq] at this
      have := prt_pvL hp n3 n4 n1 n2 a he'
      show prt p (pvL _ _ _ _) ≤ 300
      omega
    | false =>
      rw [if_neg (by decide)]
      obtain ⟨a, _⟩ := has_false n2 n4 D z
      have v := ((Vl.of (q := cY m.c m.d u) hh n4.ne a).dvd hh).mp dy
      have := prt_pvL hp n1 n2 n3 n4 a he
      show prt p (pvL _ _ _ _) ≤ 300
      omega
end
end
section
/-! a drawn move, for all primes to 97 -/
/-! where the ways to three led points part -/
section
variable {p : Int} {m : M4} {u : Bl} {N t : Nat}
theorem vl_inb {a : Int} {b k j : Nat} (hp : 2 ≤ p) (hb : (2 : Int) ^ b ≤ p) (a0 : a ≠ 0) (h : (a.natAbs : Int) < 2 ^ (b * k) * p ^ j) : vl p a ≤ k + j := by
  obtain ⟨m, e, hm⟩ := vl_spec hp a0
  refine Classical.byContradiction fun z => ?_
  obtain ⟨d, hd⟩ : ∃ d, vl p a = j + d := ⟨vl p a - j, by omega⟩
  have pj : 0 < p ^ j := Int.pow_pos (by omega)
  have a1 : (p ^ j * p ^ d) ≤ (a.natAbs : Int) := by
    rw [hd, Int.pow_add] at e
    have : (p ^ j * p ^ d) ∣ (a.natAbs : Int) := Int.dvd_natAbs.mpr ⟨m, e⟩
    exact Int.le_of_dvd (by omega) this
  have a2 : p ^ j * p ^ d < p ^ j * 2 ^ (b * k) := by
    have : (2 : Int) ^ (b * k) * p ^ j = p ^ j * 2 ^ (b * k) := Int.mul_comm _ _
    omega
  have a3 : p ^ d < 2 ^ (b * k) := Int.lt_of_mul_lt_mul_left a2 (Int.le_of_lt pj)
  have a4 : ((2 : Int) ^ b) ^ d ≤ p ^ d := pow_mono1 (Int.pow_nonneg (by decide)) hb d
  rw [← Int.pow_mul] at a4
  have kd : k ≤ d := by omega
  have a5 : (2 : Int) ^ (b * k) ≤ 2 ^ (b * k + b * (d - k)) := pow_mono2 (by decide) (b * k) (b * (d - k))
  rw [← Nat.mul_add, show k + (d - k) = d by omega] at a5
  omega
/-- t is what the prime can divide a move's numbers by -/
structure Small (p : Int) (t : Nat) : Prop where
  one : ∀ (a : Int) (j : Nat), a ≠ 0 → (a.natAbs : Int) < 2 ^ 35 * p ^ j → vl p a ≤ t + j
  two : ∀ a : Int, a ≠ 0 → Bd 69 a → vl p a ≤ 2 * t
theorem Small.of {b : Nat} (hp : 2 ≤ p) (hb : (2 : Int) ^ b ≤ p) (h1 : 35 ≤ b * t) : Small p t := by
  have up : ∀ {i j : Nat}, i ≤ j → (2 : Int) ^ i ≤ 2 ^ j := fun {i j} h => by
    have := pow_mono2 (b := 2) (by decide) i (j - i)
    rwa [show i + (j - i) = j by omega] at this
  refine ⟨fun a j a0 h => vl_inb hp hb a0 ?_, fun a a0 h => ?_⟩
  · have pj : 0 < p ^ j := Int.pow_pos (by omega)
    have := Int.mul_le_mul_of_nonneg_right (up h1) (Int.le_of_lt pj)
    omega
  · have := vl_inb (b := b) (k := 2 * t) (j := 0) hp hb a0 (by
      have e : b * (2 * t) = 2 * (b * t) := by rw [Nat.mul_left_comm]
      have := up (show 69 ≤ b * (2 * t) by omega)
      rw [Int.pow_zero, Int.mul_one]
      have h' : (a.natAbs : Int) < 2 ^ 69 := by
        unfold Bd at h
        have : ((2 ^ 69 : Nat) : Int) = (2 : Int) ^ 69 := by norm_cast
        omega
      omega)
    omega
end
end
section
/-! rows of numbers and fractions, and the one move of them -/
structure Q4 where
  a : Fr
  b : Fr
  c : Fr
  d : Fr
structure Q4.Ok (k : Nat) (q : Q4) : Prop where
  na : NF q.a
  nb : NF q.b
  nc : NF q.c
  nd : NF q.d
  ba : BdP k q.a
  bb : BdP k q.b
  bc : BdP k q.c
  bd : BdP k q.d
theorem Q4.Ok.up {k l : Nat} {q : Q4} (h : q.Ok k) (hl : k ≤ l) : q.Ok l := ⟨h.na, h.nb, h.nc, h.nd, h.ba.up hl, h.bb.up hl, h.bc.up hl, h.bd.up hl⟩
/-! what the program's functions tell -/
/-- what the program's looks say of an item: b, whether it is a number or a fraction -/
def It (d : MP.D) (b : Bool) : Prop := ∀ st, ∃ n, f_is_number [.dat d] st = .ok ⟨false, .dat (.bool n)⟩ st ∧ ((n = true ∧ b = true) ∨ (n = false ∧ f_is_fraction [.dat d] st = .ok ⟨false, .dat (.bool b)⟩ st))
section
variable {p : Int} {m n x y : M4} {u v w : Bl} {k a b i N M K B t : Nat} {st : Store}
/-! the table of a ball, in its form -/
def tb4 (p : Int) (u : Bl) : M4 := ⟨(pw p u.1).1 * u.2.2, u.2.1 * (pw p u.1).2, 0, (pw p u.1).2 * u.2.2⟩
def gt (p : Int) (u : Bl) : M4 := nm (tb4 p u)
def tq (p : Int) (u : Bl) : Q4 := ⟨pw p u.1, u.2, (0, 1), (1, 1)⟩
theorem tb4_d (hp : PP p) (hu : NF u.2) : det4 (tb4 p u) ≠ 0 := by
  have h := pw_nf (n := u.1) hp
  have p0 : (pw p u.1).1 ≠ 0 := (toR_ne h).mpr (by rw [toR_pw hp]; exact pz_ne hp.pr)
  unfold det4 tb4
  simp only [Int.mul_zero, Int.sub_zero]
  exact Int.mul_ne_zero (Int.mul_ne_zero p0 hu.ne) (Int.mul_ne_zero h.ne hu.ne)
/-- the move told at a ball's grid -/
def tld (p : Int) (m : M4) (u : Bl) : M4 := aft (bk (gt p u)) (aft m (gt p u))
/-! plain: tables and what they lead -/
theorem ofM_tb (hp : PP p) (hu : NF u.2) : ∃ s : Rat, s ≠ 0 ∧ ofM (tb4 p u) = (bm p u).sc s := by
  have n1 := (pw_nf (n := u.1) hp)
  refine ⟨((pw p u.1).2 * u.2.2 : Int), ic_ne (Int.mul_ne_zero n1.ne hu.ne), ?_⟩
  have e := toR_pw (n := u.1) hp
  have a1 := ic_ne n1.ne
  have a2 := ic_ne hu.ne
  have q1 : (((pw p u.1).1 : Int) : Rat) = (p : Rat) ^ u.1 * (((pw p u.1).2 : Int) : Rat) := by
    rw [← e]
    unfold toR
    grind
  have q2 : ((u.2.1 : Int) : Rat) = toR u.2 * ((u.2.2 : Int) : Rat) := by
    unfold toR
    grind
  refine R4.ext' ?_ ?_ ?_ ?_ <;> simp only [ofM, tb4, bm, R4.sc, Rat.intCast_mul, q1, q2] <;> (try simp) <;> grind
theorem ofM_nm (hd : det4 m ≠ 0) : ∃ s : Rat, s ≠ 0 ∧ ofM m = (ofM (nm m)).sc s := by
  refine ⟨(sc4 m : Int), ic_ne (sc4_ne (det_non0 hd)), ?_⟩
  rw [← ofM_scl, nm_mul (det_non0 hd)]
theorem R4.sc_inv {s : Rat} (s0 : s ≠ 0) {X Y : R4} (h : X = Y.sc s) : Y = X.sc (1 / s) := by
  rw [h, R4.sc_sc]
  have : 1 / s * s = 1 := by grind
  rw [this, R4.sc_one]
theorem ofM_gt (hp : PP p) (hu : NF u.2) : ∃ s : Rat, s ≠ 0 ∧ bm p u = (ofM (gt p u)).sc s := by
  obtain ⟨s, s0, e⟩ := ofM_tb hp hu
  obtain ⟨t, t0, f⟩ := ofM_nm (tb4_d hp hu)
  have e1 := R4.sc_inv s0 e
  refine ⟨1 / s * t, by grind, ?_⟩
  rw [e1, f, R4.sc_sc]
  rfl
theorem ofM_aft (hm : det4 m ≠ 0) (hn : det4 n ≠ 0) : ∃ s : Rat, s ≠ 0 ∧ (ofM m).mul (ofM n) = (ofM (aft m n)).sc s := by
  obtain ⟨s, s0, e⟩ := ofM_nm (det_mul_ne hm hn)
  exact ⟨s, s0, by rw [← ofM_mul]; exact e⟩
theorem gt_mv (hp : PP p) (hu : NF u.2) : Mv (gt p u) := ⟨det_nm (tb4_d hp hu), nm_nf (det_non0 (tb4_d hp hu))⟩
abbrev b00 : Bl := (0, (0, 1))
theorem bm_00 (hp : PP p) : bm p b00 = R4.one := by
  have z := toR01
  have z0 : (p : Rat) ^ (0 : Int) = 1 := Rat.zpow_zero _
  unfold bm R4.one
  rw [z, z0]
theorem isb0 (hp : PP p) {n : Int} {N : Nat} (h1 : -(N : Int) ≤ n) (h2 : n ≤ N) : IsB p N (n, (0, 1)) := by
  have z := rpS_zero (n := n) hp nf01 (.inr rfl)
  have s := rp_spec (n := n) hp nf01
  refine ⟨nf01, s.nf.ext nf01 (IsQ.eq hp.pr s.isq z.isq s.near), h1, h2, ?_⟩
  show vl p 1 ≤ N
  rw [vl_one' hp.two]
  exact Nat.zero_le _
theorem tld_mv (hp : PP p) (hm : Mv m) (hu : NF u.2) : Mv (tld p m u) := (gt_mv hp hu).bk.aft (hm.aft (gt_mv hp hu))
theorem gt_tld (hp : PP p) (hm : Mv m) (hu : NF u.2) : aft (gt p u) (tld p m u) = aft m (gt p u) := aft_cancel (gt_mv hp hu) (hm.aft (gt_mv hp hu))
theorem gt_00 : gt p b00 = one4 := by
  have : pw p 0 = (1, 1) := by
    unfold pw
    simp
  unfold gt tb4
  rw [this]
  decide
theorem tld_00 (hm : Mv m) : tld p m b00 = m := by
  unfold tld
  rw [gt_00, aft_one hm.f hm.d, show bk one4 = one4 by decide, one_aft hm.f hm.d]
/-! how far a move leads a ball -/
theorem dv1_int (h : Pr p) {a : Int} (d : Dv p 1 (a : Rat)) : p ∣ a := by
  obtain ⟨z, c, hc, e⟩ := d
  rw [pz_one] at e
  have e2 : a * c = p * z := by exact_mod_cast e
  exact (h.dv _ _ ⟨z, e2⟩).elim id (fun q => absurd q hc)
theorem prm_nf (h : Pr p) (f : NFM m) : Prm p (ofM m) := by
  refine ⟨⟨Dv.int h _, Dv.int h _, Dv.int h _, Dv.int h _⟩, fun ⟨a, b, c, d⟩ => ?_⟩
  have a := dv1_int h a
  have b := dv1_int h b
  have c := dv1_int h c
  have d := dv1_int h d
  have h2 := h.two
  have g : p.natAbs ∣ gcd4 m := Nat.dvd_gcd (Nat.dvd_gcd (Int.natAbs_dvd_natAbs.mpr a) (Int.natAbs_dvd_natAbs.mpr b)) (Nat.dvd_gcd (Int.natAbs_dvd_natAbs.mpr c) (Int.natAbs_dvd_natAbs.mpr d))
  rw [f.1] at g
  have := Nat.dvd_one.mp g
  omega
theorem ofM_det : (ofM m).det = (det4 m : Int) := by
  unfold det4 R4.det ofM
  simp only [Rat.intCast_sub, Rat.intCast_mul]
theorem vl_det (hp : PP p) (hm : det4 m ≠ 0) : Vl p (vl p (det4 m)) (ofM m).det := by
  have v := Vl.of (q := (det4 m, 1)) hp.pr (by decide : (1 : Int) ≠ 0) hm
  have pe : prt p (det4 m, 1) = vl p (det4 m) := by
    unfold prt
    show (vl p (det4 m) : Int) - (vl p 1 : Int) = _
    rw [vl_one' hp.two]
    omega
  rw [pe, toR_int] at v
  rwa [ofM_det]
theorem tld_stp (hp : PP p) (hm : Mv m) (hu : IsB p N u) : stp p u (ledB p m u) = vl p (det4 (tld p m u)) := by
  have h := hp.pr
  have g := gt_mv hp hu.nf
  have tm := tld_mv hp hm hu.nf
  obtain ⟨s, s0, e⟩ := ofM_gt hp hu.nf
  obtain ⟨s1, z1, e1⟩ := ofM_aft g.d tm.d
  obtain ⟨s2, z2, e2⟩ := ofM_aft hm.d g.d
  rw [gt_tld hp hm hu.nf] at e1
  have e1' := R4.sc_inv z1 e1
  obtain ⟨M, hw⟩ := ledB_is (u := u) hp hu.nf hm.d
  have D : Dst p (bm p u) ((ofM m).mul (bm p u)) (vl p (det4 (tld p m u)) : Int) := by
    refine ⟨s2 * (1 / s1), by grind, ofM (tld p m u), prm_nf h tm.f, vl_det hp tm.d, ?_⟩
    rw [e, R4.mul_sc, e2, e1', R4.sc_mul]
    simp only [R4.sc_sc]
    congr 1
    grind
  refine Dst.uniq h ?_ (stp_dst hp hu hw) (D.right h (ledB_eqv hp hu.nf hm.d))
  rw [bm_det]
  exact pz_ne h
/-! bounds -/
theorem isb_stp (hp : PP p) (hw : IsB p M w) (h : stp p b00 w ≤ N) : IsB p N w := by
  have l := top_l hp nf01 hw.nf (u := b00)
  have r := top_r hp nf01 hw.nf (u := b00)
  have d := (top_d hp nf01 hw.nf (u := b00))
  unfold stp at h
  generalize top p b00 w = t at *
  have l : t ≤ 0 := l
  have h : 0 + w.1 - 2 * t ≤ N := h
  refine ⟨hw.nf, hw.rp, by omega, by omega, ?_⟩
  rw [toR01] at d
  have d : Dv p t (toR w.2) := by
    have := d.neg
    have q : -(0 - toR w.2) = toR w.2 := by grind
    rwa [q] at this
  by_cases z : w.2.1 = 0
  · have g := hw.nf.2
    have q := hw.nf.1
    rw [z, Int.gcd_zero_left] at g
    have : w.2.2 = 1 := by omega
    rw [this, vl_one' hp.two]
    exact Nat.zero_le _
  · have v := (Vl.of hp.pr hw.nf.ne z).dvd hp.pr |>.mp d
    unfold prt at v
    by_cases k : vl p w.2.2 = 0
    · omega
    · have l1 := (vl_le hp.two hw.nf.ne (k := 1)).mpr (by omega)
      have : vl p w.2.1 = 0 := by
        refine Classical.byContradiction fun y => ?_
        have l2 := (vl_le hp.two z (k := 1)).mpr (by omega)
        rw [Int.pow_succ, Int.pow_zero, Int.one_mul] at l1 l2
        have g := hw.nf.2
        have gg : p ∣ (1 : Int) := by
          have : p ∣ (Int.gcd w.2.1 w.2.2 : Nat) := Int.dvd_coe_gcd l2 l1
          rw [g] at this
          exact this
        exact hp.pr.not1 gg
      omega
theorem stp_00 (hp : PP p) (hu : IsB p N u) : stp p b00 u ≤ 3 * N := by
  have lo := hu.lo
  have hi := hu.hi
  have t : -(N : Int) ≤ top p b00 u := by
    refine (le_top hp nf01 hu.nf (u := b00)).mpr ⟨by show -(N : Int) ≤ 0; omega, lo, ?_⟩
    have := (hu.dvq hp).neg
    have q : toR (b00 : Bl).2 - toR u.2 = -toR u.2 := by rw [toR01]; grind
    rwa [q]
  unfold stp
  have : (b00 : Bl).1 = 0 := rfl
  omega
theorem IsB.bits (hp : PP p) (hc : Bd k p) (h : IsB p N u) : BdP (k * (2 * N) + 1) u.2 := by
  obtain ⟨q0, q1, j, hj, ej⟩ := h.top2 hp
  have b0 := hc.pow (2 * N)
  have b1 := hc.pow j
  have h2 := hp.two
  have pn : 0 < p ^ (2 * N) := Int.pow_pos (by omega)
  refine ⟨?_, by rw [ej]; exact b1.up (by
    have : k * j ≤ k * (2 * N) := Nat.mul_le_mul_left _ (by omega)
    omega)⟩
  unfold Bd at b0 ⊢
  omega
theorem LedOk.gen (hp : PP p) (gm : GM K m) (hu : IsB p N u) (hn : (ledB p m u).1 ≤ 300) (hb : BdP B u.2) (hw : BdP B (pw p u.1)) (hL : K + 1 + 2 * N ≤ 268) (hB : B + 2 * K + 1 ≤ 900) (hK : 1 ≤ K) : LedOk p m u (B + 2 * K + 1) 268 := by
  have hh := hp.pr
  have h2 := hp.two
  have lo := hu.lo
  have hi := hu.hi
  obtain ⟨q0, q1, j, hj, ej⟩ := hu.top2 hp
  have o1 : Bd K (1 : Int) := (show Bd 1 (1 : Int) by unfold Bd; decide).up hK
  have b := gm.b
  have ux : ∀ {i : Int}, Bd K i → BdP (B + 2 * K + 1) (cX i p u) := fun hi => (mulF_bd (x := (_, 1)) ⟨hi, o1⟩ hw).up (by omega)
  have uy : ∀ {i k : Int}, Bd K i → Bd K k → BdP (B + 2 * K + 1) (cY i k u) := fun hi hk => (addF_bd (mulF_bd (x := (_, 1)) ⟨hi, o1⟩ hb) (y := (_, 1)) ⟨hk, o1⟩).up (by omega)
  have n1 := cX_nf (u := u) hp m.a
  have n2 := cX_nf (u := u) hp m.c
  have n3 := cY_nf hu.nf m.a m.b
  have n4 := cY_nf hu.nf m.c m.d
  refine { x := ⟨n1, n2, ux b.1, ux b.2.2.1, fun z => ?_⟩, y := ⟨n3, n4, uy b.1 b.2.1, uy b.2.2.1 b.2.2.2, fun z => ?_⟩, hk := by omega, hl := by omega, n := ?_, e := by omega, q := hu.nf, bq := hb.up (by omega), bp := hw.up (by omega), ba := b.1.up (by omega), bb := b.2.1.up (by omega), bc := b.2.2.1.up (by omega), bd := b.2.2.2.up (by omega) }
  · -- a / c
    have c0 : m.c ≠ 0 := fun q => z (by
      rw [← toR_zero n2, cX_R hp, q]
      have : ((0 : Int) : Rat) = 0 := by simp
      rw [this]
      grind)
    have eq : divF (cX m.a p u) (cX m.c p u) = frac m.a m.c := by
      refine (divF_nf n1 z).ext (frac_nf c0) ?_
      rw [toR_div n1 n2 z, toR_frac c0, cX_R hp, cX_R hp]
      have p0 := pz_ne (n := u.1) hh
      have c1 := ic_ne c0
      grind
    rw [eq]
    have := Nat.le_trans (vl_den (N := m.a) hh c0) (Nat.le_of_lt (vl_lt h2 c0 b.2.2.1))
    omega
  · have z2 := (toR_ne n4).mp z
    have q2 := hu.nf.ne
    have l0 : ledL m u.2 ≠ 0 := fun q => z2 (by
      rw [cY_R hu.nf]
      unfold ledL at q
      have q' : (m.c : Rat) * u.2.1 + m.d * u.2.2 = 0 := by
        have := congrArg (fun i : Int => (i : Rat)) q
        simpa using this
      have q3 := ic_ne q2
      unfold toR
      grind)
    have eq : divF (cY m.a m.b u) (cY m.c m.d u) = frac (ledU m u.2) (ledL m u.2) := by
      refine (divF_nf n3 z).ext (frac_nf l0) ?_
      rw [cY_R hu.nf] at z2
      rw [toR_div n3 n4 z, toR_frac l0, cY_R hu.nf, cY_R hu.nf]
      have q3 := ic_ne q2
      have l1 := ic_ne l0
      unfold ledU ledL at *
      simp only [Rat.intCast_add, Rat.intCast_mul] at *
      unfold toR at *
      grind
    rw [eq]
    refine Nat.le_trans (vl_den (N := ledU m u.2) hh l0) (Nat.le_trans (vl_in (k := K + 1) (j := 2 * N) h2 l0 ?_) (by omega))
    have pj : u.2.2 ≤ p ^ (2 * N) := by
      rw [ej]
      have := pow_mono2 (b := p) (by omega) j (2 * N - j)
      rwa [show j + (2 * N - j) = 2 * N by omega] at this
    have q2p := hu.nf.1
    generalize p ^ (2 * N) = P at q1 pj ⊢
    have c1 := b.2.2.1
    have d1 := b.2.2.2
    unfold Bd at c1 d1
    unfold ledL
    have k1 : (m.c * u.2.1).natAbs ≤ 2 ^ K * P.natAbs := by
      rw [Int.natAbs_mul]
      exact Nat.mul_le_mul (by omega) (by omega)
    have k2 : (m.d * u.2.2).natAbs < 2 ^ K * P.natAbs := by
      rw [Int.natAbs_mul]
      exact Nat.lt_of_lt_of_le (Nat.mul_lt_mul_of_pos_right d1 (by omega)) (Nat.mul_le_mul_left _ (by omega))
    have k3 := Int.natAbs_add_le (m.c * u.2.1) (m.d * u.2.2)
    have e3 : ((P.natAbs : Nat) : Int) = P := by omega
    have e4 : (2 : Int) ^ (K + 1) * P = ((2 * (2 ^ K * P.natAbs) : Nat) : Int) := by
      rw [Int.natCast_mul, Int.natCast_mul, e3, Int.natCast_pow, Int.pow_succ]
      grind
    rw [e4]
    generalize 2 ^ K * P.natAbs = T at *
    omega
  · exact hn
end
end
section
section
variable {p : Int} {m n x y : M4} {u v w a b e f : Bl} {i j k : Int} {N M L : Nat} {st : Store}
/-! roads: parts of a road -/
/-! a move and a ball: how far the ball is led, and twice -/
def tr4 (m : M4) : Int := m.a + m.d
/-- how many steps a move stretches by -/
def sth (p : Int) (m : M4) : Int := if tr4 m = 0 then 0 else max 0 ((vl p (det4 m) : Int) - 2 * (vl p (tr4 m) : Int))
/-- the ball that rests: in the middle of the road to the led ball -/
noncomputable def rsk (p : Int) (m : M4) (u : Bl) : Int := (stp p u (ledB p m u) - sth p m).fdiv 2
noncomputable def rst (p : Int) (m : M4) (u : Bl) : Bl := onr p u (ledB p m u) (rsk p m u)
/-- what the ball that rests is led by -/
def due (p : Int) (m : M4) : Int := if 0 < sth p m then sth p m else (vl p (det4 m) : Int) % 2
end
/-! a drawn move, with a bound for its size -/
theorem nm_db {l : Nat} {m : M4} (h : det4 m ≠ 0) (hb : Bd l (det4 m)) : Bd l (det4 (nm m)) := by
  have s0 := sc4_ne (det_non0 h)
  have e := congrArg det4 (nm_mul (det_non0 h))
  rw [det_scl] at e
  have e2 := congrArg Int.natAbs e
  rw [Int.natAbs_mul, Int.natAbs_mul] at e2
  have s1 : 1 ≤ (sc4 m).natAbs := by omega
  have := Nat.mul_le_mul s1 s1
  have := Nat.mul_le_mul_right (det4 (nm m)).natAbs this
  unfold Bd at *
  omega
theorem aft_db {k l : Nat} {m n : M4} (hm : det4 m ≠ 0) (hn : det4 n ≠ 0) (h : Bd k (det4 m)) (q : Bd l (det4 n)) : Bd (k + l) (det4 (aft m n)) := nm_db (det_mul_ne hm hn) (by rw [det_mul]; exact h.mul q)
theorem bk_db {k : Nat} {m : M4} (hm : det4 m ≠ 0) (h : Bd k (det4 m)) : Bd k (det4 (bk m)) := nm_db (det_adj_ne hm) (by rw [det_adj]; exact h)
end
section
section
variable {p : Int} {m : M4} {u v : Bl} {K N M D L c B : Nat} {st : Store}
theorem IsB.low (hp : PP p) (h : IsB p N v) : ∃ j : Nat, v.2.2 = p ^ j := by
  obtain ⟨j, e, _⟩ := (rp_spec (n := v.1) hp h.nf).low
  rw [h.rp] at e
  exact ⟨j, e⟩
/-- led runs, where its ball is known -/
theorem lok (hp : PP p) (hc : Bd c p) (gm : GM K m) (hu : IsB p N u) (hv : IsB p M (ledB p m u)) (hM : M ≤ 300) (h2 : K + 1 + 2 * N ≤ 268) (h1 : c * (2 * N) + 1 ≤ B) (h3 : 7 * N + 1 ≤ B) (h4 : B + 2 * K + 1 ≤ 900) (hK : 1 ≤ K) : LedOk p m u (B + 2 * K + 1) 268 := by
  have := hv.hi
  have := hu.lo
  have := hu.hi
  exact LedOk.gen (B := B) hp gm hu (by omega) ((hu.bits hp hc).up h1) ((pw_bd (N := N) hp (by omega)).up h3) h2 h4 hK
theorem prtI (hp : PP p) {z : Int} : prt p (z, 1) = vl p z := by
  unfold prt
  show (vl p z : Int) - (vl p 1 : Int) = _
  rw [vl_one' hp.two]
  omega
theorem gm_db (gm : GM K m) : Bd (2 * K + 1) (det4 m) := ((gm.b.1.mul gm.b.2.2.2).sub' (gm.b.2.1.mul gm.b.2.2.1)).up (by omega)
/-- the word of a move's kind -/
def kw (p : Int) (m : M4) : Str := if 0 < sth p m then "stretches" else if (vl p (det4 m) : Int) % 2 = 0 then "keeps" else "exchanges"
/-! the first ball -/
theorem stp_b00 (hp : PP p) (hm : Mv m) : stp p b00 (ledB p m b00) = vl p (det4 m) := by
  have h0 : IsB p 0 b00 := isb0 hp (by decide) (by decide)
  have := tld_stp hp hm h0
  rwa [tld_00 hm] at this
theorem led_b00 (hp : PP p) (hm : Mv m) (h : vl p (det4 m) ≤ N) : IsB p N (ledB p m b00) := by
  obtain ⟨M, hw⟩ := ledB_is (u := b00) hp nf01 hm.d
  refine isb_stp hp hw ?_
  rw [stp_b00 hp hm]
  omega
theorem vl_bd (hp : PP p) (hm : det4 m ≠ 0) (h : Bd D (det4 m)) : vl p (det4 m) ≤ D := Nat.le_of_lt (vl_lt hp.two hm h)
end
end
section
section
variable {p : Int} {m : M4} {u v x y : Bl} {c K N M D B : Nat} {k : Int} {st : Store}
/-- all that a run of a move at a ball wants -/
structure Ku (p : Int) (m : M4) (u : Bl) (c K N B : Nat) : Prop where
  hp : PP p
  hc : Bd c p
  gm : GM K m
  hu : IsB p N u
  hv : IsB p N (ledB p m u)
  n1 : N ≤ 100
  k1 : 1 ≤ K
  k2 : K + 1 + 2 * N ≤ 268
  b1 : c * (2 * N) + 1 ≤ B
  b2 : 7 * N + 1 ≤ B
  b3 : B + 2 * K + 1 ≤ 900
theorem Ku.at_ (k : Ku p m u c K N B) (hx : IsB p N x) (hy : IsB p N (ledB p m x)) : Ku p m x c K N B := ⟨k.hp, k.hc, k.gm, hx, hy, k.n1, k.k1, k.k2, k.b1, k.b2, k.b3⟩
theorem Ku.lk (k : Ku p m u c K N B) : LedOk p m u (B + 2 * K + 1) 268 := lok k.hp k.hc k.gm k.hu k.hv (Nat.le_trans k.n1 (by decide)) k.k2 k.b1 k.b2 k.b3 k.k1
theorem Ku.l (k : Ku p m u c K N B) (st : Store) : f_led [.dat (.int p), .dat (eM m), .dat (eB u)] st = .ok ⟨false, .dat (eB (ledB p m u))⟩ st := led_ok st k.hp k.gm.d k.lk
end
end
section
def b__law_start : Sms := (.cons (.ret (.tup (.cons (.cst (.int 0)) (.cons (.tup (.cons (.cst (.int 0)) (.cons (.cst (.int 1)) .nil))) .nil)))) .nil)
def f__law_start : Fn := fnOf 0 0 b__law_start
def r__law_start : List Req := []
theorem q__law_start : rqSs b__law_start = ([] : List Nat).map fun i => r__law_start.getD i (.non "") := rfl
def b__law_primes_of : Sms := (.cons (.ret (.comp (.var 1) [("_law_p", 1)] (.nm 1) (.rng2 (.cst (.int 2)) (.cst (.int 98))) (.som (.and (.cmp .eq (.bin .mod (.blt .int (.cons (.var 0) .nil)) (.var 1)) (.cst (.int 0))) (.blt .all (.cons (.comp (.cmp .gt (.bin .mod (.var 1) (.var 2)) (.cst (.int 0))) [("_law_q", 2)] (.nm 2) (.rng2 (.cst (.int 2)) (.var 1)) .non) .nil)))))) .nil)
def f__law_primes_of : Fn := fnOf 1 3 b__law_primes_of
def r__law_primes_of : List Req := [.non "range", .non "int", .non "all"]
theorem q__law_primes_of : rqSs b__law_primes_of = [0, 1, 2, 0].map fun i => r__law_primes_of.getD i (.non "") := rfl
def b_grid_form_3 : Sms := (.cons (.ret (.call "in_form" f_in_form (.cons (.tup (.cons (.var 4) (.cons (.bin .mod (.bin .mul (.var 3) (.ix (.var 1) (.cst (.int 0)))) (.var 4)) (.cons (.cst (.int 0)) (.cons (.bin .mul (.var 3) (.ix (.var 1) (.cst (.int 1)))) .nil))))) .nil))) .nil)
def b_grid_form_2 : Sms := (.cons (.par [3, 4] (.cons (.ite (.cmp .gt (.ix (.var 1) (.cst (.int 1))) (.cst (.int 0))) (.cst (.int 1)) (.neg (.cst (.int 1)))) (.cons (.blt .abs (.cons (.ix (.var 2) (.cst (.int 0))) .nil)) .nil))) b_grid_form_3)
def b_grid_form_1a_1 : Sms := (.cons (.par [1, 2] (.cons (.var 2) (.cons (.tup (.cons (.bin .sub (.ix (.var 1) (.cst (.int 0))) (.bin .mul (.var 5) (.ix (.var 2) (.cst (.int 0))))) (.cons (.bin .sub (.ix (.var 1) (.cst (.int 1))) (.bin .mul (.var 5) (.ix (.var 2) (.cst (.int 1))))) .nil))) .nil))) .nil)
def b_grid_form_1a : Sms := (.cons (.set 5 false (.bin .fdiv (.ix (.var 1) (.cst (.int 1))) (.ix (.var 2) (.cst (.int 1))))) b_grid_form_1a_1)
def b_grid_form_1 : Sms := (.cons (.whil (.cmp .ne (.ix (.var 2) (.cst (.int 1))) (.cst (.int 0))) b_grid_form_1a) b_grid_form_2)
def b_grid_form : Sms := (.cons (.par [1, 2] (.cons (.tup (.cons (.ix (.var 0) (.cst (.int 0))) (.cons (.ix (.var 0) (.cst (.int 2))) .nil))) (.cons (.tup (.cons (.ix (.var 0) (.cst (.int 1))) (.cons (.ix (.var 0) (.cst (.int 3))) .nil))) .nil))) b_grid_form_1)
def f_grid_form : Fn := fnOf 1 6 b_grid_form
def r_grid_form : List Req := [.non "abs", .fn "in_form" f_in_form]
theorem q_grid_form : rqSs b_grid_form = [0, 1].map fun i => r_grid_form.getD i (.non "") := rfl
def b_grid_ofY_7 : Sms := (.cons (.ret (.call "in_form" f_in_form (.cons (.tup (.cons (.var 8) (.cons (.bin .mod (.var 9) (.var 8)) (.cons (.cst (.int 0)) (.cons (.var 7) .nil))))) .nil))) .nil)
def b_grid_ofY_6a_2 : Sms := (.cons (.set 9 false (.bin .add (.var 9) (.bin .mul (.bin .mod (.var 12) (.var 10)) (.var 11)))) .nil)
def b_grid_ofY_6a_1 : Sms := (.cons (.set 12 false (.bin .mul (.bin .mul (.ix (.var 5) (.cst (.int 0))) (.bin .fdiv (.var 7) (.ix (.var 5) (.cst (.int 1))))) (.call "inverse" f_inverse (.cons (.var 11) (.cons (.var 10) .nil))))) b_grid_ofY_6a_2)
def b_grid_ofY_6a : Sms := (.cons (.set 11 false (.bin .fdiv (.var 8) (.var 10))) b_grid_ofY_6a_1)
def b_grid_ofY_6 : Sms := (.cons (.forr (.tup (.cons (.tup (.cons (.nm 3) (.cons (.tup (.cons (.nm 4) (.cons (.nm 5) .nil))) .nil))) (.cons (.nm 10) .nil))) (.zip (.var 0) (.var 2)) b_grid_ofY_6a) b_grid_ofY_7)
def b_grid_ofY_5a : Sms := (.cons (.par [7, 8] (.cons (.bin .mul (.var 7) (.var 6)) (.cons (.bin .mul (.var 8) (.var 10)) .nil))) .nil)
def b_grid_ofY_5 : Sms := (.cons (.forr (.tup (.cons (.nm 6) (.cons (.nm 10) .nil))) (.zip (.var 1) (.var 2)) b_grid_ofY_5a) b_grid_ofY_6)
def b_grid_ofY_4 : Sms := (.cons (.frz 2) b_grid_ofY_5)
def b_grid_ofY_3 : Sms := (.cons (.setT (.cons (.nm 7) (.cons (.nm 8) (.cons (.nm 9) .nil))) (.tup (.cons (.cst (.int 1)) (.cons (.cst (.int 1)) (.cons (.cst (.int 0)) .nil))))) b_grid_ofY_4)
def b_grid_ofY_2a : Sms := (.cons (.app 2 (.bin .fdiv (.bin .mul (.call "raised" f_raised (.cons (.var 3) (.cons (.blt .max (.cons (.var 4) (.cons (.cst (.int 0)) .nil))) .nil))) (.var 6)) (.call "raised" f_raised (.cons (.var 3) (.cons (.blt .max (.cons (.neg (.var 4)) (.cons (.cst (.int 0)) .nil))) .nil))))) .nil)
def b_grid_ofY_2 : Sms := (.cons (.forr (.tup (.cons (.tup (.cons (.nm 3) (.cons (.tup (.cons (.nm 4) (.cons (.nm 5) .nil))) .nil))) (.cons (.nm 6) .nil))) (.zip (.var 0) (.var 1)) b_grid_ofY_2a) b_grid_ofY_3)
def b_grid_ofY_1 : Sms := (.cons (.set 2 true (.lst .nil)) b_grid_ofY_2)
def b_grid_ofY : Sms := (.cons (.set 1 false (.comp (.call "raised" f_raised (.cons (.var 3) (.cons (.blt .max (.cons (.neg (.var 4)) (.cons (.ix (.call "split_off" f_split_off (.cons (.var 3) (.cons (.ix (.var 5) (.cst (.int 1))) .nil))) (.cst (.int 0))) (.cons (.cst (.int 0)) .nil)))) .nil))) [("p", 3), ("n", 4), ("q", 5)] (.tup (.cons (.nm 3) (.cons (.tup (.cons (.nm 4) (.cons (.nm 5) .nil))) .nil))) (.seq (.var 0)) .non)) b_grid_ofY_1)
def f_grid_ofY : Fn := fnOf 1 13 b_grid_ofY
def r_grid_ofY : List Req := [.fn "raised" f_raised, .non "max", .fn "split_off" f_split_off, .non "zip", .fn "inverse" f_inverse, .fn "in_form" f_in_form]
theorem q_grid_ofY : rqSs b_grid_ofY = [0, 1, 2, 3, 0, 1, 0, 1, 3, 3, 4, 5].map fun i => r_grid_ofY.getD i (.non "") := rfl
section
variable {p m n k : Int}
/-! prime factors; numbers of primes to 97 -/
theorem pr_least (n : Nat) (h : n ≠ 1) : ∃ d : Nat, 2 ≤ d ∧ d ∣ n ∧ ∀ e : Nat, 2 ≤ e → e ∣ n → d ≤ e := by
  have ex : ∃ d : Nat, 2 ≤ d ∧ d ∣ n := by
    by_cases z : n = 0
    · exact ⟨2, by decide, z ▸ Nat.dvd_zero 2⟩
    · exact ⟨n, by omega, Nat.dvd_refl n⟩
  obtain ⟨d, hd⟩ := ex
  induction d using Nat.strongRecOn with
  | _ d ih =>
    by_cases q : ∃ e : Nat, e < d ∧ 2 ≤ e ∧ e ∣ n
    · obtain ⟨e, e1, e2⟩ := q
      exact ih e e1 e2
    · exact ⟨d, hd.1, hd.2, fun e e1 e2 => by
        refine Classical.byContradiction fun z => q ⟨e, by omega, e1, e2⟩⟩
theorem pr_ex (h : n.natAbs ≠ 1) : ∃ r, Pr r ∧ r ∣ n := by
  obtain ⟨d, h1, h2, h3⟩ := pr_least _ h
  refine ⟨d, Pr.of h1 fun e he => ?_, Int.ofNat_dvd_left.mpr h2⟩
  by_cases e1 : e = 1
  · exact .inl e1
  · have e0 : e ≠ 0 := fun z => by
      rw [z] at he
      have := Nat.eq_zero_of_zero_dvd he
      omega
    have a := h3 e (by omega) (Nat.dvd_trans he h2)
    have b := Nat.le_of_dvd (by omega) he
    exact .inr (by omega)
def Sm (n : Int) : Prop := n ≠ 0 ∧ ∀ r, Pr r → r ∣ n → r ≤ 97
theorem Sm.pp (h : Sm n) (hr : Pr p) (d : p ∣ n) : PP p := ⟨hr, h.2 p hr d⟩
theorem Sm.mul (h : Sm m) (q : Sm n) : Sm (m * n) := ⟨Int.mul_ne_zero h.1 q.1, fun r hr d => (hr.dv _ _ d).elim (h.2 r hr) (q.2 r hr)⟩
theorem Sm.dvd (h : Sm n) (d : m ∣ n) : Sm m := ⟨fun z => h.1 (Int.zero_dvd.mp (z ▸ d)), fun r hr q => h.2 r hr (Int.dvd_trans q d)⟩
theorem Sm.small (h0 : n ≠ 0) (h : n.natAbs ≤ 97) : Sm n := ⟨h0, fun r hr d => by
  have := Nat.le_of_dvd (by omega) (Int.natAbs_dvd_natAbs.mpr d)
  omega⟩
theorem Sm.pp1 (hp : PP p) : Sm p := ⟨by have := hp.two; omega, fun r hr d => by
  have a := hp.two
  have b := hp.le
  have := Nat.le_of_dvd (by omega) (Int.natAbs_dvd_natAbs.mpr d)
  omega⟩
theorem Sm.one : Sm 1 := .small (by decide) (by decide)
theorem Sm.pow (h : Sm n) : ∀ i : Nat, Sm (n ^ i)
  | 0 => by rw [Int.pow_zero]; exact .one
  | i + 1 => by rw [Int.pow_succ]; exact (Sm.pow h i).mul h
theorem Sm.neg (h : Sm n) : Sm (-n) := h.dvd ⟨-1, by omega⟩
/-! tables of size 1 or -1 -/
def Un (m : M4) : Prop := det4 m = 1 ∨ det4 m = -1
theorem whB_iff {m : M4} : whB m = true ↔ Un m := by
  unfold whB Un
  exact decide_eq_true_iff
instance {m : M4} : Decidable (Un m) := by unfold Un; infer_instance
theorem whB_un {m : M4} : whB m = decide (Un m) := by
  unfold whB Un
  rfl
variable {x y z u v w t g : M4}
theorem dvd_gcd4 {k : Nat} (h1 : (k : Int) ∣ x.a) (h2 : (k : Int) ∣ x.b) (h3 : (k : Int) ∣ x.c) (h4 : (k : Int) ∣ x.d) : k ∣ gcd4 x := by
  unfold gcd4
  exact Nat.dvd_gcd (Int.dvd_gcd h1 h2) (Int.dvd_gcd h3 h4)
theorem gcd4_mul : gcd4 x ∣ gcd4 (mulM x y) := by
  obtain ⟨h1, h2, h3, h4⟩ := gcd4_dvd x
  exact dvd_gcd4 (Int.dvd_add (Int.dvd_mul_of_dvd_left h1) (Int.dvd_mul_of_dvd_left h2)) (Int.dvd_add (Int.dvd_mul_of_dvd_left h1) (Int.dvd_mul_of_dvd_left h2))
    (Int.dvd_add (Int.dvd_mul_of_dvd_left h3) (Int.dvd_mul_of_dvd_left h4)) (Int.dvd_add (Int.dvd_mul_of_dvd_left h3) (Int.dvd_mul_of_dvd_left h4))
theorem Un.gcd (hu : Un u) : gcd4 (mulM x u) = gcd4 x := by
  refine Nat.dvd_antisymm ?_ gcd4_mul
  have a := gcd4_mul (x := mulM x u) (y := adj u)
  rw [mul_assoc4, mul_adj, mul_scl_r, mul_one4, gcd4_scl] at a
  have : (det4 u).natAbs = 1 := by
    rcases hu with q | q <;> rw [q] <;> rfl
  rwa [this, Nat.one_mul] at a
theorem nm_pm (h : gcd4 x = 1) (d : det4 x ≠ 0) : ∃ e : Int, (e = 1 ∨ e = -1) ∧ nm x = scl e x := by
  have n0 := det_non0 d
  have e := nm_mul n0
  have s : sc4 x = 1 ∨ sc4 x = -1 := by
    unfold sc4
    rw [h]
    have f0 := fst4_ne n0
    unfold sgn1
    split <;> simp
  rcases s with q | q
  · rw [q] at e
    exact ⟨1, .inl rfl, by rw [one_scl]; rw [one_scl] at e; exact e⟩
  · rw [q] at e
    exact ⟨-1, .inr rfl, by conv => rhs; rw [← e, scl_scl, show (-1 : Int) * -1 = 1 by decide, one_scl]⟩
theorem det_sq (hx : det4 x ≠ 0) : ∃ s : Int, s ≠ 0 ∧ x = scl s (nm x) ∧ det4 x = s * s * det4 (nm x) := by
  have e := nm_mul (det_non0 hx)
  exact ⟨sc4 x, sc4_ne (det_non0 hx), e.symm, by rw [← det_scl, e]⟩
theorem nm_dvd (hx : det4 x ≠ 0) : det4 (nm x) ∣ det4 x := by
  obtain ⟨s, _, _, e⟩ := det_sq hx
  exact ⟨s * s, by rw [e]; ac_rfl⟩
theorem un_of {a : Int} (h : a.natAbs = 1) : a = 1 ∨ a = -1 := by omega
theorem un_dvd {a b : Int} (h : b = 1 ∨ b = -1) (d : a ∣ b) : a = 1 ∨ a = -1 := by
  have : a.natAbs ∣ b.natAbs := Int.natAbs_dvd_natAbs.mpr d
  have e : b.natAbs = 1 := by omega
  rw [e] at this
  exact un_of (Nat.dvd_one.mp this)
theorem Un.d (h : Un x) : det4 x ≠ 0 := by
  rcases h with q | q <;> rw [q] <;> decide
theorem Un.nm (h : Un x) : Un (nm x) := un_dvd h (nm_dvd h.d)
theorem un_mul {a b : Int} (h : a = 1 ∨ a = -1) (q : b = 1 ∨ b = -1) : a * b = 1 ∨ a * b = -1 := by
  rcases h with rfl | rfl <;> rcases q with rfl | rfl <;> decide
theorem Un.aft (h : Un x) (q : Un y) : Un (aft x y) := by
  have : Un (mulM x y) := by
    unfold Un
    rw [det_mul]
    exact un_mul h q
  exact this.nm
theorem Un.bk (h : Un x) : Un (bk x) := by
  have : Un (adj x) := by
    unfold Un
    rw [det_adj]
    exact h
  exact this.nm
theorem Un.one : Un one4 := .inl rfl
/-- two moves tell one grid -/
def sg (t u : M4) : Prop := Un (aft (bk t) u)
theorem sg.refl (h : Mv t) : sg t t := by
  unfold sg
  rw [bk_aft h.d]
  exact .one
theorem sg.symm (ht : Mv t) (hu : Mv u) (h : sg t u) : sg u t := by
  have := Un.bk h
  rw [bk_of_aft ht.bk.d hu.d, bk_bk ht.f ht.d] at this
  exact this
theorem sg.trans (ht : Mv t) (hu : Mv u) (hv : Mv v) (h : sg t u) (q : sg u v) : sg t v := by
  have := Un.aft h q
  have e := bk_cancel hu hv
  rw [aft_assoc ht.bk.d hu.d (hu.bk.aft hv).d] at this
  unfold sg
  rw [← aft_assoc hu.d hu.bk.d hv.d, aft_bk hu.d, one_aft hv.f hv.d] at this
  exact this
theorem sg.behind (ht : Mv t) (hw : Mv w) (h : Un w) : sg t (aft t w) := by
  unfold sg
  rw [← aft_assoc ht.bk.d ht.d hw.d, bk_aft ht.d, one_aft hw.f hw.d]
  exact h
/-- the one is the other behind a table of size 1 or -1, but for its sign -/
theorem sg.out (ht : Mv t) (hu : Mv u) (h : sg t u) : ∃ e : Int, (e = 1 ∨ e = -1) ∧ u = scl e (mulM t (aft (bk t) u)) := by
  have a : u = MK.aft t (MK.aft (MK.bk t) u) := by rw [← aft_assoc ht.d ht.bk.d hu.d, aft_bk ht.d, one_aft hu.f hu.d]
  have d := det_mul_ne ht.d (ht.bk.aft hu).d
  obtain ⟨e, h1, h2⟩ := nm_pm (x := mulM t (MK.aft (MK.bk t) u)) (by rw [Un.gcd h]; exact ht.f.1) d
  exact ⟨e, h1, by
    conv => lhs; rw [a]
    exact h2⟩
theorem sg.det (ht : Mv t) (hu : Mv u) (h : sg t u) : (det4 u).natAbs = (det4 t).natAbs := by
  obtain ⟨e, h1, h2⟩ := h.out ht hu
  rw [h2, det_scl, det_mul, Int.natAbs_mul, Int.natAbs_mul, Int.natAbs_mul]
  have a : e.natAbs = 1 := by omega
  have b : (det4 (MK.aft (MK.bk t) u)).natAbs = 1 := by
    rcases h with q | q <;> rw [q] <;> rfl
  rw [a, b]
  omega
/-- the one form of a grid -/
structure HF (g : M4) : Prop where
  c : g.c = 0
  b0 : 0 ≤ g.b
  b1 : g.b < g.a
  d : 1 ≤ g.d
  f : NFM g
theorem HF.det (h : HF g) : det4 g = g.a * g.d := by
  unfold det4
  rw [h.c]
  omega
theorem HF.mv (h : HF g) : Mv g := ⟨by
  rw [h.det]
  have := h.b0
  have := h.b1
  have := h.d
  exact Int.mul_ne_zero (by omega) (by omega), h.f⟩
theorem HF.uniq (hx : HF x) (hy : HF y) (h : sg x y) : x = y := by
  obtain ⟨e, h1, h2⟩ := h.out hx.mv hy.mv
  have u := h
  unfold sg at u
  generalize aft (bk x) y = v at h2 u
  have xa : 0 < x.a := by have := hx.b0; have := hx.b1; omega
  have ya : 0 < y.a := by have := hy.b0; have := hy.b1; omega
  have xd := hx.d
  have yd := hy.d
  have ea := congrArg M4.a h2
  have eb := congrArg M4.b h2
  have ec := congrArg M4.c h2
  have ed := congrArg M4.d h2
  simp only [scl, mulM, hx.c, hy.c, Int.zero_mul, Int.zero_add] at ea eb ec ed
  have e0 : e ≠ 0 := by omega
  have vc : v.c = 0 := by
    rcases Int.mul_eq_zero.mp ec.symm with q | q
    · exact absurd q e0
    · rcases Int.mul_eq_zero.mp q with q | q
      · omega
      · exact q
  have vad : v.a * v.d = 1 ∨ v.a * v.d = -1 := by
    have := u
    unfold Un det4 at this
    rwa [vc, Int.mul_zero, Int.sub_zero] at this
  have va : v.a = 1 ∨ v.a = -1 := un_dvd vad ⟨v.d, rfl⟩
  have vd : v.d = 1 ∨ v.d = -1 := un_dvd vad ⟨v.a, by ac_rfl⟩
  have a1 : x.a = y.a := by
    rw [vc, Int.mul_zero, Int.add_zero] at ea
    rcases h1 with rfl | rfl <;> rcases va with q | q <;> rw [q] at ea <;> omega
  have d1 : x.d = y.d ∧ e * v.d = 1 := by
    rcases h1 with rfl | rfl <;> rcases vd with q | q <;> rw [q] at ed ⊢ <;> omega
  have b1 : x.b = y.b := by
    have k : y.b = x.a * (e * v.b) + x.b * (e * v.d) := by rw [eb]; grind
    rw [d1.2, Int.mul_one] at k
    have q1 := hx.b0
    have q2 := hx.b1
    have q3 := hy.b0
    have q4 := hy.b1
    generalize e * v.b = j at k
    have j0 : j = 0 := by
      rcases Int.lt_trichotomy j 0 with q | q | q
      · have := Int.mul_le_mul_of_nonneg_left (show j ≤ -1 by omega) (show 0 ≤ x.a by omega)
        omega
      · exact q
      · have := Int.mul_le_mul_of_nonneg_left (show 1 ≤ j by omega) (show 0 ≤ x.a by omega)
        omega
    rw [j0] at k
    omega
  exact M4.ext a1 b1 (by rw [hx.c, hy.c]) d1.1
end
section
variable {p m n k : Int} {x y z u v w t g : M4} {st : Store}
open Classical in
noncomputable def gf (t : M4) : M4 := if h : ∃ g, HF g ∧ sg t g then Classical.choose h else one4
theorem gf_spec (h : ∃ g, HF g ∧ sg t g) : HF (gf t) ∧ sg t (gf t) := by
  unfold gf
  rw [dif_pos h]
  exact Classical.choose_spec h
theorem gf_is (ht : Mv t) (h : HF g) (q : sg t g) : gf t = g := by
  obtain ⟨a, b⟩ := gf_spec ⟨g, h, q⟩
  exact a.uniq h ((b.symm ht a.mv).trans a.mv ht h.mv q)
theorem sg_mul (ht : Mv t) (hw : Un w) (h : NFM (mulM t w)) : sg t (mulM t w) := by
  have d := det_mul_ne ht.d hw.d
  unfold sg aft bk
  rw [nm_l (det_adj_ne ht.d) d, ← mul_assoc4, adj_mulM, mul_scl_l, one_mul4, nm_scl ht.d hw.d]
  exact hw.nm
/-- what the loop of grid_form keeps -/
structure GI (t : M4) (k C : Nat) (a0 b0 a1 b1 : Int) : Prop where
  un : ∃ U : M4, Un U ∧ (⟨a0, b0, a1, b1⟩ : M4) = mulM t U
  bd : b0.natAbs * max a1.natAbs b1.natAbs + b1.natAbs * (det4 t).natAbs ≤ C
  a0 : a0.natAbs ≤ C
  a1 : a1.natAbs < 2 ^ k
  b1 : b1.natAbs < 2 ^ k
theorem GI.det {k C : Nat} {a0 b0 a1 b1 : Int} (h : GI t k C a0 b0 a1 b1) : (a0 * b1 - b0 * a1).natAbs = (det4 t).natAbs := by
  obtain ⟨U, hu, e⟩ := h.un
  have : a0 * b1 - b0 * a1 = det4 (⟨a0, b0, a1, b1⟩ : M4) := rfl
  rw [this, e, det_mul, Int.natAbs_mul]
  have : (det4 U).natAbs = 1 := by rcases hu with q | q <;> rw [q] <;> rfl
  rw [this, Nat.mul_one]
theorem fm_lt (a : Int) {b : Int} (hb : b ≠ 0) : (a.fmod b).natAbs < b.natAbs := by
  rcases Int.lt_or_gt_of_ne hb with q | q
  · have h1 := Int.fmod_nonneg_of_pos (-a) (show 0 < -b by omega)
    have h2 := Int.fmod_lt_of_pos (-a) (show 0 < -b by omega)
    rw [Int.neg_fmod_neg] at h1 h2
    omega
  · have h1 := Int.fmod_nonneg_of_pos a q
    have h2 := Int.fmod_lt_of_pos a q
    omega
theorem GI.step {k C : Nat} {a0 b0 a1 b1 : Int} (h : GI t k C a0 b0 a1 b1) (hb : b1 ≠ 0) : GI t k C b0 (a0 - a1.fdiv b1 * b0) b1 (a1 - a1.fdiv b1 * b1) ∧ (a1 - a1.fdiv b1 * b1).natAbs < b1.natAbs ∧ (a1.fdiv b1 * b0).natAbs ≤ C + C ∧ b0.natAbs ≤ C := by
  have er : a1 - a1.fdiv b1 * b1 = a1.fmod b1 := by
    have := Int.fmod_add_mul_fdiv a1 b1
    have e : b1 * a1.fdiv b1 = a1.fdiv b1 * b1 := Int.mul_comm _ _
    omega
  have rl := fm_lt a1 hb
  rw [← er] at rl
  have d := h.det
  have bd := h.bd
  have m1 : b0.natAbs * b1.natAbs ≤ b0.natAbs * max a1.natAbs b1.natAbs := Nat.mul_le_mul_left _ (Nat.le_max_right ..)
  have b0C : b0.natAbs ≤ C := by
    have : b0.natAbs * 1 ≤ b0.natAbs * b1.natAbs := Nat.mul_le_mul_left _ (by omega)
    omega
  generalize hq : a1.fdiv b1 = q at *
  generalize hr : a1 - q * b1 = r at *
  have e2 : (a0 - q * b0) * b1 = (a0 * b1 - b0 * a1) + r * b0 := by rw [← hr]; grind
  have e3 : (a0 - q * b0).natAbs * b1.natAbs ≤ (det4 t).natAbs + r.natAbs * b0.natAbs := by
    rw [← Int.natAbs_mul, e2, ← d, ← Int.natAbs_mul]
    exact Int.natAbs_add_le _ _
  have e4 : (a0 - q * b0).natAbs ≤ C := by
    have : (a0 - q * b0).natAbs * 1 ≤ (a0 - q * b0).natAbs * b1.natAbs := Nat.mul_le_mul_left _ (by omega)
    have a : r.natAbs * b0.natAbs ≤ b0.natAbs * b1.natAbs := by rw [Nat.mul_comm]; exact Nat.mul_le_mul_left _ (by omega)
    have b : 1 * (det4 t).natAbs ≤ b1.natAbs * (det4 t).natAbs := Nat.mul_le_mul_right _ (by omega)
    omega
  refine ⟨⟨?_, ?_, b0C, h.b1, ?_⟩, rl, ?_, b0C⟩
  · obtain ⟨U, hu, e⟩ := h.un
    refine ⟨mulM U ⟨0, 1, 1, -q⟩, ?_, ?_⟩
    · have : det4 (mulM U ⟨0, 1, 1, -q⟩) = det4 U * -1 := by
        rw [det_mul]
        congr 1
        simp [det4]
      unfold Un
      rw [this]
      rcases hu with z | z <;> rw [z] <;> decide
    · rw [← mul_assoc4, ← e]
      simp only [mulM]
      refine M4.ext ?_ ?_ ?_ ?_ <;> simp <;> grind
  · have mx : max b1.natAbs r.natAbs = b1.natAbs := by omega
    rw [mx]
    have a : r.natAbs * b0.natAbs ≤ b0.natAbs * b1.natAbs := by rw [Nat.mul_comm]; exact Nat.mul_le_mul_left _ (by omega)
    have b : (r.natAbs + 1) * (det4 t).natAbs ≤ b1.natAbs * (det4 t).natAbs := Nat.mul_le_mul_right _ (by omega)
    rw [Nat.add_mul, Nat.one_mul] at b
    omega
  · have := h.b1
    omega
  · have : q * b0 = a0 - (a0 - q * b0) := by omega
    rw [this]
    have := h.a0
    omega
theorem HF.gm {k : Nat} (h : HF g) (ht : GM k t) (q : (det4 g).natAbs = (det4 t).natAbs) : GM (2 * k + 1) g := by
  have d : Bd (k + k + 1) (det4 t) := det_bd ht.b
  have e := h.det
  have b0 := h.b0
  have b1 := h.b1
  have d1 := h.d
  have n : g.a.natAbs * g.d.natAbs < 2 ^ (k + k + 1) := by
    rw [← Int.natAbs_mul, ← e, q]
    exact d
  have a1 : g.a.natAbs * 1 ≤ g.a.natAbs * g.d.natAbs := Nat.mul_le_mul_left _ (by omega)
  have a2 : 1 * g.d.natAbs ≤ g.a.natAbs * g.d.natAbs := Nat.mul_le_mul_right _ (by omega)
  have ek : k + k + 1 = 2 * k + 1 := by omega
  rw [ek] at n
  refine ⟨⟨?_, ?_, ?_, ?_⟩, h.mv.d, h.f⟩
  · unfold Bd; omega
  · unfold Bd; omega
  · rw [h.c]; exact Bd.zero _
  · unfold Bd; omega
theorem grid_form_run {k : Nat} (ht : GM k t) (hk : k ≤ 60) (st : Store) : ∃ g, HF g ∧ sg t g ∧ f_grid_form [.dat (eM t)] st = .ok ⟨false, .dat (eM g)⟩ st := by
  have mt : Mv t := ⟨ht.d, ht.f⟩
  have hC : ∃ C, C < 2 ^ (3 * k + 2) ∧ t.b.natAbs * max t.c.natAbs t.d.natAbs + t.d.natAbs * (det4 t).natAbs ≤ C ∧ t.a.natAbs ≤ C := by
    have h1 := ht.b.1
    have h2 := ht.b.2.1
    have h3 := ht.b.2.2.1
    have h4 := ht.b.2.2.2
    have d : Bd (k + k + 1) (det4 t) := det_bd ht.b
    unfold Bd at *
    refine ⟨t.b.natAbs * max t.c.natAbs t.d.natAbs + t.d.natAbs * (det4 t).natAbs + t.a.natAbs, ?_, by omega, by omega⟩
    have a : t.b.natAbs * max t.c.natAbs t.d.natAbs ≤ 2 ^ k * 2 ^ k := Nat.mul_le_mul (by omega) (by omega)
    have b : (t.d.natAbs + 1) * ((det4 t).natAbs + 1) ≤ 2 ^ k * 2 ^ (k + k + 1) := Nat.mul_le_mul (by omega) (by omega)
    rw [← Nat.pow_add] at a b
    have e1 : 2 ^ (k + k) ≤ 2 ^ (k + (k + k + 1)) := Nat.pow_le_pow_right (by decide) (by omega)
    have e2 : 2 ^ k ≤ 2 ^ (k + (k + k + 1)) := Nat.pow_le_pow_right (by decide) (by omega)
    have e3 : 2 ^ (3 * k + 2) = 2 ^ (k + (k + k + 1)) + 2 ^ (k + (k + k + 1)) := by
      rw [show 3 * k + 2 = (k + (k + k + 1)) + 1 by omega, Nat.pow_succ]
      omega
    rw [Nat.add_mul, Nat.mul_add] at b
    have e4 : 2 ^ (k + k) + 2 ^ k ≤ 2 ^ (k + (k + k + 1)) := by
      have : 2 ^ k ≤ 2 ^ (k + k) := Nat.pow_le_pow_right (by decide) (by omega)
      have : 2 ^ (k + k + 1) ≤ 2 ^ (k + (k + k + 1)) := Nat.pow_le_pow_right (by decide) (by omega)
      rw [Nat.pow_succ] at this
      omega
    omega
  obtain ⟨C, hC, c1, c2⟩ := hC
  have w : Wp (f_grid_form [.dat (eM t)] st) fun x st' => st' = st ∧ ∃ g, HF g ∧ sg t g ∧ x = ⟨false, .dat (eM g)⟩ := by
    refine wp_fn rfl ?_
    simp! [b_grid_form, b_grid_form_1, ← eP_mk]
    refine wps_while (fun j env st' => st' = st ∧ ∃ (a0 b0 a1 b1 : Int) (s3 s4 s5 : Slot), env = [.val (.dat (eM t)), .val (.dat (eP (a0, a1))), .val (.dat (eP (b0, b1))), s3, s4, s5] ∧ GI t k C a0 b0 a1 b1 ∧ j = b1.natAbs) ?_ WF t.d.natAbs _ _ ?_ ⟨rfl, t.a, t.b, t.c, t.d, _, _, _, rfl, ⟨⟨one4, .one, (mul_one4 t).symm⟩, c1, c2, ht.b.2.2.1, ht.b.2.2.2⟩, rfl⟩
    · rintro j env st' ⟨rfl, a0, b0, a1, b1, s3, s4, s5, rfl, I, rfl⟩
      simp!
      refine ⟨fun hc => ?_, fun hc => ?_⟩
      · have hb : b1 ≠ 0 := by simpa using hc
        obtain ⟨J, rl, qb, b0C⟩ := I.step hb
        have dv : bin .fdiv (.int a1) (.int b1) = some (false, .int (a1.fdiv b1)) := bin_fdiv (k := k) I.b1 hb (by omega)
        have bq : Bd (k + 1) (a1.fdiv b1) := by
          have := Int.natAbs_fdiv_le_natAbs a1 b1
          have := I.a1
          unfold Bd
          rw [Nat.pow_succ]
          omega
        have bb : Bd (3 * k + 2) b0 := by unfold Bd; omega
        have b1' : Bd k b1 := I.b1
        simp! [b_grid_form_1a, dv, b_grid_form_1a_1, bin_mul bq bb (by omega), bin_mul bq b1' (by omega), ← eP_mk]
        exact ⟨_, rl, by trivial, _, _, _, _, _, _, _, rfl, J, rfl⟩
      · have hb : b1 = 0 := by simpa using hc
        subst hb
        have d := I.det
        have d0 : (det4 t).natAbs ≠ 0 := by have := ht.d; omega
        rw [Int.mul_zero, Int.zero_sub, Int.natAbs_neg, Int.natAbs_mul] at d
        have hb0 : b0 ≠ 0 := fun z => d0 (by rw [← d, z]; simp)
        have ha1 : a1 ≠ 0 := fun z => d0 (by rw [← d, z]; simp)
        have ba : Bd (3 * k + 2) a0 := by have := I.a0; unfold Bd; omega
        have bd1' : Bd k a1 := I.a1
        have bdb : Bd (3 * k + 2) b0 := by
          have h1 := I.bd
          have h2 : b0.natAbs * 1 ≤ b0.natAbs * max a1.natAbs (0 : Int).natAbs := Nat.mul_le_mul_left _ (by omega)
          unfold Bd
          omega
        obtain ⟨U, hu, e⟩ := I.un
        -- the end, by the sign
        have fin : ∀ s c : Int, (s = 1 ∨ s = -1) → (c = 1 ∨ c = -1) → 0 < s * a1 → 0 < c * b0 → ∀ st, ∃ g, HF g ∧ sg t g ∧ f_in_form [.dat (.tuple [.int (c * b0), .int ((s * a0).fmod (c * b0)), .int 0, .int (s * a1)])] st = .ok ⟨false, .dat (eM g)⟩ st := fun s c hs hc p1 p2 st => by
          have n0 : 0 ≤ (s * a0).fmod (c * b0) := Int.fmod_nonneg_of_pos _ p2
          have n1 : (s * a0).fmod (c * b0) < c * b0 := Int.fmod_lt_of_pos _ p2
          have W : Un (⟨0, s, c, -((s * a0).fdiv (c * b0) * c)⟩ : M4) := by
            unfold Un det4
            rcases hs with rfl | rfl <;> rcases hc with rfl | rfl <;> simp
          have W2 : Un (mulM U ⟨0, s, c, -((s * a0).fdiv (c * b0) * c)⟩) := by
            unfold Un
            rw [det_mul]
            exact un_mul hu W
          have eg : (⟨c * b0, (s * a0).fmod (c * b0), 0, s * a1⟩ : M4) = mulM t (mulM U ⟨0, s, c, -((s * a0).fdiv (c * b0) * c)⟩) := by
            rw [← mul_assoc4, ← e]
            have em := Int.fmod_add_mul_fdiv (s * a0) (c * b0)
            generalize (s * a0).fdiv (c * b0) = f at *
            generalize (s * a0).fmod (c * b0) = r at *
            refine M4.ext ?_ ?_ ?_ ?_ <;> simp only [mulM] <;> grind
          have nf : NFM (⟨c * b0, (s * a0).fmod (c * b0), 0, s * a1⟩ : M4) := by
            refine ⟨?_, ?_⟩
            · rw [eg, Un.gcd W2]
              exact mt.f.1
            · unfold fst4
              rw [if_pos (by show c * b0 ≠ 0; omega)]
              exact p2
          have hg : HF (⟨c * b0, (s * a0).fmod (c * b0), 0, s * a1⟩ : M4) := ⟨rfl, n0, n1, by show 1 ≤ s * a1; omega, nf⟩
          refine ⟨_, hg, ?_, ?_⟩
          · rw [eg] at nf ⊢
            exact sg_mul mt W2 nf
          · have bc : Bd (3 * k + 2) (c * b0) := by
              have : (c * b0).natAbs = b0.natAbs := by
                rw [Int.natAbs_mul]
                rcases hc with rfl | rfl <;> simp
              unfold Bd at *
              omega
            have bs : Bd (3 * k + 2) (s * a1) := by
              have : (s * a1).natAbs = a1.natAbs := by
                rw [Int.natAbs_mul]
                rcases hs with rfl | rfl <;> simp
              have h2 : 2 ^ k ≤ 2 ^ (3 * k + 2) := Nat.pow_le_pow_right (by decide) (by omega)
              unfold Bd at *
              omega
            have := in_form_ok (k := 3 * k + 2) (⟨c * b0, (s * a0).fmod (c * b0), 0, s * a1⟩ : M4) st ⟨bc, by unfold Bd at *; show ((s * a0).fmod (c * b0)).natAbs < _; omega, Bd.zero _, bs⟩ (det_non0 hg.mv.d) (by omega)
            rw [nm_self nf hg.mv.d] at this
            exact this
        have ab : ∃ c : Int, (c = 1 ∨ c = -1) ∧ 0 < c * b0 ∧ (b0.natAbs : Int) = c * b0 := by
          by_cases q : 0 < b0
          · exact ⟨1, .inl rfl, by omega, by omega⟩
          · exact ⟨-1, .inr rfl, by omega, by omega⟩
        obtain ⟨c, hc', c0, ce⟩ := ab
        by_cases q : 0 < a1
        · obtain ⟨g, g1, g2, g3⟩ := fin 1 c (.inl rfl) hc' (by omega) c0 st'
          simp! [b_grid_form_2, decide_eq_true q, b_grid_form_3, ce, bin_mul (show Bd 1 (1 : Int) by unfold Bd; decide) ba (by omega), bin_mul (show Bd 1 (1 : Int) by unfold Bd; decide) bd1' (by omega), bin_mod (show c * b0 ≠ 0 by omega), g3]
          exact ⟨by trivial, g, g1, g2, rfl⟩
        · obtain ⟨g, g1, g2, g3⟩ := fin (-1) c (.inr rfl) hc' (by omega) c0 st'
          simp! [b_grid_form_2, decide_eq_false q, b_grid_form_3, ce, bin_mul (show Bd 1 (-1 : Int) by unfold Bd; decide) ba (by omega), bin_mul (show Bd 1 (-1 : Int) by unfold Bd; decide) bd1' (by omega), bin_mod (show c * b0 ≠ 0 by omega), g3]
          exact ⟨by trivial, g, g1, g2, rfl⟩
    · have := ht.b.2.2.2
      unfold Bd at this
      have h2 : 2 ^ k ≤ 2 ^ 60 := Nat.pow_le_pow_right (by decide) hk
      unfold WF
      omega
  obtain ⟨x, st', e, rfl, g, h1, h2, rfl⟩ := w.ex
  exact ⟨g, h1, h2, e⟩
end
end
section
section
variable {p r m n k : Int} {x y z u v w t g : M4} {st : Store} {N : Nat} {a b : Bl}
/-! what the balls of a grid tell of it -/
theorem b00_is (hp : PP p) : IsB p 0 b00 := isb0 hp (by decide) (by decide)
theorem vl_un (hp : 2 ≤ p) (h : n = 1 ∨ n = -1) : vl p n = 0 := by
  have : vl p 1 = 0 := vl_one' hp
  rcases h with rfl | rfl
  · exact this
  · rw [vl_neg hp (by decide), this]
theorem Un.keep (hp : PP p) (hw : Mv w) (h : Un w) : ledB p w b00 = b00 := by
  obtain ⟨N, i⟩ := ledB_is (u := b00) hp nf01 hw.d
  have s := stp_b00 hp hw
  rw [vl_un hp.two h] at s
  exact ((stp_zero hp (b00_is hp) i).mp s).symm
theorem sg.led (hp : PP p) (hx : Mv x) (hy : Mv y) (h : sg x y) : ledB p x b00 = ledB p y b00 := by
  have e : y = MK.aft x (MK.aft (MK.bk x) y) := by rw [← aft_assoc hx.d hx.bk.d hy.d, aft_bk hx.d, one_aft hy.f hy.d]
  conv => rhs; rw [e, ledB_aft hp (b00_is hp) hx.d (hx.bk.aft hy).d, Un.keep hp (hx.bk.aft hy) h]
theorem tb_dvd (hx : Mv x) (hy : Mv y) : det4 (aft (bk x) y) ∣ det4 x * det4 y := by
  have e : aft (bk x) y = nm (mulM (adj x) y) := nm_l (det_adj_ne hx.d) hy.d
  rw [e]
  have := nm_dvd (det_mul_ne (det_adj_ne hx.d) hy.d)
  rwa [det_mul, det_adj] at this
theorem loc_un (hx : Mv x) (hy : Mv y) (sx : Sm (det4 x)) (sy : Sm (det4 y)) (h : ∀ p, PP p → p ∣ det4 x * det4 y → ledB p x b00 = ledB p y b00) : sg x y := by
  refine Classical.byContradiction fun nu => ?_
  have V := hx.bk.aft hy
  obtain ⟨r, hr, hd⟩ := pr_ex (n := det4 (aft (bk x) y)) fun q => nu (un_of q)
  have dd := Int.dvd_trans hd (tb_dvd hx hy)
  have hp : PP r := (sx.mul sy).pp hr dd
  have l : ledB r (aft (bk x) y) b00 = b00 := by rw [ledB_aft hp (b00_is hp) hx.bk.d hy.d, ← h r hp dd, ledB_bk hp (b00_is hp) hx.d]
  have s := stp_b00 hp V
  rw [l, stp_self hp nf01] at s
  have : 1 ≤ vl r (det4 (aft (bk x) y)) := (vl_le hp.two V.d).mp (by rwa [Int.pow_succ, Int.pow_zero, Int.one_mul])
  omega
/-! the exponents of a ball's grid -/
def lev (p : Int) (u : Bl) : Nat := (-(top p b00 u)).toNat
def hev (p : Int) (u : Bl) : Nat := (u.1 - top p b00 u).toNat
theorem lev_e (hp : PP p) (hu : NF a.2) : (lev p a : Int) = -(top p b00 a) := by
  have : top p b00 a ≤ (b00).1 := top_l hp nf01 hu
  have e : (b00).1 = 0 := rfl
  unfold lev
  omega
theorem hev_e (hp : PP p) (hu : NF a.2) : (hev p a : Int) = a.1 + lev p a := by
  have : top p b00 a ≤ a.1 := top_r hp nf01 hu
  rw [lev_e hp hu]
  unfold hev
  omega
theorem lev_stp (hp : PP p) (hu : NF a.2) : (lev p a + hev p a : Int) = stp p b00 a := by
  have e : (b00).1 = 0 := rfl
  rw [hev_e hp hu, lev_e hp hu]
  unfold stp
  omega
theorem nf_vl (hp : PP p) {q : Fr} (hq : NF q) : vl p q.2 = 0 ∨ ¬ p ∣ q.1 := by
  by_cases h : p ∣ q.2
  · right
    intro d
    have : p.natAbs ∣ Int.gcd q.1 q.2 := Nat.dvd_gcd (Int.natAbs_dvd_natAbs.mpr d) (Int.natAbs_dvd_natAbs.mpr h)
    have g1 : Int.gcd q.1 q.2 = 1 := hq.2
    rw [g1] at this
    have := Nat.dvd_one.mp this
    have := hp.two
    omega
  · left
    have h2 : q.2 ≠ 0 := hq.ne
    refine Classical.byContradiction fun c => h ?_
    have := (vl_le hp.two h2 (k := 1)).mpr (by omega)
    rwa [Int.pow_succ, Int.pow_zero, Int.one_mul] at this
theorem vl_zero (hp : 2 ≤ p) (h0 : n ≠ 0) : vl p n = 0 ↔ ¬ p ∣ n := by
  have := vl_le hp h0 (k := 1)
  rw [Int.pow_succ, Int.pow_zero, Int.one_mul] at this
  rw [this]
  omega
theorem lev_max (hp : PP p) (hu : IsB p N a) : (max (max (-a.1) (vl p a.2.2)) 0 : Int) = lev p a := by
  rw [lev_e hp hu.nf]
  have key : ∀ j : Int, j ≤ top p b00 a ↔ j ≤ 0 ∧ j ≤ a.1 ∧ (j ≤ -(vl p a.2.2 : Int) ∨ (0 < j)) := fun j => by
    rw [le_top hp nf01 hu.nf, toR01]
    have e : (b00).1 = 0 := rfl
    rw [e]
    constructor
    · rintro ⟨h1, h2, h3⟩
      refine ⟨h1, h2, .inl ?_⟩
      by_cases z : a.2.1 = 0
      · have g := hu.nf.2
        rw [z] at g
        have p0 := hu.nf.1
        have e1 : a.2.2 = 1 := by
          have : Int.gcd 0 a.2.2 = a.2.2.natAbs := Int.gcd_zero_left _
          omega
        rw [e1, vl_one' hp.two]
        omega
      · have h3' : Dv p j (toR a.2) := by
          have := h3.neg
          rwa [show -(0 - toR a.2) = toR a.2 by grind] at this
        have := (Dv.par hp.pr hu.nf.ne z).mp h3'
        unfold prt at this
        rcases nf_vl hp hu.nf with q | q
        · omega
        · have := (vl_zero hp.two z).mpr q
          omega
    · rintro ⟨h1, h2, h3⟩
      refine ⟨h1, h2, ?_⟩
      by_cases z : a.2.1 = 0
      · rw [(toR_zero hu.nf).mpr z]
        have : (0 : Rat) - 0 = 0 := by grind
        rw [this]
        exact .zero hp.pr
      · have : Dv p j (toR a.2) := (Dv.par hp.pr hu.nf.ne z).mpr (by unfold prt; omega)
        have := this.neg
        rwa [show -toR a.2 = 0 - toR a.2 by grind] at this
  have k1 := (key (top p b00 a)).mp (Int.le_refl _)
  have k2 := (key (-(max (max (-a.1) (vl p a.2.2)) 0 : Int))).mpr ⟨by omega, by omega, by omega⟩
  omega
theorem lev_pos (hp : PP p) (hu : IsB p N a) (h1 : 0 < lev p a) (h2 : 0 < hev p a) : vl p a.2.2 = lev p a ∧ ¬ p ∣ a.2.1 := by
  have m := lev_max hp hu
  have e := hev_e hp hu.nf
  have v : vl p a.2.2 = lev p a := by omega
  exact ⟨v, (nf_vl hp hu.nf).resolve_left (by omega)⟩
theorem lev_den (hp : PP p) (hu : IsB p N a) : vl p a.2.2 ≤ lev p a := by
  have m := lev_max hp hu
  omega
/-! distinct primes -/
theorem pr_eq (hp : Pr p) (hr : Pr r) (h : p ∣ r) : p = r := by
  obtain ⟨c, hc⟩ := h
  have p2 := hp.two
  have r2 := hr.two
  rcases hr.dv p c ⟨1, by rw [Int.mul_one, hc]⟩ with d | d
  · exact Int.dvd_antisymm (by omega) (by omega) ⟨c, hc⟩ d
  · obtain ⟨e, he⟩ := d
    have : r * 1 = r * (p * e) := by
      conv => lhs; rw [Int.mul_one, hc, he]
      ac_rfl
    have e2 := Int.eq_of_mul_eq_mul_left (show r ≠ 0 by omega) this
    have := Int.natAbs_dvd_natAbs.mpr (show p ∣ 1 from ⟨e, e2⟩)
    have := Nat.dvd_one.mp this
    omega
theorem pr_pow (hp : Pr p) : ∀ (i : Nat), p ∣ r ^ i → p ∣ r
  | 0, h => by
    rw [Int.pow_zero] at h
    exact absurd h hp.not1
  | i + 1, h => by
    rw [Int.pow_succ] at h
    exact (hp.dv _ _ h).elim (pr_pow hp i) id
abbrev Pq := Int × Bl
/-- the product of the primes' powers -/
def pE (e : Pq → Nat) : List Pq → Int
  | [] => 1
  | q :: r => q.1 ^ e q * pE e r
structure PsOk (ps : List Pq) : Prop where
  pp : ∀ q ∈ ps, PP q.1
  nd : ps.Pairwise fun a b => a.1 ≠ b.1
  is : ∀ q ∈ ps, ∃ N, IsB q.1 N q.2
variable {e f : Pq → Nat} {q : Pq} {ps qs : List Pq} {D : Int}
theorem PsOk.tail (h : PsOk (q :: ps)) : PsOk ps := ⟨fun x hx => h.pp x (List.mem_cons_of_mem _ hx), h.nd.of_cons, fun x hx => h.is x (List.mem_cons_of_mem _ hx)⟩
theorem pE_app {e : Pq → Nat} : ∀ (ps qs : List Pq), pE e (ps ++ qs) = pE e ps * pE e qs
  | [], qs => by simp [pE]
  | q :: r, qs => by
    show q.1 ^ e q * pE e (r ++ qs) = q.1 ^ e q * pE e r * pE e qs
    rw [pE_app r qs, Int.mul_assoc]
theorem pE_pos {e : Pq → Nat} : ∀ {ps : List Pq}, (∀ q ∈ ps, PP q.1) → 1 ≤ pE e ps
  | [], _ => Int.le_refl _
  | q :: r, h => by
    have a := pE_pos (e := e) (ps := r) fun x hx => h x (List.mem_cons_of_mem _ hx)
    have b : 0 < q.1 ^ e q := Int.pow_pos (by have := (h q List.mem_cons_self).two; omega)
    have := Int.mul_pos b (show 0 < pE e r by omega)
    show 1 ≤ q.1 ^ e q * pE e r
    omega
theorem pE_pr {e : Pq → Nat} (hr : Pr r) : ∀ {ps : List Pq}, r ∣ pE e ps → (∀ q ∈ ps, PP q.1) → ∃ q ∈ ps, q.1 = r ∧ 0 < e q
  | [], h, _ => absurd h hr.not1
  | q :: l, h, ok => by
    rcases hr.dv _ _ h with d | d
    · refine ⟨q, List.mem_cons_self, (pr_eq hr (ok q List.mem_cons_self).pr (pr_pow hr _ d)).symm, ?_⟩
      rcases Nat.eq_zero_or_pos (e q) with z | z
      · rw [z, Int.pow_zero] at d
        exact absurd d hr.not1
      · exact z
    · obtain ⟨q', h1, h2⟩ := pE_pr hr d fun x hx => ok x (List.mem_cons_of_mem _ hx)
      exact ⟨q', List.mem_cons_of_mem _ h1, h2⟩
theorem pE_ndvd {e : Pq → Nat} (h : PsOk (q :: ps)) : ¬ q.1 ∣ pE e ps := fun d => by
  obtain ⟨q', h1, h2, _⟩ := pE_pr (h.pp q List.mem_cons_self).pr d h.tail.pp
  exact (List.pairwise_cons.mp h.nd).1 q' h1 h2.symm
theorem pE_vl {e : Pq → Nat} : ∀ {ps : List Pq}, PsOk ps → ∀ q ∈ ps, vl q.1 (pE e ps) = e q
  | [], _, q, hq => by cases hq
  | q' :: l, ok, q, hq => by
    have p1 := ok.pp q' List.mem_cons_self
    have l0 : pE e l ≠ 0 := by have := pE_pos (e := e) ok.tail.pp; omega
    show vl q.1 (q'.1 ^ e q' * pE e l) = e q
    have pq := ok.pp q hq
    rw [vl_mul pq.pr (pow_ne p1.two _) l0]
    rcases List.mem_cons.mp hq with rfl | hq
    · rw [vl_pow pq.two, (vl_zero pq.two l0).mpr (pE_ndvd ok)]
      rfl
    · have n : q'.1 ≠ q.1 := (List.pairwise_cons.mp ok.nd).1 q hq
      have : vl q.1 (q'.1 ^ e q') = 0 := (vl_zero pq.two (pow_ne p1.two _)).mpr fun d => n (pr_eq pq.pr p1.pr (pr_pow pq.pr _ d)).symm
      rw [this, pE_vl ok.tail q hq]
      omega
theorem pE_dvd {e : Pq → Nat} (hD : D ≠ 0) : ∀ {ps : List Pq}, PsOk ps → (∀ q ∈ ps, e q ≤ vl q.1 D) → pE e ps ∣ D
  | [], _, _ => ⟨D, by simp [pE]⟩
  | q :: l, ok, h => by
    have pq := ok.pp q List.mem_cons_self
    have d1 : q.1 ^ e q ∣ D := (vl_le pq.two hD).mpr (h q List.mem_cons_self)
    have d2 := pE_dvd hD ok.tail fun x hx => h x (List.mem_cons_of_mem _ hx)
    have g : Int.gcd (pE e l) (q.1 ^ e q) = 1 := gcd_pow pq.pr (pE_ndvd ok) _
    show q.1 ^ e q * pE e l ∣ D
    have := Nat.Coprime.mul_dvd_of_dvd_of_dvd (show Nat.Coprime (q.1 ^ e q).natAbs (pE e l).natAbs by rw [Nat.coprime_comm]; exact g) (Int.natAbs_dvd_natAbs.mpr d1) (Int.natAbs_dvd_natAbs.mpr d2)
    rw [← Int.natAbs_mul] at this
    exact Int.natAbs_dvd_natAbs.mp this
theorem pE_one {e : Pq → Nat} {q : Pq} : ∀ {ps : List Pq}, q ∈ ps → q.1 ^ e q ∣ pE e ps
  | q' :: l, h => by
    rcases List.mem_cons.mp h with rfl | h
    · exact ⟨_, rfl⟩
    · obtain ⟨c, hc⟩ := pE_one (e := e) h
      exact ⟨q'.1 ^ e q' * c, by show q'.1 ^ e q' * pE e l = _; rw [hc]; ac_rfl⟩
def le1 (q : Pq) : Nat := lev q.1 q.2
def he1 (q : Pq) : Nat := hev q.1 q.2
/-- the move of told balls at some primes, of the first one at all others -/
structure Gp (ps : List Pq) (g : M4) : Prop where
  hf : HF g
  led : ∀ q ∈ ps, ledB q.1 g b00 = q.2
  pr : ∀ r, Pr r → r ∣ det4 g → ∃ u, (r, u) ∈ ps
theorem Gp.sm (ok : ∀ q ∈ ps, PP q.1) (h : Gp ps g) : Sm (det4 g) := ⟨h.hf.mv.d, fun r hr d => by
  obtain ⟨u, hu⟩ := h.pr r hr d
  exact (ok _ hu).le⟩
theorem Gp.uniq (ok : ∀ q ∈ ps, PP q.1) (h : Gp ps x) (k : Gp qs y) (e : ∀ q, q ∈ ps ↔ q ∈ qs) : x = y := by
  have ok' : ∀ q ∈ qs, PP q.1 := fun q hq => ok q ((e q).mpr hq)
  refine h.hf.uniq k.hf (loc_un h.hf.mv k.hf.mv (h.sm ok) (k.sm ok') fun p hp hd => ?_)
  have : ∃ u, (p, u) ∈ ps := by
    rcases hp.pr.dv _ _ hd with d | d
    · exact h.pr p hp.pr d
    · obtain ⟨u, hu⟩ := k.pr p hp.pr d
      exact ⟨u, (e _).mpr hu⟩
  obtain ⟨u, hu⟩ := this
  rw [h.led _ hu, k.led _ ((e _).mp hu)]
/-- what the second number of the move is near to -/
def tgt (q : Pq) (L : Int) : Int := q.2.2.1 * (L / q.2.2.2)
theorem gcd1_of {g : M4} (h : ∀ r, Pr r → r ∣ g.a → r ∣ g.b → r ∣ g.c → r ∣ g.d → False) : gcd4 g = 1 := by
  refine Classical.byContradiction fun n => ?_
  obtain ⟨r, hr, hd⟩ := pr_ex (n := (gcd4 g : Int)) (by simpa using n)
  obtain ⟨h1, h2, h3, h4⟩ := gcd4_dvd g
  exact h r hr (Int.dvd_trans hd h1) (Int.dvd_trans hd h2) (Int.dvd_trans hd h3) (Int.dvd_trans hd h4)
theorem Gp.of (ok : PsOk ps) {B : Int} (b0 : 0 ≤ B) (b1 : B < pE he1 ps) (h : ∀ q ∈ ps, q.1 ^ he1 q ∣ B - tgt q (pE le1 ps)) : Gp ps ⟨pE he1 ps, B, 0, pE le1 ps⟩ := by
  have A0 := pE_pos (e := he1) ok.pp
  have L0 := pE_pos (e := le1) ok.pp
  -- the lower number of a ball's fraction divides the one of all
  have den : ∀ q ∈ ps, ∃ c : Int, pE le1 ps = q.2.2.2 * c ∧ (0 < le1 q → 0 < he1 q → ¬ q.1 ∣ c) ∧ pE le1 ps / q.2.2.2 = c := fun q hq => by
    obtain ⟨N, i⟩ := ok.is q hq
    have hp := ok.pp q hq
    obtain ⟨j, ej⟩ := i.low hp
    have jl : j ≤ le1 q := by
      have := lev_den hp i
      rw [ej, vl_pow hp.two] at this
      exact this
    obtain ⟨c, hc⟩ := pE_one (e := le1) hq
    have e1 : pE le1 ps = q.2.2.2 * (q.1 ^ (le1 q - j) * c) := by
      rw [hc, ej, ← Int.mul_assoc, ← Int.pow_add]
      congr 2
      omega
    refine ⟨_, e1, fun h1 h2 d => ?_, ?_⟩
    · have v := (lev_pos hp i h1 h2).1
      have vp := pE_vl (e := le1) ok q hq
      have c0 : q.1 ^ (le1 q - j) * c ≠ 0 := fun z => by rw [z, Int.mul_zero] at e1; omega
      rw [e1, vl_mul hp.pr i.nf.ne c0, v] at vp
      have := (vl_zero hp.two c0).mp (by show _ = 0; unfold le1 at vp ⊢; omega)
      exact this d
    · rw [e1]
      exact Int.mul_ediv_cancel_left _ i.nf.ne
  have pr : ∀ r, Pr r → r ∣ pE he1 ps * pE le1 ps → ∃ u, (r, u) ∈ ps := fun r hr d => by
    rcases hr.dv _ _ d with d | d
    · obtain ⟨q, h1, h2, _⟩ := pE_pr hr d ok.pp
      exact ⟨q.2, by rw [← h2]; exact h1⟩
    · obtain ⟨q, h1, h2, _⟩ := pE_pr hr d ok.pp
      exact ⟨q.2, by rw [← h2]; exact h1⟩
  have nf : NFM (⟨pE he1 ps, B, 0, pE le1 ps⟩ : M4) := by
    refine ⟨gcd1_of fun r hr da db dc dd => ?_, ?_⟩
    · obtain ⟨q, hq, rfl, hl⟩ := pE_pr hr dd ok.pp
      have hp := ok.pp q hq
      obtain ⟨N, i⟩ := ok.is q hq
      have hh : 0 < he1 q := by
        have := pE_vl (e := he1) ok q hq
        rcases Nat.eq_zero_or_pos (he1 q) with z | z
        · rw [z] at this
          exact absurd da ((vl_zero hp.two (show pE he1 ps ≠ 0 by omega)).mp this)
        · exact z
      obtain ⟨c, _, h2, h3⟩ := den q hq
      have h4 := h2 hl hh
      have h5 := (lev_pos hp i hl hh).2
      have dt : q.1 ∣ tgt q (pE le1 ps) := by
        have d1 : q.1 ∣ q.1 ^ he1 q := ⟨q.1 ^ (he1 q - 1), by
          conv => lhs; rw [show he1 q = (he1 q - 1) + 1 by omega, Int.pow_succ, Int.mul_comm]⟩
        have := Int.dvd_sub db (Int.dvd_trans d1 (h q hq))
        rwa [show (B : Int) - (B - tgt q (pE le1 ps)) = tgt q (pE le1 ps) by omega] at this
      unfold tgt at dt
      rw [h3] at dt
      exact (hp.pr.dv _ _ dt).elim h5 h4
    · unfold fst4
      rw [if_pos (show (pE he1 ps) ≠ 0 by omega)]
      show 0 < pE he1 ps
      omega
  have hf : HF (⟨pE he1 ps, B, 0, pE le1 ps⟩ : M4) := ⟨rfl, b0, b1, L0, nf⟩
  refine ⟨hf, fun q hq => ?_, fun r hr d => pr r hr (by rw [hf.det] at d; exact d)⟩
  obtain ⟨N, i⟩ := ok.is q hq
  have hp := ok.pp q hq
  obtain ⟨c, ec, _, h3⟩ := den q hq
  refine ledB_uniq hp nf01 hf.mv.d i ?_
  rw [bm_00 hp, R4.mul_one]
  have vA := pE_vl (e := he1) ok q hq
  have vL := pE_vl (e := le1) ok q hq
  have lR := ic_ne (show pE le1 ps ≠ 0 by omega)
  refine col_ball hp.pr (x0 := (pE he1 ps : Int)) (x1 := ((0 : Int) : Rat)) (y0 := (B : Int)) (y1 := (pE le1 ps : Int)) lR ?_ ?_ ?_
  · have : ((0 : Int) : Rat) / (pE le1 ps : Int) = 0 := by rw [show ((0 : Int) : Rat) = 0 by simp]; grind
    rw [this]
    exact .zero hp.pr
  · have e1 : ((pE he1 ps : Int) - ((0 : Int) : Rat) / (pE le1 ps : Int) * (B : Int)) / (pE le1 ps : Int) = (pE he1 ps : Int) * (1 / ((pE le1 ps : Int) : Rat)) := by
      rw [show ((0 : Int) : Rat) = 0 by simp]
      grind
    rw [e1]
    have v1 := Vl.of (q := (pE he1 ps, 1)) hp.pr (show (1 : Int) ≠ 0 by decide) (by show pE he1 ps ≠ 0; omega)
    have v2 := (Vl.of (q := (pE le1 ps, 1)) hp.pr (show (1 : Int) ≠ 0 by decide) (by show pE le1 ps ≠ 0; omega)).inv hp.pr
    rw [toR_int, prtI hp] at v1 v2
    have v3 := v1.mul hp.pr v2
    rw [vA, vL] at v3
    have : (he1 q : Int) + -(le1 q : Int) = q.2.1 := by
      have := hev_e hp i.nf
      unfold he1 le1
      omega
    rwa [this] at v3
  · have q2 := ic_ne i.nf.ne
    obtain ⟨s, hs⟩ := h q hq
    have e2 : toR q.2.2 - ((B : Int) : Rat) / (pE le1 ps : Int) = ((q.1 ^ he1 q : Int) : Rat) * -(s : Int) * (1 / ((pE le1 ps : Int) : Rat)) := by
      have h1 : ((B : Int) : Rat) - ((q.2.2.1 : Int) : Rat) * (c : Int) = ((q.1 ^ he1 q : Int) : Rat) * (s : Int) := by
        unfold tgt at hs
        rw [h3] at hs
        exact_mod_cast hs
      have h2 : ((pE le1 ps : Int) : Rat) = ((q.2.2.2 : Int) : Rat) * (c : Int) := by exact_mod_cast ec
      unfold toR
      rw [h2] at lR ⊢
      have c0 : ((c : Int) : Rat) ≠ 0 := fun z => lR (by rw [z]; grind)
      grind
    rw [e2]
    have v2 := (Vl.of (q := (pE le1 ps, 1)) hp.pr (show (1 : Int) ≠ 0 by decide) (by show pE le1 ps ≠ 0; omega)).inv hp.pr
    rw [toR_int, prtI hp, vL] at v2
    have d1 : Dv q.1 (he1 q) (((q.1 ^ he1 q : Int) : Rat)) := by
      have := Dv.pz (n := (he1 q : Int)) hp.pr
      rwa [pz_nat] at this
    have d3 := (d1.mul hp.pr ((Dv.int hp.pr s).neg)).mul hp.pr v2.dv
    have : (he1 q : Int) + 0 + -(le1 q : Int) = q.2.1 := by
      have := hev_e hp i.nf
      unfold he1 le1
      omega
    rwa [this] at d3
end
end
section
section
variable {p r m n k : Int} {st : Store} {N K : Nat} {q : Pq} {ps qs : List Pq} {g : M4}
def eQ (q : Pq) : MP.D := .tuple [.int q.1, eB q.2]
theorem zipL_same {α : Type} (f g : α → MP.D) : ∀ xs : List α, zipL (xs.map f) (xs.map g) = xs.map fun a => .tuple [f a, g a]
  | [] => rfl
  | x :: xs => by
    show PyData.tuple [f x, g x] :: zipL (xs.map f) (xs.map g) = _
    rw [zipL_same f g xs]
    rfl
structure PsB (ps : List Pq) (N K : Nat) : Prop where
  ok : PsOk ps
  is : ∀ q ∈ ps, IsB q.1 N q.2
  n : N ≤ 100
  k : K ≤ 2000
  A : Bd K (pE he1 ps)
  L : Bd K (pE le1 ps)
  len : ps.length ≤ 1000
theorem PsB.of (ok : PsOk ps) (is : ∀ q ∈ ps, IsB q.1 N q.2) (n : N ≤ 100) (k : K ≤ 2000) {D : Int} (d0 : D ≠ 0) (dk : Bd K D) (h : ∀ q ∈ ps, stp q.1 b00 q.2 ≤ vl q.1 D) (len : ps.length ≤ 1000) : PsB ps N K := by
  have le : ∀ q ∈ ps, le1 q ≤ vl q.1 D ∧ he1 q ≤ vl q.1 D := fun q hq => by
    have := lev_stp (ok.pp q hq) (is q hq).nf
    have := h q hq
    unfold le1 he1
    omega
  have bd : ∀ n : Int, 1 ≤ n → n ∣ D → Bd K n := fun n _ dv => by
    have := Nat.le_of_dvd (by omega) (Int.natAbs_dvd_natAbs.mpr dv)
    unfold Bd at *
    omega
  exact ⟨ok, is, n, k, bd _ (pE_pos ok.pp) (pE_dvd d0 ok fun q hq => (le q hq).2), bd _ (pE_pos ok.pp) (pE_dvd d0 ok fun q hq => (le q hq).1), len⟩
theorem whole_eq {n : Int} {l h : Nat} (hp : 2 ≤ p) (e : (h : Int) = n + l) : (p ^ (max n 0).toNat * p ^ l).fdiv (p ^ (max (-n) 0).toNat) = p ^ h := by
  rw [← Int.pow_add]
  have : (max n 0).toNat + l = (max (-n) 0).toNat + h := by omega
  rw [this, Int.pow_add]
  exact Int.mul_fdiv_cancel_left _ (pow_ne hp _)
theorem grid_of_run (h : PsB ps N K) (st : Store) : ∃ g, Gp ps g ∧ f_grid_ofY [.dat (.list (ps.map eQ))] st = .ok ⟨false, .dat (eM g)⟩ st := by
  have ok := h.ok
  have hN := h.n
  have hK := h.k
  have w : Wp (f_grid_ofY [.dat (.list (ps.map eQ))] st) fun x st' => st' = st ∧ ∃ g, Gp ps g ∧ x = ⟨false, .dat (eM g)⟩ := by
    refine wp_fn rfl ?_
    simp! [b_grid_ofY]
    refine wp_compM eQ (fun q => .int (q.1 ^ le1 q)) (fun q hq => ?_) (by have := h.len; omega) ?_
    · have hp := ok.pp q hq
      have i := h.is q hq
      have mx := lev_max hp i
      have e := prog_raised_ok (k := 7) q.1 (le1 q) st hp.bd (by omega) (by have := lev_stp hp i.nf; have := stp_00 hp i; unfold le1; omega) (by have := lev_stp hp i.nf; have := stp_00 hp i; unfold le1; omega)
      have sp := split_ok (k := 14 * N + 1) q.1 q.2.2.2 st hp.two (hp.bd.up (by decide)) i.nf.ne (i.bd hp).2 (by omega)
      simp! [eQ, sp, blt_max3, mx, e]
      rw [Int.toNat_natCast] at e
      rw [show lev q.1 q.2 = le1 q from rfl, e]
      simp!
      exact ⟨by trivial, by trivial⟩
    simp! [b_grid_ofY_1, b_grid_ofY_2, zipL_same]
    refine wps_forT (fun q : Pq => .tuple [eQ q, .int (q.1 ^ le1 q)]) (fun r env st' => st' = st ∧ ∃ (ds : List Pq) (s3 s4 s5 s6 : Slot), ds ++ r = ps ∧ env = [.val (.dat (.list (ps.map eQ))), .val (.dat (.list (ps.map fun q => .int (q.1 ^ le1 q)))), .own (.list (ds.map fun q => .int (q.1 ^ he1 q))), s3, s4, s5, s6, .un, .un, .un, .un, .un, .un]) ?_ ?_ ps _ _ ⟨rfl, [], _, _, _, _, rfl, rfl⟩
    · rintro q r env st' ⟨rfl, ds, s3, s4, s5, s6, hd, rfl⟩
      have hq : q ∈ ps := by rw [← hd]; simp
      have hp := ok.pp q hq
      have i := h.is q hq
      have ll := lev_stp hp i.nf
      have l0 := stp_00 hp i
      have lo := i.lo
      have hi := i.hi
      have he : (he1 q : Int) = q.2.1 + le1 q := hev_e hp i.nf
      have e1 := prog_raised_ok (k := 7) q.1 (max q.2.1 0) st' hp.bd (by omega) (by omega) (by omega)
      have e2 := prog_raised_ok (k := 7) q.1 (max (-q.2.1) 0) st' hp.bd (by omega) (by omega) (by omega)
      have b1 : Bd 701 (q.1 ^ (max q.2.1 0).toNat) := (hp.bd.pow _).up (by omega)
      have b2 : Bd 701 (q.1 ^ (max (-q.2.1) 0).toNat) := (hp.bd.pow _).up (by omega)
      have b3 : Bd 2101 (q.1 ^ le1 q) := (hp.bd.pow _).up (by unfold le1; omega)
      have fz : fitsS (ds.map fun q : Pq => PyData.int (q.1 ^ he1 q)).length = true := fitsS_of (by
        have := h.len
        rw [← hd] at this
        simp at this ⊢
        omega)
      simp! [eQ]
      refine ⟨_, rfl, ?_⟩
      simp! [b_grid_ofY_2a]
      rw [es_app ⟨_, rfl⟩]
      simp! [blt_max2, e1, e2, bin_mul b1 b3 (by omega), bin_fdiv b2 (pow_ne hp.two _) (by omega), whole_eq hp.two he, fz]
      exact ⟨by trivial, ds ++ [q], _, _, _, _, by simp [hd], by rw [List.map_append]; rfl⟩
    rintro env st' ⟨rfl, ds, s3, s4, s5, s6, hd, rfl⟩
    rw [List.append_nil] at hd
    subst hd
    simp! [b_grid_ofY_3, b_grid_ofY_4, frzR_o, b_grid_ofY_5, zipL_same]
    refine wps_forT (fun q : Pq => .tuple [.int (q.1 ^ le1 q), .int (q.1 ^ he1 q)]) (fun r env st'' => st'' = st' ∧ ∃ (es : List Pq) (s6 s10 : Slot), es ++ r = ds ∧ env = [.val (.dat (.list (ds.map eQ))), .val (.dat (.list (ds.map fun q => .int (q.1 ^ le1 q)))), .val (.dat (.list (ds.map fun q => .int (q.1 ^ he1 q)))), s3, s4, s5, s6, .val (.dat (.int (pE le1 es))), .val (.dat (.int (pE he1 es))), .val (.dat (.int 0)), s10, .un, .un]) ?_ ?_ ds _ _ ⟨rfl, [], _, _, rfl, rfl⟩
    · rintro q r env st'' ⟨rfl, es, s6, s10, hd, rfl⟩
      have hq : q ∈ ds := by rw [← hd]; simp
      have hp := ok.pp q hq
      have bd : ∀ e : Pq → Nat, Bd K (pE e ds) → Bd K (pE e es) ∧ Bd K (q.1 ^ e q) := fun e b => by
        rw [← hd, pE_app] at b
        have p1 := pE_pos (e := e) (ps := es) fun x hx => ok.pp x (by rw [← hd]; exact List.mem_append_left _ hx)
        have p2 := pE_pos (e := e) (ps := r) fun x hx => ok.pp x (by rw [← hd]; exact List.mem_append_right _ (List.mem_cons_of_mem _ hx))
        have p3 : 0 < q.1 ^ e q := Int.pow_pos (by have := hp.two; omega)
        have b' : (pE e es).natAbs * ((q.1 ^ e q).natAbs * (pE e r).natAbs) < 2 ^ K := by
          rw [← Int.natAbs_mul, ← Int.natAbs_mul]
          exact b
        have a1 : 1 ≤ (pE e es).natAbs := by omega
        have a2 : 1 ≤ (pE e r).natAbs := by omega
        have a3 : 1 ≤ (q.1 ^ e q).natAbs := by omega
        have m1 : (q.1 ^ e q).natAbs * 1 ≤ (q.1 ^ e q).natAbs * (pE e r).natAbs := Nat.mul_le_mul_left _ a2
        have m2 : (pE e es).natAbs * 1 ≤ (pE e es).natAbs * ((q.1 ^ e q).natAbs * (pE e r).natAbs) := Nat.mul_le_mul_left _ (by omega)
        have m3 : 1 * ((q.1 ^ e q).natAbs * (pE e r).natAbs) ≤ (pE e es).natAbs * ((q.1 ^ e q).natAbs * (pE e r).natAbs) := Nat.mul_le_mul_right _ a1
        exact ⟨by unfold Bd; omega, by unfold Bd; omega⟩
      obtain ⟨l1, l2⟩ := bd le1 h.L
      obtain ⟨h1, h2⟩ := bd he1 h.A
      simp!
      refine ⟨_, rfl, ?_⟩
      simp! [b_grid_ofY_5a, bin_mul l1 l2 (by omega), bin_mul h1 h2 (by omega)]
      have pa : ∀ e : Pq → Nat, pE e (es ++ [q]) = pE e es * q.1 ^ e q := fun e => by rw [pE_app]; simp [pE]
      exact ⟨by trivial, es ++ [q], _, _, by simp [hd], by rw [pa, pa]⟩
    rintro env st'' ⟨rfl, es, s6, s10, hd, rfl⟩
    rw [List.append_nil] at hd
    subst hd
    simp! [b_grid_ofY_6, zipL_same]
    refine wps_forT (fun q : Pq => .tuple [eQ q, .int (q.1 ^ he1 q)]) (fun r env st' => st' = st'' ∧ ∃ (ds : List Pq) (F : Int) (s3 s4 s5 s10 s11 s12 : Slot), ds ++ r = es ∧ (∀ q ∈ ds, q.1 ^ he1 q ∣ F - tgt q (pE le1 es)) ∧ (∀ q ∈ r, q.1 ^ he1 q ∣ F) ∧ env = [.val (.dat (.list (es.map eQ))), .val (.dat (.list (es.map fun q => .int (q.1 ^ le1 q)))), .val (.dat (.list (es.map fun q => .int (q.1 ^ he1 q)))), s3, s4, s5, s6, .val (.dat (.int (pE le1 es))), .val (.dat (.int (pE he1 es))), .val (.dat (.int F)), s10, s11, s12]) ?_ ?_ es _ _ ⟨rfl, [], 0, _, _, _, _, _, _, rfl, by simp, fun _ _ => Int.dvd_zero _, rfl⟩
    · rintro q r env st' ⟨rfl, ds, F, s3, s4, s5, s10, s11, s12, hd, g1, g2, rfl⟩
      have hq : q ∈ es := by rw [← hd]; simp
      have hp := ok.pp q hq
      have i := h.is q hq
      have ok2 : PsOk (q :: r) := ⟨fun x hx => ok.pp x (by rw [← hd]; exact List.mem_append_right _ hx), (by have := ok.nd; rw [← hd] at this; exact (List.pairwise_append.mp this).2.1), fun x hx => ok.is x (by rw [← hd]; exact List.mem_append_right _ hx)⟩
      have pd := pE_pos (e := he1) (ps := ds) fun x hx => ok.pp x (by rw [← hd]; exact List.mem_append_left _ hx)
      have pr := pE_pos (e := he1) ok2.tail.pp
      have W1 : 0 < q.1 ^ he1 q := Int.pow_pos (by have := hp.two; omega)
      have eA : pE he1 es = q.1 ^ he1 q * (pE he1 ds * pE he1 r) := by
        rw [← hd, pE_app]
        show pE he1 ds * (q.1 ^ he1 q * pE he1 r) = _
        ac_rfl
      have O0 : 0 < pE he1 ds * pE he1 r := Int.mul_pos (by omega) (by omega)
      have bA := h.A
      have bL := h.L
      have bO : Bd K (pE he1 ds * pE he1 r) ∧ Bd K (q.1 ^ he1 q) := by
        rw [eA] at bA
        unfold Bd at bA
        rw [Int.natAbs_mul] at bA
        have m1 : 1 * (pE he1 ds * pE he1 r).natAbs ≤ (q.1 ^ he1 q).natAbs * (pE he1 ds * pE he1 r).natAbs := Nat.mul_le_mul_right _ (by omega)
        have m2 : (q.1 ^ he1 q).natAbs * 1 ≤ (q.1 ^ he1 q).natAbs * (pE he1 ds * pE he1 r).natAbs := Nat.mul_le_mul_left _ (by omega)
        exact ⟨by unfold Bd; omega, by unfold Bd; omega⟩
      have oth : ¬ q.1 ∣ pE he1 ds * pE he1 r := fun d => by
        rcases hp.pr.dv _ _ d with d | d
        · obtain ⟨q', k1, k2, _⟩ := pE_pr hp.pr d fun x hx => ok.pp x (by rw [← hd]; exact List.mem_append_left _ hx)
          have := ok.nd
          rw [← hd] at this
          exact (List.pairwise_append.mp this).2.2 q' k1 q List.mem_cons_self k2
        · exact pE_ndvd ok2 d
      obtain ⟨j, j0, j1, j2, j3⟩ := inverse_ok (pE he1 ds * pE he1 r) (q.1 ^ he1 q) st' (by omega) bO.2 (by omega) (gcd_pow hp.pr oth _)
      have f1 : (pE he1 es).fdiv (q.1 ^ he1 q) = pE he1 ds * pE he1 r := by
        rw [eA]
        exact Int.mul_fdiv_cancel_left _ (by omega)
      have q2 : 0 < q.2.2.2 := i.nf.1
      have L1 := pE_pos (e := le1) ok.pp
      have f2 : (pE le1 es).fdiv q.2.2.2 = pE le1 es / q.2.2.2 := Int.fdiv_eq_ediv_of_nonneg _ (by omega)
      have bl : Bd K (pE le1 es / q.2.2.2) := by
        have := Int.ediv_le_self q.2.2.2 (show 0 ≤ pE le1 es by omega)
        have := Int.ediv_nonneg (show 0 ≤ pE le1 es by omega) (show 0 ≤ q.2.2.2 by omega)
        unfold Bd at *
        omega
      have bu := i.bd hp
      have b1 := bu.1.mul bl
      have bj : Bd K j := by
        have := bO.2
        unfold Bd at *
        omega
      have m0 := Int.fmod_nonneg_of_pos (tgt q (pE le1 es) * j) W1
      have m1 := Int.fmod_lt_of_pos (tgt q (pE le1 es) * j) W1
      have bm : Bd K ((tgt q (pE le1 es) * j).fmod (q.1 ^ he1 q)) := by
        have := bO.2
        unfold Bd at *
        omega
      have bb : bin .mul (.int (q.2.2.1 * (pE le1 es / q.2.2.2))) (.int j) = some (false, .int (tgt q (pE le1 es) * j)) := bin_mul b1 bj (by omega)
      simp! [eQ]
      refine ⟨_, rfl, ?_⟩
      simp! [b_grid_ofY_6a, bin_fdiv bO.2 (show q.1 ^ he1 q ≠ 0 by omega) (by omega), f1, b_grid_ofY_6a_1, bin_fdiv bu.2 i.nf.ne (by omega), f2, bin_mul bu.1 bl (by omega), j3, bb, b_grid_ofY_6a_2, bin_mod (show q.1 ^ he1 q ≠ 0 by omega), bin_mul bm bO.1 (by omega)]
      have em := Int.fmod_add_mul_fdiv (tgt q (pE le1 es) * j) (q.1 ^ he1 q)
      refine ⟨by trivial, ds ++ [q], _, _, _, _, _, _, _, by simp [hd], fun x hx => ?_, fun x hx => ?_, rfl⟩
      · rcases List.mem_append.mp hx with hx | hx
        · obtain ⟨c, hc⟩ := pE_one (e := he1) hx
          have d1 : x.1 ^ he1 x ∣ (tgt q (pE le1 es) * j).fmod (q.1 ^ he1 q) * (pE he1 ds * pE he1 r) := Int.dvd_mul_of_dvd_right (Int.dvd_mul_of_dvd_left ⟨c, hc⟩)
          have := Int.dvd_add (g1 x hx) d1
          rwa [show ∀ a b c : Int, a - b + c = a + c - b from fun a b c => by omega] at this
        · rw [List.mem_singleton.mp hx]
          have d1 : q.1 ^ he1 q ∣ (tgt q (pE le1 es) * j).fmod (q.1 ^ he1 q) * (pE he1 ds * pE he1 r) - tgt q (pE le1 es) := by
            obtain ⟨c, hc⟩ := j2
            refine ⟨tgt q (pE le1 es) * c - (tgt q (pE le1 es) * j).fdiv (q.1 ^ he1 q) * (pE he1 ds * pE he1 r), ?_⟩
            generalize (tgt q (pE le1 es) * j).fmod (q.1 ^ he1 q) = M at *
            generalize (tgt q (pE le1 es) * j).fdiv (q.1 ^ he1 q) = E at *
            generalize tgt q (pE le1 es) = T at *
            generalize pE he1 ds * pE he1 r = O at *
            generalize q.1 ^ he1 q = V at *
            grind
          have := Int.dvd_add (g2 q List.mem_cons_self) d1
          rwa [show ∀ a b c : Int, a + (b - c) = a + b - c from fun a b c => by omega] at this
      · obtain ⟨c, hc⟩ := pE_one (e := he1) hx
        exact Int.dvd_add (g2 x (List.mem_cons_of_mem _ hx)) (Int.dvd_mul_of_dvd_right (Int.dvd_mul_of_dvd_right ⟨c, hc⟩))
    rintro env st' ⟨rfl, ds, F, s3, s4, s5, s10, s11, s12, hd, g1, _, rfl⟩
    rw [List.append_nil] at hd
    subst hd
    have A1 := pE_pos (e := he1) ok.pp
    have f0 : 0 ≤ F.fmod (pE he1 ds) := Int.fmod_nonneg_of_pos _ (by omega)
    have f1 : F.fmod (pE he1 ds) < pE he1 ds := Int.fmod_lt_of_pos _ (by omega)
    have G := Gp.of ok f0 f1 fun q hq => by
      obtain ⟨c, hc⟩ := pE_one (e := he1) hq
      have e := Int.fmod_add_mul_fdiv F (pE he1 ds)
      have : F.fmod (pE he1 ds) - tgt q (pE le1 ds) = (F - tgt q (pE le1 ds)) - pE he1 ds * F.fdiv (pE he1 ds) := by omega
      rw [this]
      exact Int.dvd_sub (g1 q hq) (Int.dvd_mul_of_dvd_left ⟨c, hc⟩)
    have bA := h.A
    have bL := h.L
    have bF : Bd K (F.fmod (pE he1 ds)) := by unfold Bd at *; omega
    have fm := in_form_ok (k := K) (⟨pE he1 ds, F.fmod (pE he1 ds), 0, pE le1 ds⟩ : M4) st' ⟨bA, bF, Bd.zero _, bL⟩ (det_non0 G.hf.mv.d) (by omega)
    rw [nm_self G.hf.f G.hf.mv.d] at fm
    have fm' : f_in_form [.dat (.tuple [.int (pE he1 ds), .int (F.fmod (pE he1 ds)), .int 0, .int (pE le1 ds)])] st' = _ := fm
    simp! [b_grid_ofY_7, bin_mod (show pE he1 ds ≠ 0 by omega), fm']
    exact ⟨by trivial, _, G, rfl⟩
  obtain ⟨x, st', e, rfl, g, h1, rfl⟩ := w.ex
  exact ⟨g, h1, e⟩
end
section
variable {p r m n k : Int} {st : Store} {N K : Nat} {q : Pq} {ps qs : List Pq} {g t w : M4}
/-! the primes to 97 that divide a number -/
def isp (p : Int) : Bool := (List.range (p - 2).toNat).all fun k => decide (0 < p.fmod (2 + k))
def pls (n : Int) : List Int := (List.range 96).filterMap fun k : Nat => if (decide (n.fmod (2 + k) = 0) && isp (2 + k)) = true then some (2 + k : Int) else none
theorem isp_pr (hp : Pr p) : isp p = true := by
  unfold isp
  refine List.all_eq_true.mpr fun k hk => decide_eq_true ?_
  have h2 := hp.two
  have hk := List.mem_range.mp hk
  have f0 := Int.fmod_nonneg_of_pos p (show (0 : Int) < 2 + k by omega)
  refine Classical.byContradiction fun c => ?_
  have d : (2 + k : Int) ∣ p := by
    have e := Int.fmod_add_mul_fdiv p (2 + k)
    exact ⟨p.fdiv (2 + k), by omega⟩
  obtain ⟨r, hr, hd⟩ := pr_ex (n := (2 + k : Int)) (by omega)
  have := pr_eq hr hp (Int.dvd_trans hd d)
  have := Nat.le_of_dvd (by omega) (Int.natAbs_dvd_natAbs.mpr hd)
  have := hr.two
  omega
theorem isp_chk : ∀ k ∈ List.range 96, isp (2 + (k : Int)) = true → (List.range (2 + k + 1)).all (fun d => decide ((2 + k) % d ≠ 0 ∨ d = 1 ∨ d = 2 + k)) = true := by decide +kernel
theorem pls_mem : p ∈ pls n ↔ PP p ∧ p ∣ n := by
  unfold pls
  rw [List.mem_filterMap]
  constructor
  · rintro ⟨k, hk, h⟩
    split at h
    · rename_i c
      cases h
      obtain ⟨c1, c2⟩ := (Bool.and_eq_true _ _).mp c
      have kk := List.mem_range.mp hk
      have pr := pr_small (p := 2 + k) (by omega) (isp_chk k hk c2)
      refine ⟨⟨by simpa using pr, by omega⟩, ?_⟩
      have e := Int.fmod_add_mul_fdiv n (2 + k)
      rw [of_decide_eq_true c1] at e
      exact ⟨n.fdiv (2 + k), by omega⟩
    · cases h
  · rintro ⟨hp, hd⟩
    have h2 := hp.two
    have hl := hp.le
    have e : (2 + ((p - 2).toNat : Int)) = p := by omega
    refine ⟨(p - 2).toNat, List.mem_range.mpr (by omega), ?_⟩
    rw [e, if_pos]
    rw [isp_pr hp.pr, Bool.and_true]
    obtain ⟨c, rfl⟩ := hd
    exact decide_eq_true (Int.mul_fmod_right _ _)
theorem pls_nd : (pls n).Pairwise (· ≠ ·) := by
  unfold pls
  refine List.Pairwise.filterMap _ (R := (· ≠ ·)) (fun a a' h b hb b' hb' => ?_) List.nodup_range
  split at hb
  · split at hb'
    · cases hb
      cases hb'
      omega
    · cases hb'
  · cases hb
theorem pls_len : (pls n).length ≤ 96 := Nat.le_trans (List.length_filterMap_le _ _) (by simp)
theorem rangeUp_map {i j : Int} : rangeUp i j = (List.range (j - i).toNat).map fun k => PyData.int (i + (k : Nat)) := rfl
theorem law_primes_ok (n : Int) (st : Store) : f__law_primes_of [.dat (.int n)] st = .ok ⟨true, .dat (.list ((pls n).map .int))⟩ st := by
  refine Wp.is (wp_fn rfl ?_)
  simp! [b__law_primes_of, show (rngOk 2 && rngOk 98) = true by decide, rangeUp_map]
  refine wp_compF (fun k : Nat => PyData.int (2 + (k : Nat))) (fun k => if (decide (n.fmod (2 + k) = 0) && isp (2 + k)) = true then some (.int (2 + k : Int)) else none) (fun k hk => ?_) (by simp) ?_
  · have kk := List.mem_range.mp hk
    simp! [bin_mod (show (2 + (k : Int)) ≠ 0 by omega)]
    by_cases h : n.fmod (2 + (k : Int)) = 0
    · simp! [decide_eq_true h, okR (i := 2 + (k : Int)) (by omega) (by omega), ok2, rangeUp_map, Bool.true_and]
      refine wp_compM (fun j : Nat => PyData.int (2 + (j : Nat))) (fun j => .bool (decide (0 < (2 + (k : Int)).fmod (2 + (j : Int))))) (fun j hj => ?_) (by simp; omega) ?_
      · simp! [bin_mod (show (2 + (j : Int)) ≠ 0 by omega)]
        exact ⟨by trivial, by trivial⟩
      · simp! [all_map]
        rw [show ((List.range (2 + (k : Int) - 2).toNat).all fun j => decide (0 < (2 + (k : Int)).fmod (2 + (j : Int)))) = isp (2 + k) from rfl]
        rw [decide_eq_true h]
        cases isp (2 + (k : Int)) <;> simp! <;> exact ⟨by rfl, by trivial⟩
    · rw [decide_eq_false h]
      simp!
      exact ⟨by rfl, by trivial⟩
  simp!
  refine ⟨?_, rfl⟩
  have : (List.range (Int.toNat 96)) = List.range 96 := rfl
  rw [this]
  unfold pls
  rw [List.map_filterMap]
  congr 4
  funext k
  split <;> rfl
/-! the grid of its balls -/
noncomputable def prs (t : M4) : List Pq := (pls (det4 t)).map fun p => (p, ledB p t b00)
theorem gf_ok {k : Nat} (ht : GM k t) (hk : k ≤ 60) : HF (gf t) ∧ sg t (gf t) := by
  obtain ⟨g, h1, h2, _⟩ := grid_form_run ht hk []
  exact gf_spec ⟨g, h1, h2⟩
theorem grid_form_ok {k : Nat} (ht : GM k t) (st : Store) (hk : k ≤ 60 := by decide) : f_grid_form [.dat (eM t)] st = .ok ⟨false, .dat (eM (gf t))⟩ st := by
  obtain ⟨g, h1, h2, h3⟩ := grid_form_run ht hk st
  rw [gf_is ⟨ht.d, ht.f⟩ h1 h2]
  exact h3
theorem prs_ok (ht : Mv t) : PsOk (prs t) := by
  refine ⟨fun q hq => ?_, ?_, fun q hq => ?_⟩
  · obtain ⟨p, hp, rfl⟩ := List.mem_map.mp hq
    exact (pls_mem.mp hp).1
  · unfold prs
    rw [List.pairwise_map]
    exact pls_nd
  · obtain ⟨p, hp, rfl⟩ := List.mem_map.mp hq
    exact ledB_is (pls_mem.mp hp).1 nf01 ht.d
theorem prs_gp (ht : Mv t) (s : Sm (det4 t)) (h : HF g) (q : sg t g) : Gp (prs t) g := by
  refine ⟨h, fun x hx => ?_, fun r hr hd => ?_⟩
  · obtain ⟨p, hp, rfl⟩ := List.mem_map.mp hx
    exact (q.led (pls_mem.mp hp).1 ht h.mv).symm
  · have hd : r ∣ det4 t := by
      have e := q.det ht h.mv
      have := Int.natAbs_dvd_natAbs.mpr hd
      rw [e] at this
      exact Int.natAbs_dvd_natAbs.mp this
    exact ⟨_, List.mem_map.mpr ⟨r, pls_mem.mpr ⟨s.pp hr hd, hd⟩, rfl⟩⟩
theorem prs_b {k : Nat} (ht : GM k t) (hk : k ≤ 48) : PsB (prs t) (2 * k + 1) (2 * k + 1) := by
  have mt : Mv t := ⟨ht.d, ht.f⟩
  have db := gm_db ht
  refine .of (prs_ok mt) (fun q hq => ?_) (by omega) (by omega) ht.d db (fun q hq => ?_) ?_
  · obtain ⟨p, hp, rfl⟩ := List.mem_map.mp hq
    have pp := (pls_mem.mp hp).1
    exact led_b00 pp mt (vl_bd pp ht.d db)
  · obtain ⟨p, hp, rfl⟩ := List.mem_map.mp hq
    exact Int.le_of_eq (stp_b00 (pls_mem.mp hp).1 mt)
  · unfold prs
    rw [List.length_map]
    exact Nat.le_trans pls_len (by decide)
/-- grid_of the balls of a move is its grid's form -/
theorem grid_of_prs {k : Nat} (ht : GM k t) (s : Sm (det4 t)) (hk : k ≤ 48) (st : Store) : f_grid_ofY [.dat (.list ((prs t).map eQ))] st = .ok ⟨false, .dat (eM (gf t))⟩ st := by
  have mt : Mv t := ⟨ht.d, ht.f⟩
  obtain ⟨g, h1, h2⟩ := grid_of_run (prs_b ht hk) st
  obtain ⟨f1, f2⟩ := gf_ok ht (by omega)
  rw [h2, h1.uniq (prs_ok mt).pp (prs_gp mt s f1 f2) fun _ => Iff.rfl]
theorem law_led00 {k : Nat} (hp : PP p) (ht : GM k t) (hk : k ≤ 100) (st : Store) (h1 : 1 ≤ k) : f__law_led [.dat (.int p), .dat (eM t), .dat (eB b00)] st = .ok ⟨false, .dat (eB (ledB p t b00))⟩ st := by
  have mt : Mv t := ⟨ht.d, ht.f⟩
  have hv := led_b00 hp mt (vl_bd hp ht.d (gm_db ht))
  exact law_led_ok st hp ht.d (lok hp hp.bd ht (b00_is hp) hv (by omega) (by omega) (B := 1) (by decide) (by decide) (by omega) h1)
end
end
section
section
variable {p : Int} {m n : M4} {u v w x y z a b c e : Bl} {N M L : Nat}
/-! places of moves that do not stretch -/
def Ib (p : Int) (u : Bl) : Prop := ∃ N, IsB p N u
theorem Ib.nf (h : Ib p u) : NF u.2 := by
  obtain ⟨N, h⟩ := h
  exact h.nf
theorem Ib.led (h : Ib p u) (hp : PP p) (hm : Mv m) : Ib p (ledB p m u) := ledB_is hp h.nf hm.d
theorem Ib.iso (h : Ib p u) (q : Ib p v) (hp : PP p) (hm : Mv m) : stp p (ledB p m u) (ledB p m v) = stp p u v := by
  obtain ⟨N, h⟩ := h
  obtain ⟨M, q⟩ := q
  exact ledB_stp hp h q hm.d
theorem Ib.zz (h : Ib p u) (q : Ib p v) (hp : PP p) : stp p u v = 0 ↔ u = v := by
  obtain ⟨N, h⟩ := h
  obtain ⟨M, q⟩ := q
  exact stp_zero hp h q
theorem Ib.aft (h : Ib p u) (hp : PP p) (hm : Mv m) (hn : Mv n) : ledB p (MK.aft m n) u = ledB p m (ledB p n u) := by
  obtain ⟨N, h⟩ := h
  exact ledB_aft hp h hm.d hn.d
theorem Ib.nn (h : Ib p u) (q : Ib p v) (hp : PP p) : 0 ≤ stp p u v := stp_nn hp h.nf q.nf
theorem Ib.cc (h : Ib p u) (q : Ib p v) (hp : PP p) : stp p u v = stp p v u := stp_comm hp h.nf q.nf
theorem Ib.ff (h : Ib p a) (q : Ib p b) (r : Ib p c) (t : Ib p e) (hp : PP p) : stp p a b + stp p c e ≤ max (stp p a c + stp p b e) (stp p a e + stp p b c) := stp_four hp h.nf q.nf r.nf t.nf
theorem conv (hp : PP p) (hm : Mv m) (hx : Ib p x) (hy : Ib p y) (hz : Ib p z) (kx : ledB p m x = x) (ky : ledB p m y = y) (h : stp p x z + stp p z y = stp p x y) : ledB p m z = z := by
  have hmz := hz.led hp hm
  have e1 := hz.iso hx hp hm
  have e2 := hz.iso hy hp hm
  rw [kx] at e1
  rw [ky] at e2
  have f := hz.ff hmz hx hy hp
  have c1 := hz.cc hx hp
  have n := hz.nn hmz hp
  exact ((hz.zz hmz hp).mp (by omega)).symm
/-! what two moves keep alike -/
/-! the gates -/
/-- the ball that rests, seen from the first one -/
noncomputable def rx (p : Int) (m : M4) : Bl := rst p m b00
/-- the balls of the gate -/
noncomputable def gl (p : Int) (m : M4) : List Bl := if rx p m = ledB p m (rx p m) then [rx p m] else if (rx p m).1 < (ledB p m (rx p m)).1 then [rx p m, ledB p m (rx p m)] else [ledB p m (rx p m), rx p m]
noncomputable def kpB (p : Int) (m : M4) (B : List Bl) : Bool := decide (B.map (ledB p m) = B) || decide (B.map (ledB p m) = B.reverse)
/-- half steps from the first ball to the gate -/
noncomputable def hs (p : Int) (m : M4) : Int := if due p m = 0 then 2 * stp p b00 (rx p m) else 2 * min (stp p b00 (rx p m)) (stp p b00 (ledB p m (rx p m))) + 1
structure Gt (p : Int) (m : M4) : Prop where
  ix : Ib p (rx p m)
  iy : Ib p (ledB p m (rx p m))
  d : due p m = 0 ∨ due p m = 1
  s : stp p (rx p m) (ledB p m (rx p m)) = due p m
  b : ledB p m (ledB p m (rx p m)) = rx p m
theorem Gt.eq (g : Gt p m) (hp : PP p) (d0 : due p m = 0) : ledB p m (rx p m) = rx p m := ((g.ix.zz g.iy hp).mp (by rw [g.s, d0])).symm
theorem Gt.ne (g : Gt p m) (hp : PP p) (d1 : due p m = 1) : rx p m ≠ ledB p m (rx p m) := fun e => by
  have := (g.ix.zz g.iy hp).mpr e
  have := g.s
  omega
theorem kp2 : kpB p n [x, y] = true ↔ (ledB p n x = x ∧ ledB p n y = y) ∨ (ledB p n x = y ∧ ledB p n y = x) := by
  unfold kpB
  simp
end
end
section
section
variable {p : Int} {m : M4} {u v x y a b lo hi : Bl} {c K N M D B : Nat} {st : Store} {ms : List M4}
structure Gx (p : Int) (x : Bl) : Prop where
  b : ∃ M, IsB p M x
  n : stp p b00 x ≤ 45
theorem Gx.is (hp : PP p) (g : Gx p x) : IsB p 45 x := by
  obtain ⟨M, h⟩ := g.b
  exact isb_stp hp h g.n
theorem Gx.near (hp : PP p) (hu : IsB p 3 u) : Gx p u := ⟨⟨3, hu⟩, by have := stp_00 hp hu; omega⟩
/-! places -/
/-! what keeps a place -/
/-! words of moves -/
end
end
section
section
variable {p : Int} {m : M4} {u v x y a b lo hi : Bl} {c K N M D B : Nat} {st : Store} {ms : List M4} {d : MP.D}
/-! the first pair that stretches -/
def NoP (c : Nat → Nat → Bool) (n i : Nat) : Prop := ∀ i' < i, ∀ j, i' < j → j < n → c i' j = false
def Fst (c : Nat → Nat → Bool) (n : Nat) : Option (Nat × Nat) → Prop
  | none => NoP c n n
  | some (i, j) => NoP c n i ∧ i < j ∧ j < n ∧ c i j = true ∧ ∀ j', i < j' → j' < j → c i j' = false
theorem Fst.uniq {c : Nat → Nat → Bool} {n : Nat} {r r' : Option (Nat × Nat)} (h : Fst c n r) (h' : Fst c n r') : r = r' := by
  have key : ∀ {i j i' j'}, Fst c n (some (i, j)) → Fst c n (some (i', j')) → ¬ i < i' := fun {i j i' j'} h h' q => by
    obtain ⟨_, h2, h3, h4, _⟩ := h
    have := h'.1 i q j h2 h3
    rw [h4] at this
    cases this
  cases r with
  | none =>
    cases r' with
    | none => rfl
    | some q =>
      obtain ⟨i, j⟩ := q
      obtain ⟨_, h2, h3, h4, _⟩ := h'
      have h : NoP c n n := h
      have := h i (by omega) j h2 h3
      rw [h4] at this
      cases this
  | some q =>
    obtain ⟨i, j⟩ := q
    cases r' with
    | none =>
      obtain ⟨_, h2, h3, h4, _⟩ := h
      have h' : NoP c n n := h'
      have := h' i (by omega) j h2 h3
      rw [h4] at this
      cases this
    | some q' =>
      obtain ⟨i', j'⟩ := q'
      have e1 := key h h'
      have e2 := key h' h
      have e : i = i' := by omega
      subst e
      obtain ⟨_, h2, h3, h4, h5⟩ := h
      obtain ⟨_, k2, k3, k4, k5⟩ := h'
      rcases (show j < j' ∨ j' < j ∨ j = j' by omega) with q | q | q
      · rw [k5 j h2 q] at h4
        cases h4
      · rw [h5 j' k2 q] at k4
        cases k4
      · rw [q]
noncomputable def cc (p : Int) (ms : List M4) (i j : Nat) : Bool := decide (0 < sth p (aft (ms.getD i one4) (ms.getD j one4)))
/-! what is told of a list -/
end
end
section
section
/-- a bound, and no prime above 97 divides -/
structure DS (l : Nat) (n : Int) : Prop where
  b : Bd l n
  s : Sm n
variable {m n : M4} {k l j : Nat}
theorem DS.up {n : Int} (h : DS l n) (hl : l ≤ j) : DS j n := ⟨h.b.up hl, h.s⟩
theorem aft_dvd (dm : det4 m ≠ 0) (dn : det4 n ≠ 0) : det4 (aft m n) ∣ det4 m * det4 n := by
  have := nm_dvd (det_mul_ne dm dn)
  rwa [det_mul] at this
theorem bk_dvd (dm : det4 m ≠ 0) : det4 (bk m) ∣ det4 m := by
  have := nm_dvd (det_adj_ne dm)
  rwa [det_adj] at this
theorem Sm.aft (dm : det4 m ≠ 0) (dn : det4 n ≠ 0) (h : Sm (det4 m)) (q : Sm (det4 n)) : Sm (det4 (aft m n)) := (h.mul q).dvd (aft_dvd dm dn)
theorem Sm.bk (dm : det4 m ≠ 0) (h : Sm (det4 m)) : Sm (det4 (bk m)) := h.dvd (bk_dvd dm)
theorem DS.aft (dm : det4 m ≠ 0) (dn : det4 n ≠ 0) (h : DS k (det4 m)) (q : DS l (det4 n)) : DS (k + l) (det4 (aft m n)) := ⟨aft_db dm dn h.b q.b, h.s.aft dm dn q.s⟩
theorem DS.bk (dm : det4 m ≠ 0) (h : DS k (det4 m)) : DS k (det4 (bk m)) := ⟨bk_db dm h.b, h.s.bk dm⟩
theorem DS.un (h : Un m) : DS 1 (det4 m) := by
  rcases h with q | q <;> rw [q]
  · exact ⟨by unfold Bd; decide, .one⟩
  · exact ⟨by unfold Bd; decide, .small (by decide) (by decide)⟩
theorem b3a (a : Int) (h : a.natAbs ≤ 4) : Bd 3 a := by unfold Bd; omega
theorem sm4 {a b c d : Int} (ha : a.natAbs ≤ 4) (hb : b.natAbs ≤ 4) (hc : c.natAbs ≤ 4) (hd : d.natAbs ≤ 4) (h : a * d - b * c ≠ 0) : Sm (a * d - b * c) := by
  refine .small h ?_
  have h1 : (a * d).natAbs ≤ 4 * 4 := by rw [Int.natAbs_mul]; exact Nat.mul_le_mul ha hd
  have h2 : (b * c).natAbs ≤ 4 * 4 := by rw [Int.natAbs_mul]; exact Nat.mul_le_mul hb hc
  omega
theorem wp_mvDS {k l : Nat} {a b c d : Int} {st : Store} {Q : RV → Store → Prop} (hb : BdM k ⟨a, b, c, d⟩) (h0 : a * d - b * c ≠ 0) (hd : DS l (a * d - b * c)) (hk : k ≤ 8000) (q : ∀ m, GM k m → DS l (det4 m) → Q ⟨false, .dat (eM m)⟩ st) : Wp (f__law_move [.dat (.int a), .dat (.int b), .dat (.int c), .dat (.int d)] st) Q := by
  rw [mv_ok a b c d st hb h0 hk]
  have d0 : det4 (⟨a, b, c, d⟩ : M4) ≠ 0 := h0
  have dv := nm_dvd d0
  have e : det4 (⟨a, b, c, d⟩ : M4) = a * d - b * c := rfl
  rw [e] at dv
  refine ⟨q _ (nm_gm hb h0) ⟨?_, hd.s.dvd dv⟩⟩
  have := Nat.le_of_dvd (by omega) (Int.natAbs_dvd_natAbs.mpr dv)
  have := hd.b
  unfold Bd at *
  omega
end
theorem wp_wholeU {st : Store} {Q : RV → Store → Prop} (h : IsSrc st) (k : ∀ m st', IsSrc st' → GM 13 m → Un m → Q ⟨false, .dat (eM m)⟩ st') : Wp (f__law_draw_whole [.loc 1] st) Q := by
  refine wp_fn rfl ?_
  simp! [b__law_draw_whole, b__law_draw_whole_1]
  refine wp_pick h (by decide) (by decide) fun x st h x0 x1 => ?_
  simp! [okR (i := 1 + x) (by omega) (by omega)]
  refine wps_forR (fun j env st => IsSrc st ∧ ∃ (m : M4) (s2 s3 s4 : Slot) (n : Nat), j = n ∧ n ≤ 4 ∧ GM (1 + 3 * n) m ∧ Un m ∧ env = [.val (.loc 1), .val (.dat (eM m)), s2, s3, s4]) ?_ ?_ _ 0 _ _ rfl ⟨h, one4, _, _, _, 0, rfl, by decide, GM.one, .one, rfl⟩
  · rintro j env st hj ⟨h, m, s2, s3, s4, n, rfl, hn, hm, um, rfl⟩
    refine ⟨_, rfl, ?_⟩
    simp! [b__law_draw_whole_1a]
    refine wp_pick h (by decide) (by decide) fun y st h y0 y1 => ?_
    simp! [b__law_draw_whole_1a_1, b__law_draw_whole_1a_2]
    refine wp_pick_ix h (by decide) (by decide) (by simp) fun d hd st h => ?_
    have hy : Bd 2 (y - 2) := bds (by omega)
    obtain ⟨w, rfl, hw, uw⟩ : ∃ w, d = eM w ∧ GM 2 w ∧ Un w := by
      simp at hd
      rcases hd with rfl | rfl | rfl | rfl
      · exact ⟨⟨1, y - 2, 0, 1⟩, rfl, ⟨bdM (bd1 _) hy (Bd.zero _) (bd1 _), by simp [det4], by simp [gcd4], by simp [fst4]⟩, .inl (by simp [det4])⟩
      · exact ⟨⟨0, 1, 1, y - 2⟩, rfl, ⟨bdM (Bd.zero _) (bd1 _) (bd1 _) hy, by simp [det4], by simp [gcd4], by simp [fst4]⟩, .inr (by simp [det4])⟩
      · exact ⟨⟨1, 0, 0, -1⟩, rfl, ⟨bdM (bds (by decide)) (bds (by decide)) (bds (by decide)) (bds (by decide)), by decide, by decide, by decide⟩, .inr (by decide)⟩
      · exact ⟨⟨1, -1, 1, 0⟩, rfl, ⟨bdM (bds (by decide)) (bds (by decide)) (bds (by decide)) (bds (by decide)), by decide, by decide, by decide⟩, .inl (by decide)⟩
    simp! [lA hm hw st (by omega)]
    exact ⟨h, _, _, _, _, n + 1, rfl, by omega, (hm.aft hw).up (by omega), um.aft uw, rfl⟩
  · rintro j env st hj ⟨h, m, s2, s3, s4, n, rfl, hn, hm, um, rfl⟩
    simp! [b__law_draw_whole_2]
    exact k m st h (hm.up (by omega)) um
theorem wp_gridS {st : Store} {Q : RV → Store → Prop} (h : IsSrc st) (k : ∀ m st', IsSrc st' → GM 6 m → DS 13 (det4 m) → Q ⟨false, .dat (eM m)⟩ st') : Wp (f__law_draw_grid [.loc 1] st) Q := by
  refine wp_fn rfl ?_
  simp! [b__law_draw_grid, ok2]
  refine wp_draw (fun i : Int => 1 ≤ i ∧ i ≤ 14) PyData.int h (fun d st h => ?_) (by simp [rangeUp_len]) fun xs st h hz hx => ?_
  · simp!
    refine wp_pick_ix h (by decide) (by decide) (by simp) fun d hd st h => ?_
    obtain ⟨i, rfl, hi⟩ : ∃ i, d = .int i ∧ 1 ≤ i ∧ i ≤ 14 := by
      simp at hd
      rcases hd with rfl | rfl | rfl | rfl | rfl | rfl | rfl | rfl <;> exact ⟨_, rfl, by decide, by decide⟩
    simp!
    exact ⟨h, i, hi, rfl⟩
  rw [rangeUp_len] at hz
  obtain ⟨a, d, rfl⟩ : ∃ a d, xs = [a, d] := by
    match xs, hz with
    | [a, d], _ => exact ⟨a, d, rfl⟩
  simp at hx
  obtain ⟨⟨a0, a1⟩, d0, d1⟩ := hx
  have sad : Sm (a * d) := (Sm.small (by omega) (by omega)).mul (Sm.small (by omega) (by omega))
  have ha : Bd 5 a := by unfold Bd; omega
  have hd : Bd 5 d := by unfold Bd; omega
  simp! [b__law_draw_grid_1]
  refine wp_pick h (by decide) (by decide) fun x st h x0 x1 => ?_
  simp!
  refine wp_if (fun _ => ?_) fun _ => ?_
  · simp!
    refine wp_pick h (by decide) (by decide) fun y st h y0 y1 => ?_
    simp!
    refine wp_mvDS (k := 6) (l := 13) (bdM (ha.up (by decide)) (bds (by omega)) (Bd.zero _) (hd.up (by decide))) (by simp; omega) (by rw [show a * d - y * 0 = a * d by omega]; exact ⟨(ha.mul hd).up (by decide), sad⟩) (by decide) fun w hw sw => ?_
    exact ⟨k w _ h hw sw⟩
  · simp! [bm_s (show a.natAbs < 2 ^ 64 by omega)]
    refine wp_mvDS (k := 6) (l := 13) (bdM (ha.up (by decide)) (bd1 _) (bds (by omega)) (bds (by omega))) ?_ ?_ (by decide) fun w hw sw => ?_
    · have : a * (2 + d) - 1 * (a * 2) = a * d := by grind
      rw [this]
      exact Int.mul_ne_zero (by omega) (by omega)
    · have : a * (2 + d) - 1 * (a * 2) = a * d := by grind
      rw [this]
      exact ⟨(ha.mul hd).up (by decide), sad⟩
    exact ⟨k w _ h hw sw⟩
theorem move_tailS {s2 s3 s5 s6 s7 s8 : Slot} {p : Int} {m : M4} {st : Store} {Q : RV → Store → Prop} (h : IsSrc st) (hp : P4 p) (hm : GM 6 m) (hd : DS 8 (det4 m)) (k : ∀ m st', IsSrc st' → GM 14 m → DS 14 (det4 m) → Q ⟨false, .dat (eM m)⟩ st') :
    WpS (evSs b__law_draw_move_2 [.val (.loc 1), .val (.dat (.int p)), s2, s3, .val (.dat (eM m)), s5, s6, s7, s8] st) ⟨fun _ st => Q ⟨false, .dat .none⟩ st, Q, noO, noO⟩ := by
  simp! [b__law_draw_move_2]
  refine wp_pick h (by decide) (by decide) fun x st1 h1 x0 x1 => ?_
  simp!
  refine wps_if (fun hc => ?_) fun hc => ?_
  · simp! [b__law_draw_move_2a]
    refine wp_pick h1 (by decide) (by decide) fun y st2 h2 y0 y1 => ?_
    simp!
    refine wp_raised hp y0 (by omega) ?_
    simp!
    refine wp_pick h2 (by decide) (by decide) fun z st3 h3 z0 z1 => ?_
    simp!
    have hq : Bd 3 (p ^ y.toNat) ∧ p ^ y.toNat ≠ 0 := by
      have e : y.toNat = 0 ∨ y.toNat = 1 := by omega
      rcases e with e | e <;> rw [e]
      · exact ⟨by rw [Int.pow_zero]; unfold Bd; decide, by rw [Int.pow_zero]; decide⟩
      · rw [Int.pow_succ, Int.pow_zero, Int.one_mul]
        exact ⟨hp.bd, by have := hp.pp.two; omega⟩
    have hz : Bd 3 (z - 2) := by unfold Bd; omega
    refine wp_mvDS (k := 3) (l := 3) ⟨hq.1, hz, Bd.zero _, bd1 _⟩ (by simpa using hq.2) (by simpa using DS.mk hq.1 ((Sm.pp1 hp.pp).pow _)) (by decide) fun w hw hwd => ?_
    simp! [b__law_draw_move_2a_1, law_back_ok w st3 hw.b hw.d (by decide), law_after_ok m (bk w) st3 hm.b (hw.bk).b hm.d (hw.bk).d (by decide), law_after_ok w (aft m (bk w)) st3 hw.b (hm.aft hw.bk).b hw.d (hm.aft hw.bk).d (by decide), b__law_draw_move_3]
    exact k _ _ h3 ((hw.aft (hm.aft hw.bk)).up (by decide)) ((DS.aft hw.d (hm.aft hw.bk).d hwd (DS.aft hm.d hw.bk.d hd (DS.bk hw.d hwd))).up (by decide))
  · simp! [b__law_draw_move_3]
    exact k _ _ h1 (hm.up (by decide)) (hd.up (by decide))
theorem wp_moveS {p : Int} {st : Store} {Q : RV → Store → Prop} (h : IsSrc st) (hp : P4 p) (k : ∀ m st', IsSrc st' → GM 14 m → DS 14 (det4 m) → Q ⟨false, .dat (eM m)⟩ st') : Wp (f__law_draw_move [.loc 1, .dat (.int p)] st) Q := by
  refine wp_fn rfl ?_
  simp! [b__law_draw_move]
  refine wp_pick h (by decide) (by decide) fun x st1 h1 x0 x1 => ?_
  simp!
  refine wp_pick h1 (by decide) (by decide) fun y st2 h2 y0 y1 => ?_
  simp! [b__law_draw_move_1]
  have hb : Bd 6 (p * p) ∧ Bd 3 p ∧ p ≠ 0 ∧ p * p ≠ 0 ∧ Bd 3 (-p) := by
    have h2 := hp.pp.two
    exact ⟨hp.bd.mul hp.bd, hp.bd, by omega, Int.mul_ne_zero (by omega) (by omega), hp.bd.neg⟩
  obtain ⟨b1, b2, b3, b4, b5⟩ := hb
  have b6 : bin .mul (.int p) (.int p) = some (false, .int (p * p)) := bm_s (by have := hp.bd; unfold Bd at this; omega)
  have hy : Bd 3 (y - 4) := by unfold Bd; omega
  have hy2 : (y - 4).natAbs < 2 ^ 64 := by omega
  refine wps_if (fun hc => ?_) fun hc => ?_
  · simp! [b__law_draw_move_1a]
    refine wp_pick_ix h2 (by decide) (by decide) (by simp) fun d hd st3 h3 => ?_
    obtain ⟨t, rfl, ht⟩ : ∃ t, d = .int t ∧ Bd 3 t := by
      simp at hd
      rcases hd with rfl | rfl
      · exact ⟨_, rfl, bd1 _⟩
      · exact ⟨_, rfl, b2⟩
    simp! [bm_s hy2, b6]
    refine wp_pick_ix h3 (by decide) (by decide) (by simp) fun d hd st4 h4 => ?_
    obtain ⟨u, rfl, hu, u0, su⟩ : ∃ t, d = .int t ∧ Bd 6 t ∧ t ≠ 0 ∧ Sm t := by
      simp at hd
      rcases hd with rfl | rfl | rfl
      · exact ⟨_, rfl, bd1 _, by decide, .one⟩
      · exact ⟨_, rfl, Bd.up (k := 3) b2 (by decide), b3, .pp1 hp.pp⟩
      · exact ⟨_, rfl, b1, b4, (Sm.pp1 hp.pp).mul (.pp1 hp.pp)⟩
    simp!
    refine wp_mvDS (k := 6) (l := 8) ⟨bd1 _, (hy.mul ht).up (by decide), Bd.zero _, hu⟩ (by simpa using u0) (by simpa using DS.mk (hu.up (l := 8) (by decide)) su) (by decide) fun w hw hwd => ?_
    simp!
    exact move_tailS h4 hp hw hwd k
  · simp! [b__law_draw_move_1b]
    refine wps_if (fun hc => ?_) fun hc => ?_
    · simp! [b__law_draw_move_1b_0a]
      refine wp_pick h2 (by decide) (by decide) fun z st3 h3 z0 z1 => ?_
      simp!
      refine wp_raised hp z0 (by omega) ?_
      simp!
      refine wp_pick_ix h3 (by decide) (by decide) (by simp) fun d hd st4 h4 => ?_
      obtain ⟨u, rfl, hu, u0, su⟩ : ∃ t, d = .int t ∧ Bd 2 t ∧ t ≠ 0 ∧ Sm t := by
        simp at hd
        rcases hd with rfl | rfl | rfl | rfl <;> exact ⟨_, rfl, by unfold Bd; decide, by decide, .small (by decide) (by decide)⟩
      simp!
      have hq := raised_cases hp z.toNat (by omega)
      refine wp_mvDS (k := 6) (l := 8) ⟨hq.1, Bd.zero _, Bd.zero _, hu.up (by decide)⟩ (by simpa using ⟨hq.2, u0⟩) (by simpa using DS.mk (hq.1.mul hu) (((Sm.pp1 hp.pp).pow _).mul su)) (by decide) fun w hw hwd => ?_
      simp!
      exact move_tailS h4 hp (hw.up (by decide)) hwd k
    · simp! [b__law_draw_move_1b_0b]
      refine wps_if (fun hc => ?_) fun hc => ?_
      · simp! [b__law_draw_move_1b_0b_0a]
        refine wp_pick_ix h2 (by decide) (by decide) (by simp) fun d hd st4 h4 => ?_
        obtain ⟨u, rfl, hu, u0, su⟩ : ∃ t, d = .int t ∧ Bd 3 t ∧ t ≠ 0 ∧ Sm t := by
          simp at hd
          rcases hd with rfl | rfl | rfl | rfl
          · exact ⟨_, rfl, bd1 _, by decide, .one⟩
          · exact ⟨_, rfl, b2, b3, .pp1 hp.pp⟩
          · exact ⟨_, rfl, by unfold Bd; decide, by decide, .small (by decide) (by decide)⟩
          · exact ⟨_, rfl, b5, by omega, (Sm.pp1 hp.pp).neg⟩
        simp!
        refine wp_mvDS (k := 3) (l := 8) ⟨Bd.zero _, hu, bd1 _, hy.up (by decide)⟩ (by simpa using u0) (by simpa using DS.mk (hu.neg.up (l := 8) (by decide)) su.neg) (by decide) fun w hw hwd => ?_
        simp!
        exact move_tailS h4 hp (hw.up (by decide)) hwd k
      · simp! [b__law_draw_move_1b_0b_0b, show rngOk 4 = true by decide]
        refine wp_draw (fun a : Int => a.natAbs ≤ 4) PyData.int h2 (fun d st h => ?_) (by simp [rangeUp_len]) fun xs st3 h3 hz hx => ?_
        · simp!
          refine wp_pick h (by decide) (by decide) fun z st3 h3 z0 z1 => ?_
          simp!
          exact ⟨h3, z - 4, by omega, rfl⟩
        · rw [rangeUp_len] at hz
          obtain ⟨a, b, c, d, rfl⟩ : ∃ a b c d, xs = [a, b, c, d] := by
            match xs, hz with
            | [a, b, c, d], _ => exact ⟨a, b, c, d, rfl⟩
          simp at hx
          obtain ⟨ha, hb, hc', hd⟩ := hx
          simp! [b__law_draw_move_1b_0b_0b_1, bm_s (show a.natAbs < 2 ^ 64 by omega), bm_s (show b.natAbs < 2 ^ 64 by omega), b__law_draw_move_1b_0b_0b_2]
          refine wp_if (fun he => ?_) fun he => ?_
          · refine wp_mvDS (k := 3) (l := 8) ⟨bd1 _, hy, Bd.zero _, bd1 _⟩ (by simp) (by simpa using DS.mk (bd1 7) .one) (by decide) fun w hw hwd => ?_
            simp!
            exact move_tailS h3 hp (hw.up (by decide)) hwd k
          · have he := of_decide_eq_false he
            refine wp_mvDS (k := 3) (l := 8) ⟨b3a a ha, b3a b hb, b3a c hc', b3a d hd⟩ (by omega) ⟨((b3a a ha).mul (b3a d hd)).sub' ((b3a b hb).mul (b3a c hc')) |>.up (by decide), sm4 ha hb hc' hd (by omega)⟩ (by decide) fun w hw hwd => ?_
            simp!
            exact move_tailS h3 hp (hw.up (by decide)) hwd k
end
section
def n_law : List Str := ["_law_script", "_law_source", "_law_lap", "_law_t", "_law_told", "_law_a", "_law_b", "_law_c", "_law_d", "_law_other", "_law_pairs", "_law_far", "_law_p"]
def b_law_2 : Sms := (.cons (.ret (.and (.cmp .eq (.call "grid_form" f_grid_form (.cons (.tup (.cons (.cst (.int 0)) (.cons (.cst (.int 1)) (.cons (.cst (.int 1)) (.cons (.cst (.int 0)) .nil))))) .nil)) (.tup (.cons (.cst (.int 1)) (.cons (.cst (.int 0)) (.cons (.cst (.int 0)) (.cons (.cst (.int 1)) .nil)))))) (.cmp .eq (.call "grid_form" f_grid_form (.cons (.tup (.cons (.cst (.int 3)) (.cons (.cst (.int 1)) (.cons (.cst (.int 1)) (.cons (.cst (.int 2)) .nil))))) .nil)) (.tup (.cons (.cst (.int 5)) (.cons (.cst (.int 3)) (.cons (.cst (.int 0)) (.cons (.cst (.int 1)) .nil)))))))) .nil)
def b_law_1a_11a : Sms := (.cons (.ret (.cst (.bool false))) .nil)
def b_law_1a_11 : Sms := (.cons (.ite (.cmp .ne (.cmp .eq (.call "grid_form" f_grid_form (.cons (.var 11) .nil)) (.var 4)) (.call "is_same_grid" f_is_same_grid (.cons (.var 11) (.cons (.var 3) .nil)))) b_law_1a_11a .nil) .nil)
def b_law_1a_10 : Sms := (.cons (.set 11 false (.call "_law_draw_grid" f__law_draw_grid (.cons (.var 1) .nil))) b_law_1a_11)
def b_law_1a_9a : Sms := (.cons (.ret (.cst (.bool false))) .nil)
def b_law_1a_9 : Sms := (.cons (.ite (.cmp .ne (.call "grid_of" f_grid_ofY (.cons (.var 10) .nil)) (.var 4)) b_law_1a_9a .nil) b_law_1a_10)
def b_law_1a_8 : Sms := (.cons (.set 10 false (.comp (.tup (.cons (.var 12) (.cons (.call "_law_led" f__law_led (.cons (.var 12) (.cons (.var 3) (.cons (.call "_law_start" f__law_start .nil) .nil)))) .nil))) [("_law_p", 12)] (.nm 12) (.seq (.call "_law_primes_of" f__law_primes_of (.cons (.call "_law_size" f__law_size (.cons (.var 3) .nil)) .nil))) .non)) b_law_1a_9)
def b_law_1a_7a : Sms := (.cons (.ret (.cst (.bool false))) .nil)
def b_law_1a_7 : Sms := (.cons (.ite (.or (.cmp .ne (.call "grid_form" f_grid_form (.cons (.var 9) .nil)) (.var 4)) (.not (.call "is_same_grid" f_is_same_grid (.cons (.var 9) (.cons (.var 4) .nil))))) b_law_1a_7a .nil) b_law_1a_8)
def b_law_1a_6 : Sms := (.cons (.set 9 false (.call "_law_after" f__law_after (.cons (.var 3) (.cons (.call "_law_draw_whole" f__law_draw_whole (.cons (.var 1) .nil)) .nil)))) b_law_1a_7)
def b_law_1a_5a : Sms := (.cons (.ret (.cst (.bool false))) .nil)
def b_law_1a_5 : Sms := (.cons (.ite (.or (.not (.call "_law_is_whole" f__law_is_whole (.cons (.call "_law_after" f__law_after (.cons (.call "_law_back" f__law_back (.cons (.var 3) .nil)) (.cons (.var 4) .nil))) .nil))) (.cmp .ne (.call "grid_form" f_grid_form (.cons (.var 4) .nil)) (.var 4))) b_law_1a_5a .nil) b_law_1a_6)
def b_law_1a_4a : Sms := (.cons (.ret (.cst (.bool false))) .nil)
def b_law_1a_4 : Sms := (.cons (.ite (.or (.cmp .ne (.var 7) (.cst (.int 0))) (.or (.not (.chain .le .lt (.cst (.int 0)) (.var 6) (.var 5))) (.or (.cmp .lt (.var 8) (.cst (.int 1))) (.cmp .ne (.blt .repr (.cons (.var 4) .nil)) (.blt .repr (.cons (.call "_law_move" f__law_move (.cons (.var 5) (.cons (.var 6) (.cons (.var 7) (.cons (.var 8) .nil))))) .nil)))))) b_law_1a_4a .nil) b_law_1a_5)
def b_law_1a_3 : Sms := (.cons (.setT (.cons (.nm 5) (.cons (.nm 6) (.cons (.nm 7) (.cons (.nm 8) .nil)))) (.var 4)) b_law_1a_4)
def b_law_1a_2 : Sms := (.cons (.set 4 false (.call "grid_form" f_grid_form (.cons (.var 3) .nil))) b_law_1a_3)
def b_law_1a_1a : Sms := (.cons (.set 3 false (.call "_law_draw_move" f__law_draw_move (.cons (.var 1) (.cons (.call "_law_draw_prime" f__law_draw_prime (.cons (.var 1) .nil)) .nil)))) .nil)
def b_law_1a_1 : Sms := (.cons (.ite (.cmp .eq (.call "_law_pick" f__law_pick (.cons (.var 1) (.cons (.cst (.int 3)) .nil))) (.cst (.int 0))) b_law_1a_1a .nil) b_law_1a_2)
def b_law_1a : Sms := (.cons (.set 3 false (.call "_law_after" f__law_after (.cons (.call "_law_draw_grid" f__law_draw_grid (.cons (.var 1) .nil)) (.cons (.call "_law_draw_whole" f__law_draw_whole (.cons (.var 1) .nil)) .nil)))) b_law_1a_1)
def b_law_1 : Sms := (.cons (.forr (.nm 2) (.rng1 (.cst (.int 6))) b_law_1a) b_law_2)
def b_law : Sms := (.cons (.set 1 false (.call "_law_open_cells" f__law_open_cells (.cons (.var 0) .nil))) b_law_1)
def f_law : Fn := fnOf 1 13 b_law
def r_law : List Req := [.fn "_law_open_cells" f__law_open_cells, .non "range", .fn "_law_after" f__law_after, .fn "_law_draw_grid" f__law_draw_grid, .fn "_law_draw_whole" f__law_draw_whole, .fn "_law_pick" f__law_pick, .fn "_law_draw_move" f__law_draw_move, .fn "_law_draw_prime" f__law_draw_prime, .fn "grid_form" f_grid_form, .non "repr", .fn "_law_move" f__law_move, .fn "_law_is_whole" f__law_is_whole, .fn "_law_back" f__law_back, .fn "is_same_grid" f_is_same_grid, .fn "_law_primes_of" f__law_primes_of, .fn "_law_size" f__law_size, .fn "_law_led" f__law_led, .fn "_law_start" f__law_start, .fn "grid_of" f_grid_ofY]
theorem q_law : rqSs b_law = [0, 1, 2, 3, 4, 5, 6, 7, 8, 9, 9, 10, 11, 2, 12, 8, 2, 4, 8, 13, 14, 15, 16, 17, 18, 3, 8, 13, 8, 8].map fun i => r_law.getD i (.non "") := rfl
end
section
section
variable {t u w : M4} {k : Nat} {st : Store}
theorem sg_same (ht : Mv t) (hu : Mv u) (ft : HF (gf t)) (st' : sg t (gf t)) (fu : HF (gf u)) (su : sg u (gf u)) : gf u = gf t ↔ sg u t := by
  constructor
  · intro e
    exact su.trans hu fu.mv ht (by rw [e]; exact st'.symm ht ft.mv)
  · intro h
    exact gf_is hu ft (h.trans hu ht ft.mv st')
theorem gf_bd (ht : GM k t) (h : HF (gf t)) (q : sg t (gf t)) : GM (2 * k + 1) (gf t) := h.gm ht (q.det ⟨ht.d, ht.f⟩ h.mv)
end
theorem hf1 : HF one4 := ⟨rfl, by decide, by decide, by decide, by decide, by decide⟩
theorem hf2 : HF ⟨5, 3, 0, 1⟩ := ⟨rfl, by decide, by decide, by decide, by decide, by decide⟩
theorem prsQ {p : Int} : PyData.tuple [.int p, eB (ledB p t b00)] = eQ (p, ledB p t b00) := rfl
theorem cmp_bb (a b : Bool) : cmpD .ne (.bool a) (.bool b) = some (a != b) := by cases a <;> cases b <;> rfl
theorem rest56 {O : Outs} {ns : List Int} {s2 s4 s5 s6 s7 s8 s9 s10 s11 s12 : Slot} {t : M4} {st : Store} (h : IsSrc st) (ht : GM 20 t) (ds : DS 19 (det4 t)) (hO : ∀ st s4 s5 s6 s7 s8 s9 s10 s11 s12, IsSrc st → O.nx [.val (.dat (scriptD ns)), .val (.loc 1), s2, .val (.dat (eM t)), s4, s5, s6, s7, s8, s9, s10, s11, s12] st) :
    WpS (evSs b_law_1a_2 [.val (.dat (scriptD ns)), .val (.loc 1), s2, .val (.dat (eM t)), s4, s5, s6, s7, s8, s9, s10, s11, s12] st) O := by
  have mt : Mv t := ⟨ht.d, ht.f⟩
  obtain ⟨ft, qt⟩ := gf_ok ht (by decide)
  have gt := gf_bd ht ft qt
  have e0 := grid_form_ok ht st
  have e1 := grid_form_ok gt st
  rw [gf_is ft.mv ft (sg.refl ft.mv)] at e1
  have mv := mv_ok (k := 41) (gf t).a (gf t).b (gf t).c (gf t).d st gt.b ft.mv.d (by decide)
  rw [show (⟨(gf t).a, (gf t).b, (gf t).c, (gf t).d⟩ : M4) = gf t from rfl, nm_self ft.f ft.mv.d] at mv
  have rp := (eM_sz gt.b (by decide)).repr (by decide) (by decide)
  have w1 := law_is_whole_ok st (ht.bk.aft gt)
  rw [whB_iff.mpr qt] at w1
  have pr := law_primes_ok (det4 t) st
  have go := grid_of_prs ht ds.s (by decide) st
  simp! [b_law_1a_2, e0, b_law_1a_3, b_law_1a_4, mv, rp, decide_eq_true ft.c, decide_eq_true ft.b0, decide_eq_true ft.b1, decide_eq_false (show ¬ (gf t).d < 1 by have := ft.d; omega), b_law_1a_5, lB ht st, lA ht.bk gt st, w1, e1, b_law_1a_6]
  refine wp_wholeU h fun w st h hw uw => ?_
  have mw : Mv w := ⟨hw.d, hw.f⟩
  have o := ht.aft hw
  obtain ⟨fo, qo⟩ := gf_ok o (by decide)
  have e2 := grid_form_ok o st
  have so := sg.behind mt mw uw
  rw [gf_is o.mv ft ((so.symm mt o.mv).trans o.mv mt ft.mv qt)] at e2
  have w2 := same_grid_ok st o gt (by decide)
  rw [whB_iff.mpr (show Un (aft (bk (aft t w)) (gf t)) from (so.symm mt o.mv).trans o.mv mt ft.mv qt)] at w2
  have ls := law_size_ok t st ht.b (by decide)
  have pr := law_primes_ok (det4 t) st
  simp! [lA ht hw st, b_law_1a_7, e2, w2, b_law_1a_8, ls, pr]
  refine wp_compM PyData.int (fun p => eQ (p, ledB p t b00)) (fun p hp => ?_) (Nat.le_trans pls_len (by decide)) ?_
  · have l := law_led00 (pls_mem.mp hp).1 ht (by decide) st (by decide)
    have st0 : f__law_start [] st = .ok ⟨false, .dat (eB b00)⟩ st := by
      refine fn_eq rfl ?_
      simp! [b__law_start]
      rfl
    simp! [st0, l, prsQ]
    exact ⟨by trivial, by trivial⟩
  have go := grid_of_prs ht ds.s (by decide) st
  have em : (pls (det4 t)).map (fun p => eQ (p, ledB p t b00)) = (prs t).map eQ := by
    unfold prs
    rw [List.map_map]
    rfl
  simp! [em, b_law_1a_9, go, b_law_1a_10]
  refine wp_gridS h fun f st h hf df => ?_
  obtain ⟨ff, qf⟩ := gf_ok hf (by decide)
  have e3 := grid_form_ok hf st
  have w3 := same_grid_ok st hf ht (by decide)
  have : whB (aft (bk f) t) = decide (gf f = gf t) := by
    rw [whB_un]
    exact decide_eq_decide.mpr (sg_same mt hf.mv ft qt ff qf).symm
  rw [this] at w3
  simp! [b_law_1a_11, e3, w3, cmp_bb, bne_self_eq_false]
  exact hO _ _ _ _ _ _ _ _ _ _ h
theorem law_true (ns : List Int) (hn : ns.length ≤ 63) : ∃ fr st, f_law [.dat (scriptD ns)] [] = .ok ⟨fr, .dat (.bool true)⟩ st := by
  refine law_of_wp (wp_fn rfl ?_)
  simp! [b_law]
  refine wp_cells hn fun st h => ?_
  simp! [b_law_1, ok6]
  refine wps_forI (fun env st => IsSrc st ∧ ∃ s2 s3 s4 s5 s6 s7 s8 s9 s10 s11 s12, env = [.val (.dat (scriptD ns)), .val (.loc 1), s2, s3, s4, s5, s6, s7, s8, s9, s10, s11, s12]) ⟨h, _, _, _, _, _, _, _, _, _, _, _, rfl⟩ ?_ ?_
  · rintro d env st hd ⟨h, s2, s3, s4, s5, s6, s7, s8, s9, s10, s11, s12, rfl⟩
    refine ⟨_, rfl, ?_⟩
    simp! [b_law_1a]
    refine wp_gridS h fun t st h ht dt => ?_
    simp!
    refine wp_wholeU h fun w st h hw uw => ?_
    simp! [lA ht hw st, b_law_1a_1]
    refine wp_pick h (by decide) (by decide) fun x st h x0 x1 => ?_
    simp!
    refine wps_if (fun _ => ?_) fun _ => ?_
    · simp! [b_law_1a_1a]
      refine wp_prime h fun p st h hp => ?_
      simp!
      refine wp_moveS h hp fun m st h hm dm => ?_
      simp!
      exact rest56 h (hm.up (by decide)) (dm.up (by decide)) fun st _ _ _ _ _ _ _ _ _ h => ⟨h, _, _, _, _, _, _, _, _, _, _, _, rfl⟩
    · simp!
      exact rest56 h (ht.aft hw) ((DS.aft ht.d hw.d dt (DS.un uw)).up (by decide)) fun st _ _ _ _ _ _ _ _ _ h => ⟨h, _, _, _, _, _, _, _, _, _, _, _, rfl⟩
  · rintro env st ⟨h, s2, s3, s4, s5, s6, s7, s8, s9, s10, s11, s12, rfl⟩
    have g1 := grid_form_ok (k := 1) (t := ⟨0, 1, 1, 0⟩) ⟨⟨bds (by decide), bds (by decide), bds (by decide), bds (by decide)⟩, by decide, by decide, by decide⟩ st
    have g2 := grid_form_ok (k := 3) (t := ⟨3, 1, 1, 2⟩) ⟨⟨bds (by decide), bds (by decide), bds (by decide), bds (by decide)⟩, by decide, by decide, by decide⟩ st
    rw [gf_is (g := one4) ⟨by decide, by decide, by decide⟩ hf1 (whB_iff.mp (by decide))] at g1
    rw [gf_is (g := ⟨5, 3, 0, 1⟩) ⟨by decide, by decide, by decide⟩ hf2 (whB_iff.mp (by decide))] at g2
    have g1 : f_grid_form [.dat (.tuple [.int 0, .int 1, .int 1, .int 0])] st = _ := g1
    have g2 : f_grid_form [.dat (.tuple [.int 3, .int 1, .int 1, .int 2])] st = _ := g2
    simp! [b_law_2, g1, g2, show (PyData.tuple [.int 1, .int 0, .int 0, .int 1]) = eM one4 from rfl, show (PyData.tuple [.int 5, .int 3, .int 0, .int 1]) = eM ⟨5, 3, 0, 1⟩ from rfl, decide_eq_true (rfl : one4 = one4), decide_eq_true (rfl : (⟨5, 3, 0, 1⟩ : M4) = ⟨5, 3, 0, 1⟩)]
end
end MK
namespace MK
open PySem PySem.Spec PyProof.Rows L2 MP
def topS (i : Nat) : Stmt := PySem.Challenge.pw_ballmoves_k56_forms_of_grids.main.body.getD i (.Pass ⟨0, 0, 0, 0⟩)
abbrev s__law_open_cells : Stmt := topS 17
abbrev s__law_common : Stmt := topS 19
abbrev s__law_move : Stmt := topS 27
abbrev s__law_after : Stmt := topS 28
abbrev s_in_form : Stmt := topS 6
abbrev s_grid_form : Stmt := topS 14
abbrev s__law_pick : Stmt := topS 18
abbrev s__law_draw_grid : Stmt := topS 38
abbrev s__law_draw_whole : Stmt := topS 37
abbrev s__law_raised : Stmt := topS 16
abbrev s__law_back : Stmt := topS 29
abbrev s__law_draw_move : Stmt := topS 33
abbrev s_raised : Stmt := topS 3
abbrev s_inverse : Stmt := topS 4
abbrev s_split_off : Stmt := topS 2
abbrev s_grid_of : Stmt := topS 13
abbrev s_size : Stmt := topS 7
abbrev s_is_whole : Stmt := topS 11
abbrev s_after : Stmt := topS 8
abbrev s_back : Stmt := topS 9
abbrev s_is_same_grid : Stmt := topS 12
abbrev s__law_draw_prime : Stmt := topS 32
abbrev s__law_size : Stmt := topS 30
abbrev s__law_is_whole : Stmt := topS 34
abbrev s__law_fraction : Stmt := topS 20
abbrev s__law_product : Stmt := topS 22
abbrev s__law_sum : Stmt := topS 21
abbrev s__law_parts : Stmt := topS 23
abbrev s__law_turned : Stmt := topS 25
abbrev s__law_ball : Stmt := topS 26
abbrev s__law_power : Stmt := topS 24
abbrev s__law_led : Stmt := topS 31
abbrev s__law_primes_of : Stmt := topS 36
abbrev s__law_start : Stmt := topS 35
abbrev s_law : Stmt := topS 39
abbrev v__law_open_cells : List Str := ["_law_script", "_law_mixed", "_law_cell", "_law_cells"]
theorem t__law_open_cells : FnScope v__law_open_cells ["_law_script"] (defScope s__law_open_cells) := ⟨rfl, rfl, rfl, by decide +kernel, rfl, by decide +kernel, by decide +kernel⟩
theorem m__law_open_cells : mSs v__law_open_cells b__law_open_cells (defScope s__law_open_cells) (defBody s__law_open_cells) = true := by decide +kernel
abbrev v__law_common : List Str := ["_law_a", "_law_b"]
theorem t__law_common : FnScope v__law_common ["_law_a", "_law_b"] (defScope s__law_common) := ⟨rfl, rfl, rfl, by decide +kernel, rfl, by decide +kernel, by decide +kernel⟩
theorem m__law_common : mSs v__law_common b__law_common (defScope s__law_common) (defBody s__law_common) = true := by decide +kernel
abbrev v__law_move : List Str := ["_law_a", "_law_b", "_law_c", "_law_d", "_law_divisor", "_law_first", "_law_x"]
theorem t__law_move : FnScope v__law_move ["_law_a", "_law_b", "_law_c", "_law_d"] (defScope s__law_move) := ⟨rfl, rfl, rfl, by decide +kernel, rfl, by decide +kernel, by decide +kernel⟩
theorem m__law_move : mSs v__law_move b__law_move (defScope s__law_move) (defBody s__law_move) = true := by decide +kernel
abbrev v__law_after : List Str := ["_law_one", "_law_other", "_law_a", "_law_b", "_law_c", "_law_d", "_law_e", "_law_f", "_law_g", "_law_h"]
theorem t__law_after : FnScope v__law_after ["_law_one", "_law_other"] (defScope s__law_after) := ⟨rfl, rfl, rfl, by decide +kernel, rfl, by decide +kernel, by decide +kernel⟩
theorem m__law_after : mSs v__law_after b__law_after (defScope s__law_after) (defBody s__law_after) = true := by decide +kernel
abbrev v_in_form : List Str := ["row", "divisor", "first", "one"]
theorem t_in_form : FnScope v_in_form ["row"] (defScope s_in_form) := ⟨rfl, rfl, rfl, by decide +kernel, rfl, by decide +kernel, by decide +kernel⟩
theorem m_in_form : mSs v_in_form b_in_form (defScope s_in_form) (defBody s_in_form) = true := by decide +kernel
abbrev v_grid_form : List Str := ["t", "one", "other", "sign", "wide", "times"]
theorem t_grid_form : FnScope v_grid_form ["t"] (defScope s_grid_form) := ⟨rfl, rfl, rfl, by decide +kernel, rfl, by decide +kernel, by decide +kernel⟩
theorem m_grid_form : mSs v_grid_form b_grid_form (defScope s_grid_form) (defBody s_grid_form) = true := by decide +kernel
abbrev v__law_pick : List Str := ["_law_source", "_law_most", "_law_cells", "_law_left", "_law_turn", "_law_mixed"]
theorem t__law_pick : FnScope v__law_pick ["_law_source", "_law_most"] (defScope s__law_pick) := ⟨rfl, rfl, rfl, by decide +kernel, rfl, by decide +kernel, by decide +kernel⟩
theorem m__law_pick : mSs v__law_pick b__law_pick (defScope s__law_pick) (defBody s__law_pick) = true := by decide +kernel
abbrev v__law_draw_grid : List Str := ["_law_source", "_law_a", "_law_d", "_law_k"]
theorem t__law_draw_grid : FnScope v__law_draw_grid ["_law_source"] (defScope s__law_draw_grid) := ⟨rfl, rfl, rfl, by decide +kernel, rfl, by decide +kernel, by decide +kernel⟩
theorem m__law_draw_grid : mSs v__law_draw_grid b__law_draw_grid (defScope s__law_draw_grid) (defBody s__law_draw_grid) = true := by decide +kernel
abbrev v__law_draw_whole : List Str := ["_law_source", "_law_found", "_law_lap", "_law_n", "_law_some"]
theorem t__law_draw_whole : FnScope v__law_draw_whole ["_law_source"] (defScope s__law_draw_whole) := ⟨rfl, rfl, rfl, by decide +kernel, rfl, by decide +kernel, by decide +kernel⟩
theorem m__law_draw_whole : mSs v__law_draw_whole b__law_draw_whole (defScope s__law_draw_whole) (defBody s__law_draw_whole) = true := by decide +kernel
abbrev v__law_raised : List Str := ["_law_p", "_law_n", "_law_found", "_law_lap"]
theorem t__law_raised : FnScope v__law_raised ["_law_p", "_law_n"] (defScope s__law_raised) := ⟨rfl, rfl, rfl, by decide +kernel, rfl, by decide +kernel, by decide +kernel⟩
theorem m__law_raised : mSs v__law_raised b__law_raised (defScope s__law_raised) (defBody s__law_raised) = true := by decide +kernel
abbrev v__law_back : List Str := ["_law_m"]
theorem t__law_back : FnScope v__law_back ["_law_m"] (defScope s__law_back) := ⟨rfl, rfl, rfl, by decide +kernel, rfl, by decide +kernel, by decide +kernel⟩
theorem m__law_back : mSs v__law_back b__law_back (defScope s__law_back) (defBody s__law_back) = true := by decide +kernel
abbrev v__law_draw_move : List Str := ["_law_source", "_law_p", "_law_way", "_law_n", "_law_found", "_law_pushed", "_law_some", "_law_is_one", "_law_lap"]
theorem t__law_draw_move : FnScope v__law_draw_move ["_law_source", "_law_p"] (defScope s__law_draw_move) := ⟨rfl, rfl, rfl, by decide +kernel, rfl, by decide +kernel, by decide +kernel⟩
theorem m__law_draw_move : mSs v__law_draw_move b__law_draw_move (defScope s__law_draw_move) (defBody s__law_draw_move) = true := by decide +kernel
abbrev v_raised : List Str := ["n", "times", "found", "lap"]
theorem t_raised : FnScope v_raised ["n", "times"] (defScope s_raised) := ⟨rfl, rfl, rfl, by decide +kernel, rfl, by decide +kernel, by decide +kernel⟩
theorem m_raised : mSs v_raised b_raised (defScope s_raised) (defBody s_raised) = true := by decide +kernel
abbrev v_inverse : List Str := ["n", "whole", "one", "other", "here", "there", "times"]
theorem t_inverse : FnScope v_inverse ["n", "whole"] (defScope s_inverse) := ⟨rfl, rfl, rfl, by decide +kernel, rfl, by decide +kernel, by decide +kernel⟩
theorem m_inverse : mSs v_inverse b_inverse (defScope s_inverse) (defBody s_inverse) = true := by decide +kernel
abbrev v_split_off : List Str := ["p", "n", "many"]
theorem t_split_off : FnScope v_split_off ["p", "n"] (defScope s_split_off) := ⟨rfl, rfl, rfl, by decide +kernel, rfl, by decide +kernel, by decide +kernel⟩
theorem m_split_off : mSs v_split_off b_split_off (defScope s_split_off) (defBody s_split_off) = true := by decide +kernel
abbrev v_grid_of : List Str := ["pairs", "lowers", "wholes", "p", "n", "q", "lower", "below", "above", "found", "whole", "others", "rest"]
theorem t_grid_of : FnScope v_grid_of ["pairs"] (defScope s_grid_of) := ⟨rfl, rfl, rfl, by decide +kernel, rfl, by decide +kernel, by decide +kernel⟩
theorem m_grid_of : mSs v_grid_of b_grid_ofY (defScope s_grid_of) (defBody s_grid_of) = true := by decide +kernel
abbrev v_size : List Str := ["m", "a", "b", "c", "d"]
theorem t_size : FnScope v_size ["m"] (defScope s_size) := ⟨rfl, rfl, rfl, by decide +kernel, rfl, by decide +kernel, by decide +kernel⟩
theorem m_size : mSs v_size b_size (defScope s_size) (defBody s_size) = true := by decide +kernel
abbrev v_is_whole : List Str := ["m"]
theorem t_is_whole : FnScope v_is_whole ["m"] (defScope s_is_whole) := ⟨rfl, rfl, rfl, by decide +kernel, rfl, by decide +kernel, by decide +kernel⟩
theorem m_is_whole : mSs v_is_whole b_is_whole (defScope s_is_whole) (defBody s_is_whole) = true := by decide +kernel
abbrev v_after : List Str := ["one", "other", "a", "b", "c", "d", "e", "f", "g", "h"]
theorem t_after : FnScope v_after ["one", "other"] (defScope s_after) := ⟨rfl, rfl, rfl, by decide +kernel, rfl, by decide +kernel, by decide +kernel⟩
theorem m_after : mSs v_after b_after (defScope s_after) (defBody s_after) = true := by decide +kernel
abbrev v_back : List Str := ["m", "a", "b", "c", "d"]
theorem t_back : FnScope v_back ["m"] (defScope s_back) := ⟨rfl, rfl, rfl, by decide +kernel, rfl, by decide +kernel, by decide +kernel⟩
theorem m_back : mSs v_back b_back (defScope s_back) (defBody s_back) = true := by decide +kernel
abbrev v_is_same_grid : List Str := ["t", "u"]
theorem t_is_same_grid : FnScope v_is_same_grid ["t", "u"] (defScope s_is_same_grid) := ⟨rfl, rfl, rfl, by decide +kernel, rfl, by decide +kernel, by decide +kernel⟩
theorem m_is_same_grid : mSs v_is_same_grid b_is_same_grid (defScope s_is_same_grid) (defBody s_is_same_grid) = true := by decide +kernel
abbrev v__law_draw_prime : List Str := ["_law_source"]
theorem t__law_draw_prime : FnScope v__law_draw_prime ["_law_source"] (defScope s__law_draw_prime) := ⟨rfl, rfl, rfl, by decide +kernel, rfl, by decide +kernel, by decide +kernel⟩
theorem m__law_draw_prime : mSs v__law_draw_prime b__law_draw_prime (defScope s__law_draw_prime) (defBody s__law_draw_prime) = true := by decide +kernel
abbrev v__law_size : List Str := ["_law_m"]
theorem t__law_size : FnScope v__law_size ["_law_m"] (defScope s__law_size) := ⟨rfl, rfl, rfl, by decide +kernel, rfl, by decide +kernel, by decide +kernel⟩
theorem m__law_size : mSs v__law_size b__law_size (defScope s__law_size) (defBody s__law_size) = true := by decide +kernel
abbrev v__law_is_whole : List Str := ["_law_m"]
theorem t__law_is_whole : FnScope v__law_is_whole ["_law_m"] (defScope s__law_is_whole) := ⟨rfl, rfl, rfl, by decide +kernel, rfl, by decide +kernel, by decide +kernel⟩
theorem m__law_is_whole : mSs v__law_is_whole b__law_is_whole (defScope s__law_is_whole) (defBody s__law_is_whole) = true := by decide +kernel
abbrev v__law_fraction : List Str := ["_law_n", "_law_d", "_law_sign", "_law_divisor"]
theorem t__law_fraction : FnScope v__law_fraction ["_law_n", "_law_d"] (defScope s__law_fraction) := ⟨rfl, rfl, rfl, by decide +kernel, rfl, by decide +kernel, by decide +kernel⟩
theorem m__law_fraction : mSs v__law_fraction b__law_fraction (defScope s__law_fraction) (defBody s__law_fraction) = true := by decide +kernel
abbrev v__law_product : List Str := ["_law_x", "_law_y"]
theorem t__law_product : FnScope v__law_product ["_law_x", "_law_y"] (defScope s__law_product) := ⟨rfl, rfl, rfl, by decide +kernel, rfl, by decide +kernel, by decide +kernel⟩
theorem m__law_product : mSs v__law_product b__law_product (defScope s__law_product) (defBody s__law_product) = true := by decide +kernel
abbrev v__law_sum : List Str := ["_law_x", "_law_y"]
theorem t__law_sum : FnScope v__law_sum ["_law_x", "_law_y"] (defScope s__law_sum) := ⟨rfl, rfl, rfl, by decide +kernel, rfl, by decide +kernel, by decide +kernel⟩
theorem m__law_sum : mSs v__law_sum b__law_sum (defScope s__law_sum) (defBody s__law_sum) = true := by decide +kernel
abbrev v__law_parts : List Str := ["_law_p", "_law_x", "_law_found", "_law_n", "_law_d"]
theorem t__law_parts : FnScope v__law_parts ["_law_p", "_law_x"] (defScope s__law_parts) := ⟨rfl, rfl, rfl, by decide +kernel, rfl, by decide +kernel, by decide +kernel⟩
theorem m__law_parts : mSs v__law_parts b__law_parts (defScope s__law_parts) (defBody s__law_parts) = true := by decide +kernel
abbrev v__law_turned : List Str := ["_law_n", "_law_m", "_law_a", "_law_b", "_law_u", "_law_v"]
theorem t__law_turned : FnScope v__law_turned ["_law_n", "_law_m"] (defScope s__law_turned) := ⟨rfl, rfl, rfl, by decide +kernel, rfl, by decide +kernel, by decide +kernel⟩
theorem m__law_turned : mSs v__law_turned b__law_turned (defScope s__law_turned) (defBody s__law_turned) = true := by decide +kernel
abbrev v__law_ball : List Str := ["_law_p", "_law_n", "_law_x", "_law_least", "_law_most", "_law_unit"]
theorem t__law_ball : FnScope v__law_ball ["_law_p", "_law_n", "_law_x"] (defScope s__law_ball) := ⟨rfl, rfl, rfl, by decide +kernel, rfl, by decide +kernel, by decide +kernel⟩
theorem m__law_ball : mSs v__law_ball b__law_ball (defScope s__law_ball) (defBody s__law_ball) = true := by decide +kernel
abbrev v__law_power : List Str := ["_law_p", "_law_n"]
theorem t__law_power : FnScope v__law_power ["_law_p", "_law_n"] (defScope s__law_power) := ⟨rfl, rfl, rfl, by decide +kernel, rfl, by decide +kernel, by decide +kernel⟩
theorem m__law_power : mSs v__law_power b__law_power (defScope s__law_power) (defBody s__law_power) = true := by decide +kernel
abbrev v__law_led : List Str := ["_law_p", "_law_m", "_law_spot", "_law_high", "_law_q", "_law_one", "_law_other", "_law_over", "_law_times", "_law_left"]
theorem t__law_led : FnScope v__law_led ["_law_p", "_law_m", "_law_spot"] (defScope s__law_led) := ⟨rfl, rfl, rfl, by decide +kernel, rfl, by decide +kernel, by decide +kernel⟩
theorem m__law_led : mSs v__law_led b__law_led (defScope s__law_led) (defBody s__law_led) = true := by decide +kernel
abbrev v__law_primes_of : List Str := ["_law_n", "_law_p", "_law_q"]
theorem t__law_primes_of : FnScope v__law_primes_of ["_law_n"] (defScope s__law_primes_of) := ⟨rfl, rfl, rfl, by decide +kernel, rfl, by decide +kernel, by decide +kernel⟩
theorem m__law_primes_of : mSs v__law_primes_of b__law_primes_of (defScope s__law_primes_of) (defBody s__law_primes_of) = true := by decide +kernel
abbrev v__law_start : List Str := []
theorem t__law_start : FnScope v__law_start [] (defScope s__law_start) := ⟨rfl, rfl, rfl, by decide +kernel, rfl, by decide +kernel, by decide +kernel⟩
theorem m__law_start : mSs v__law_start b__law_start (defScope s__law_start) (defBody s__law_start) = true := by decide +kernel
theorem t_law : FnScope n_law ["_law_script"] (defScope s_law) := ⟨rfl, rfl, rfl, by decide +kernel, rfl, by decide +kernel, by decide +kernel⟩
theorem m_law : mSs n_law b_law (defScope s_law) (defBody s_law) = true := by decide +kernel
theorem all_mk {l : PySem.W.OpenLaw} {w : World} {K : PySem.W.Frag} {h : Heap} {mg : Str → Option Value} {fa : Addr} (X : K.In h) (G : h.Ns mainGlobals mg) (hfa : mg "law" = some (.ref fa))
    {p__law_open_cells : Addr} {u__law_open_cells w__law_open_cells : Option Addr} {sl__law_open_cells : Array (Option Value)} {oc__law_open_cells kV__law_open_cells dc__law_open_cells pm__law_open_cells cd__law_open_cells ct__law_open_cells : Value}
    {p__law_common : Addr} {u__law_common w__law_common : Option Addr} {sl__law_common : Array (Option Value)} {oc__law_common kV__law_common dc__law_common pm__law_common cd__law_common ct__law_common : Value}
    {p__law_move : Addr} {u__law_move w__law_move : Option Addr} {sl__law_move : Array (Option Value)} {oc__law_move kV__law_move dc__law_move pm__law_move cd__law_move ct__law_move : Value}
    {p__law_after : Addr} {u__law_after w__law_after : Option Addr} {sl__law_after : Array (Option Value)} {oc__law_after kV__law_after dc__law_after pm__law_after cd__law_after ct__law_after : Value}
    {p_in_form : Addr} {u_in_form w_in_form : Option Addr} {sl_in_form : Array (Option Value)} {oc_in_form kV_in_form dc_in_form pm_in_form cd_in_form ct_in_form : Value}
    {p_grid_form : Addr} {u_grid_form w_grid_form : Option Addr} {sl_grid_form : Array (Option Value)} {oc_grid_form kV_grid_form dc_grid_form pm_grid_form cd_grid_form ct_grid_form : Value}
    {p__law_pick : Addr} {u__law_pick w__law_pick : Option Addr} {sl__law_pick : Array (Option Value)} {oc__law_pick kV__law_pick dc__law_pick pm__law_pick cd__law_pick ct__law_pick : Value}
    {p__law_draw_grid : Addr} {u__law_draw_grid w__law_draw_grid : Option Addr} {sl__law_draw_grid : Array (Option Value)} {oc__law_draw_grid kV__law_draw_grid dc__law_draw_grid pm__law_draw_grid cd__law_draw_grid ct__law_draw_grid : Value}
    {p__law_draw_whole : Addr} {u__law_draw_whole w__law_draw_whole : Option Addr} {sl__law_draw_whole : Array (Option Value)} {oc__law_draw_whole kV__law_draw_whole dc__law_draw_whole pm__law_draw_whole cd__law_draw_whole ct__law_draw_whole : Value}
    {p__law_raised : Addr} {u__law_raised w__law_raised : Option Addr} {sl__law_raised : Array (Option Value)} {oc__law_raised kV__law_raised dc__law_raised pm__law_raised cd__law_raised ct__law_raised : Value}
    {p__law_back : Addr} {u__law_back w__law_back : Option Addr} {sl__law_back : Array (Option Value)} {oc__law_back kV__law_back dc__law_back pm__law_back cd__law_back ct__law_back : Value}
    {p__law_draw_move : Addr} {u__law_draw_move w__law_draw_move : Option Addr} {sl__law_draw_move : Array (Option Value)} {oc__law_draw_move kV__law_draw_move dc__law_draw_move pm__law_draw_move cd__law_draw_move ct__law_draw_move : Value}
    {p_raised : Addr} {u_raised w_raised : Option Addr} {sl_raised : Array (Option Value)} {oc_raised kV_raised dc_raised pm_raised cd_raised ct_raised : Value}
    {p_inverse : Addr} {u_inverse w_inverse : Option Addr} {sl_inverse : Array (Option Value)} {oc_inverse kV_inverse dc_inverse pm_inverse cd_inverse ct_inverse : Value}
    {p_split_off : Addr} {u_split_off w_split_off : Option Addr} {sl_split_off : Array (Option Value)} {oc_split_off kV_split_off dc_split_off pm_split_off cd_split_off ct_split_off : Value}
    {p_grid_of : Addr} {u_grid_of w_grid_of : Option Addr} {sl_grid_of : Array (Option Value)} {oc_grid_of kV_grid_of dc_grid_of pm_grid_of cd_grid_of ct_grid_of : Value}
    {p_size : Addr} {u_size w_size : Option Addr} {sl_size : Array (Option Value)} {oc_size kV_size dc_size pm_size cd_size ct_size : Value}
    {p_is_whole : Addr} {u_is_whole w_is_whole : Option Addr} {sl_is_whole : Array (Option Value)} {oc_is_whole kV_is_whole dc_is_whole pm_is_whole cd_is_whole ct_is_whole : Value}
    {p_after : Addr} {u_after w_after : Option Addr} {sl_after : Array (Option Value)} {oc_after kV_after dc_after pm_after cd_after ct_after : Value}
    {p_back : Addr} {u_back w_back : Option Addr} {sl_back : Array (Option Value)} {oc_back kV_back dc_back pm_back cd_back ct_back : Value}
    {p_is_same_grid : Addr} {u_is_same_grid w_is_same_grid : Option Addr} {sl_is_same_grid : Array (Option Value)} {oc_is_same_grid kV_is_same_grid dc_is_same_grid pm_is_same_grid cd_is_same_grid ct_is_same_grid : Value}
    {p__law_draw_prime : Addr} {u__law_draw_prime w__law_draw_prime : Option Addr} {sl__law_draw_prime : Array (Option Value)} {oc__law_draw_prime kV__law_draw_prime dc__law_draw_prime pm__law_draw_prime cd__law_draw_prime ct__law_draw_prime : Value}
    {p__law_size : Addr} {u__law_size w__law_size : Option Addr} {sl__law_size : Array (Option Value)} {oc__law_size kV__law_size dc__law_size pm__law_size cd__law_size ct__law_size : Value}
    {p__law_is_whole : Addr} {u__law_is_whole w__law_is_whole : Option Addr} {sl__law_is_whole : Array (Option Value)} {oc__law_is_whole kV__law_is_whole dc__law_is_whole pm__law_is_whole cd__law_is_whole ct__law_is_whole : Value}
    {p__law_fraction : Addr} {u__law_fraction w__law_fraction : Option Addr} {sl__law_fraction : Array (Option Value)} {oc__law_fraction kV__law_fraction dc__law_fraction pm__law_fraction cd__law_fraction ct__law_fraction : Value}
    {p__law_product : Addr} {u__law_product w__law_product : Option Addr} {sl__law_product : Array (Option Value)} {oc__law_product kV__law_product dc__law_product pm__law_product cd__law_product ct__law_product : Value}
    {p__law_sum : Addr} {u__law_sum w__law_sum : Option Addr} {sl__law_sum : Array (Option Value)} {oc__law_sum kV__law_sum dc__law_sum pm__law_sum cd__law_sum ct__law_sum : Value}
    {p__law_parts : Addr} {u__law_parts w__law_parts : Option Addr} {sl__law_parts : Array (Option Value)} {oc__law_parts kV__law_parts dc__law_parts pm__law_parts cd__law_parts ct__law_parts : Value}
    {p__law_turned : Addr} {u__law_turned w__law_turned : Option Addr} {sl__law_turned : Array (Option Value)} {oc__law_turned kV__law_turned dc__law_turned pm__law_turned cd__law_turned ct__law_turned : Value}
    {p__law_ball : Addr} {u__law_ball w__law_ball : Option Addr} {sl__law_ball : Array (Option Value)} {oc__law_ball kV__law_ball dc__law_ball pm__law_ball cd__law_ball ct__law_ball : Value}
    {p__law_power : Addr} {u__law_power w__law_power : Option Addr} {sl__law_power : Array (Option Value)} {oc__law_power kV__law_power dc__law_power pm__law_power cd__law_power ct__law_power : Value}
    {p__law_led : Addr} {u__law_led w__law_led : Option Addr} {sl__law_led : Array (Option Value)} {oc__law_led kV__law_led dc__law_led pm__law_led cd__law_led ct__law_led : Value}
    {p__law_primes_of : Addr} {u__law_primes_of w__law_primes_of : Option Addr} {sl__law_primes_of : Array (Option Value)} {oc__law_primes_of kV__law_primes_of dc__law_primes_of pm__law_primes_of cd__law_primes_of ct__law_primes_of : Value}
    {p__law_start : Addr} {u__law_start w__law_start : Option Addr} {sl__law_start : Array (Option Value)} {oc__law_start kV__law_start dc__law_start pm__law_start cd__law_start ct__law_start : Value}
    {p_law : Addr} {u_law w_law : Option Addr} {sl_law : Array (Option Value)} {oc_law kV_law dc_law pm_law cd_law ct_law : Value}
    (a__law_open_cells : PySem.W.nsIn K mainGlobals "_law_open_cells" = some (some (.ref p__law_open_cells)))
    (l__law_open_cells : K.lookup p__law_open_cells = some ⟨oc__law_open_cells, u__law_open_cells, .func (PySem.W.fnOf "_law_open_cells" "_law_open_cells" (defArgs s__law_open_cells) (defBody s__law_open_cells) (defScope s__law_open_cells) .none kV__law_open_cells dc__law_open_cells pm__law_open_cells w__law_open_cells cd__law_open_cells ct__law_open_cells), sl__law_open_cells⟩)
    (c__law_open_cells : PySem.W.codeIn K cd__law_open_cells "_law_open_cells" = true)
    (k__law_open_cells : PySem.W.keepIn K (.ref p__law_open_cells) = true)
    (a__law_common : PySem.W.nsIn K mainGlobals "_law_common" = some (some (.ref p__law_common)))
    (l__law_common : K.lookup p__law_common = some ⟨oc__law_common, u__law_common, .func (PySem.W.fnOf "_law_common" "_law_common" (defArgs s__law_common) (defBody s__law_common) (defScope s__law_common) .none kV__law_common dc__law_common pm__law_common w__law_common cd__law_common ct__law_common), sl__law_common⟩)
    (c__law_common : PySem.W.codeIn K cd__law_common "_law_common" = true)
    (k__law_common : PySem.W.keepIn K (.ref p__law_common) = true)
    (a__law_move : PySem.W.nsIn K mainGlobals "_law_move" = some (some (.ref p__law_move)))
    (l__law_move : K.lookup p__law_move = some ⟨oc__law_move, u__law_move, .func (PySem.W.fnOf "_law_move" "_law_move" (defArgs s__law_move) (defBody s__law_move) (defScope s__law_move) .none kV__law_move dc__law_move pm__law_move w__law_move cd__law_move ct__law_move), sl__law_move⟩)
    (c__law_move : PySem.W.codeIn K cd__law_move "_law_move" = true)
    (k__law_move : PySem.W.keepIn K (.ref p__law_move) = true)
    (a__law_after : PySem.W.nsIn K mainGlobals "_law_after" = some (some (.ref p__law_after)))
    (l__law_after : K.lookup p__law_after = some ⟨oc__law_after, u__law_after, .func (PySem.W.fnOf "_law_after" "_law_after" (defArgs s__law_after) (defBody s__law_after) (defScope s__law_after) .none kV__law_after dc__law_after pm__law_after w__law_after cd__law_after ct__law_after), sl__law_after⟩)
    (c__law_after : PySem.W.codeIn K cd__law_after "_law_after" = true)
    (k__law_after : PySem.W.keepIn K (.ref p__law_after) = true)
    (a_in_form : PySem.W.nsIn K mainGlobals "in_form" = some (some (.ref p_in_form)))
    (l_in_form : K.lookup p_in_form = some ⟨oc_in_form, u_in_form, .func (PySem.W.fnOf "in_form" "in_form" (defArgs s_in_form) (defBody s_in_form) (defScope s_in_form) .none kV_in_form dc_in_form pm_in_form w_in_form cd_in_form ct_in_form), sl_in_form⟩)
    (c_in_form : PySem.W.codeIn K cd_in_form "in_form" = true)
    (k_in_form : PySem.W.keepIn K (.ref p_in_form) = true)
    (a_grid_form : PySem.W.nsIn K mainGlobals "grid_form" = some (some (.ref p_grid_form)))
    (l_grid_form : K.lookup p_grid_form = some ⟨oc_grid_form, u_grid_form, .func (PySem.W.fnOf "grid_form" "grid_form" (defArgs s_grid_form) (defBody s_grid_form) (defScope s_grid_form) .none kV_grid_form dc_grid_form pm_grid_form w_grid_form cd_grid_form ct_grid_form), sl_grid_form⟩)
    (c_grid_form : PySem.W.codeIn K cd_grid_form "grid_form" = true)
    (k_grid_form : PySem.W.keepIn K (.ref p_grid_form) = true)
    (a__law_pick : PySem.W.nsIn K mainGlobals "_law_pick" = some (some (.ref p__law_pick)))
    (l__law_pick : K.lookup p__law_pick = some ⟨oc__law_pick, u__law_pick, .func (PySem.W.fnOf "_law_pick" "_law_pick" (defArgs s__law_pick) (defBody s__law_pick) (defScope s__law_pick) .none kV__law_pick dc__law_pick pm__law_pick w__law_pick cd__law_pick ct__law_pick), sl__law_pick⟩)
    (c__law_pick : PySem.W.codeIn K cd__law_pick "_law_pick" = true)
    (k__law_pick : PySem.W.keepIn K (.ref p__law_pick) = true)
    (a__law_draw_grid : PySem.W.nsIn K mainGlobals "_law_draw_grid" = some (some (.ref p__law_draw_grid)))
    (l__law_draw_grid : K.lookup p__law_draw_grid = some ⟨oc__law_draw_grid, u__law_draw_grid, .func (PySem.W.fnOf "_law_draw_grid" "_law_draw_grid" (defArgs s__law_draw_grid) (defBody s__law_draw_grid) (defScope s__law_draw_grid) .none kV__law_draw_grid dc__law_draw_grid pm__law_draw_grid w__law_draw_grid cd__law_draw_grid ct__law_draw_grid), sl__law_draw_grid⟩)
    (c__law_draw_grid : PySem.W.codeIn K cd__law_draw_grid "_law_draw_grid" = true)
    (k__law_draw_grid : PySem.W.keepIn K (.ref p__law_draw_grid) = true)
    (a__law_draw_whole : PySem.W.nsIn K mainGlobals "_law_draw_whole" = some (some (.ref p__law_draw_whole)))
    (l__law_draw_whole : K.lookup p__law_draw_whole = some ⟨oc__law_draw_whole, u__law_draw_whole, .func (PySem.W.fnOf "_law_draw_whole" "_law_draw_whole" (defArgs s__law_draw_whole) (defBody s__law_draw_whole) (defScope s__law_draw_whole) .none kV__law_draw_whole dc__law_draw_whole pm__law_draw_whole w__law_draw_whole cd__law_draw_whole ct__law_draw_whole), sl__law_draw_whole⟩)
    (c__law_draw_whole : PySem.W.codeIn K cd__law_draw_whole "_law_draw_whole" = true)
    (k__law_draw_whole : PySem.W.keepIn K (.ref p__law_draw_whole) = true)
    (a__law_raised : PySem.W.nsIn K mainGlobals "_law_raised" = some (some (.ref p__law_raised)))
    (l__law_raised : K.lookup p__law_raised = some ⟨oc__law_raised, u__law_raised, .func (PySem.W.fnOf "_law_raised" "_law_raised" (defArgs s__law_raised) (defBody s__law_raised) (defScope s__law_raised) .none kV__law_raised dc__law_raised pm__law_raised w__law_raised cd__law_raised ct__law_raised), sl__law_raised⟩)
    (c__law_raised : PySem.W.codeIn K cd__law_raised "_law_raised" = true)
    (k__law_raised : PySem.W.keepIn K (.ref p__law_raised) = true)
    (a__law_back : PySem.W.nsIn K mainGlobals "_law_back" = some (some (.ref p__law_back)))
    (l__law_back : K.lookup p__law_back = some ⟨oc__law_back, u__law_back, .func (PySem.W.fnOf "_law_back" "_law_back" (defArgs s__law_back) (defBody s__law_back) (defScope s__law_back) .none kV__law_back dc__law_back pm__law_back w__law_back cd__law_back ct__law_back), sl__law_back⟩)
    (c__law_back : PySem.W.codeIn K cd__law_back "_law_back" = true)
    (k__law_back : PySem.W.keepIn K (.ref p__law_back) = true)
    (a__law_draw_move : PySem.W.nsIn K mainGlobals "_law_draw_move" = some (some (.ref p__law_draw_move)))
    (l__law_draw_move : K.lookup p__law_draw_move = some ⟨oc__law_draw_move, u__law_draw_move, .func (PySem.W.fnOf "_law_draw_move" "_law_draw_move" (defArgs s__law_draw_move) (defBody s__law_draw_move) (defScope s__law_draw_move) .none kV__law_draw_move dc__law_draw_move pm__law_draw_move w__law_draw_move cd__law_draw_move ct__law_draw_move), sl__law_draw_move⟩)
    (c__law_draw_move : PySem.W.codeIn K cd__law_draw_move "_law_draw_move" = true)
    (k__law_draw_move : PySem.W.keepIn K (.ref p__law_draw_move) = true)
    (a_raised : PySem.W.nsIn K mainGlobals "raised" = some (some (.ref p_raised)))
    (l_raised : K.lookup p_raised = some ⟨oc_raised, u_raised, .func (PySem.W.fnOf "raised" "raised" (defArgs s_raised) (defBody s_raised) (defScope s_raised) .none kV_raised dc_raised pm_raised w_raised cd_raised ct_raised), sl_raised⟩)
    (c_raised : PySem.W.codeIn K cd_raised "raised" = true)
    (k_raised : PySem.W.keepIn K (.ref p_raised) = true)
    (a_inverse : PySem.W.nsIn K mainGlobals "inverse" = some (some (.ref p_inverse)))
    (l_inverse : K.lookup p_inverse = some ⟨oc_inverse, u_inverse, .func (PySem.W.fnOf "inverse" "inverse" (defArgs s_inverse) (defBody s_inverse) (defScope s_inverse) .none kV_inverse dc_inverse pm_inverse w_inverse cd_inverse ct_inverse), sl_inverse⟩)
    (c_inverse : PySem.W.codeIn K cd_inverse "inverse" = true)
    (k_inverse : PySem.W.keepIn K (.ref p_inverse) = true)
    (a_split_off : PySem.W.nsIn K mainGlobals "split_off" = some (some (.ref p_split_off)))
    (l_split_off : K.lookup p_split_off = some ⟨oc_split_off, u_split_off, .func (PySem.W.fnOf "split_off" "split_off" (defArgs s_split_off) (defBody s_split_off) (defScope s_split_off) .none kV_split_off dc_split_off pm_split_off w_split_off cd_split_off ct_split_off), sl_split_off⟩)
    (c_split_off : PySem.W.codeIn K cd_split_off "split_off" = true)
    (k_split_off : PySem.W.keepIn K (.ref p_split_off) = true)
    (a_grid_of : PySem.W.nsIn K mainGlobals "grid_of" = some (some (.ref p_grid_of)))
    (l_grid_of : K.lookup p_grid_of = some ⟨oc_grid_of, u_grid_of, .func (PySem.W.fnOf "grid_of" "grid_of" (defArgs s_grid_of) (defBody s_grid_of) (defScope s_grid_of) .none kV_grid_of dc_grid_of pm_grid_of w_grid_of cd_grid_of ct_grid_of), sl_grid_of⟩)
    (c_grid_of : PySem.W.codeIn K cd_grid_of "grid_of" = true)
    (k_grid_of : PySem.W.keepIn K (.ref p_grid_of) = true)
    (a_size : PySem.W.nsIn K mainGlobals "size" = some (some (.ref p_size)))
    (l_size : K.lookup p_size = some ⟨oc_size, u_size, .func (PySem.W.fnOf "size" "size" (defArgs s_size) (defBody s_size) (defScope s_size) .none kV_size dc_size pm_size w_size cd_size ct_size), sl_size⟩)
    (c_size : PySem.W.codeIn K cd_size "size" = true)
    (k_size : PySem.W.keepIn K (.ref p_size) = true)
    (a_is_whole : PySem.W.nsIn K mainGlobals "is_whole" = some (some (.ref p_is_whole)))
    (l_is_whole : K.lookup p_is_whole = some ⟨oc_is_whole, u_is_whole, .func (PySem.W.fnOf "is_whole" "is_whole" (defArgs s_is_whole) (defBody s_is_whole) (defScope s_is_whole) .none kV_is_whole dc_is_whole pm_is_whole w_is_whole cd_is_whole ct_is_whole), sl_is_whole⟩)
    (c_is_whole : PySem.W.codeIn K cd_is_whole "is_whole" = true)
    (k_is_whole : PySem.W.keepIn K (.ref p_is_whole) = true)
    (a_after : PySem.W.nsIn K mainGlobals "after" = some (some (.ref p_after)))
    (l_after : K.lookup p_after = some ⟨oc_after, u_after, .func (PySem.W.fnOf "after" "after" (defArgs s_after) (defBody s_after) (defScope s_after) .none kV_after dc_after pm_after w_after cd_after ct_after), sl_after⟩)
    (c_after : PySem.W.codeIn K cd_after "after" = true)
    (k_after : PySem.W.keepIn K (.ref p_after) = true)
    (a_back : PySem.W.nsIn K mainGlobals "back" = some (some (.ref p_back)))
    (l_back : K.lookup p_back = some ⟨oc_back, u_back, .func (PySem.W.fnOf "back" "back" (defArgs s_back) (defBody s_back) (defScope s_back) .none kV_back dc_back pm_back w_back cd_back ct_back), sl_back⟩)
    (c_back : PySem.W.codeIn K cd_back "back" = true)
    (k_back : PySem.W.keepIn K (.ref p_back) = true)
    (a_is_same_grid : PySem.W.nsIn K mainGlobals "is_same_grid" = some (some (.ref p_is_same_grid)))
    (l_is_same_grid : K.lookup p_is_same_grid = some ⟨oc_is_same_grid, u_is_same_grid, .func (PySem.W.fnOf "is_same_grid" "is_same_grid" (defArgs s_is_same_grid) (defBody s_is_same_grid) (defScope s_is_same_grid) .none kV_is_same_grid dc_is_same_grid pm_is_same_grid w_is_same_grid cd_is_same_grid ct_is_same_grid), sl_is_same_grid⟩)
    (c_is_same_grid : PySem.W.codeIn K cd_is_same_grid "is_same_grid" = true)
    (k_is_same_grid : PySem.W.keepIn K (.ref p_is_same_grid) = true)
    (a__law_draw_prime : PySem.W.nsIn K mainGlobals "_law_draw_prime" = some (some (.ref p__law_draw_prime)))
    (l__law_draw_prime : K.lookup p__law_draw_prime = some ⟨oc__law_draw_prime, u__law_draw_prime, .func (PySem.W.fnOf "_law_draw_prime" "_law_draw_prime" (defArgs s__law_draw_prime) (defBody s__law_draw_prime) (defScope s__law_draw_prime) .none kV__law_draw_prime dc__law_draw_prime pm__law_draw_prime w__law_draw_prime cd__law_draw_prime ct__law_draw_prime), sl__law_draw_prime⟩)
    (c__law_draw_prime : PySem.W.codeIn K cd__law_draw_prime "_law_draw_prime" = true)
    (k__law_draw_prime : PySem.W.keepIn K (.ref p__law_draw_prime) = true)
    (a__law_size : PySem.W.nsIn K mainGlobals "_law_size" = some (some (.ref p__law_size)))
    (l__law_size : K.lookup p__law_size = some ⟨oc__law_size, u__law_size, .func (PySem.W.fnOf "_law_size" "_law_size" (defArgs s__law_size) (defBody s__law_size) (defScope s__law_size) .none kV__law_size dc__law_size pm__law_size w__law_size cd__law_size ct__law_size), sl__law_size⟩)
    (c__law_size : PySem.W.codeIn K cd__law_size "_law_size" = true)
    (k__law_size : PySem.W.keepIn K (.ref p__law_size) = true)
    (a__law_is_whole : PySem.W.nsIn K mainGlobals "_law_is_whole" = some (some (.ref p__law_is_whole)))
    (l__law_is_whole : K.lookup p__law_is_whole = some ⟨oc__law_is_whole, u__law_is_whole, .func (PySem.W.fnOf "_law_is_whole" "_law_is_whole" (defArgs s__law_is_whole) (defBody s__law_is_whole) (defScope s__law_is_whole) .none kV__law_is_whole dc__law_is_whole pm__law_is_whole w__law_is_whole cd__law_is_whole ct__law_is_whole), sl__law_is_whole⟩)
    (c__law_is_whole : PySem.W.codeIn K cd__law_is_whole "_law_is_whole" = true)
    (k__law_is_whole : PySem.W.keepIn K (.ref p__law_is_whole) = true)
    (a__law_fraction : PySem.W.nsIn K mainGlobals "_law_fraction" = some (some (.ref p__law_fraction)))
    (l__law_fraction : K.lookup p__law_fraction = some ⟨oc__law_fraction, u__law_fraction, .func (PySem.W.fnOf "_law_fraction" "_law_fraction" (defArgs s__law_fraction) (defBody s__law_fraction) (defScope s__law_fraction) .none kV__law_fraction dc__law_fraction pm__law_fraction w__law_fraction cd__law_fraction ct__law_fraction), sl__law_fraction⟩)
    (c__law_fraction : PySem.W.codeIn K cd__law_fraction "_law_fraction" = true)
    (k__law_fraction : PySem.W.keepIn K (.ref p__law_fraction) = true)
    (a__law_product : PySem.W.nsIn K mainGlobals "_law_product" = some (some (.ref p__law_product)))
    (l__law_product : K.lookup p__law_product = some ⟨oc__law_product, u__law_product, .func (PySem.W.fnOf "_law_product" "_law_product" (defArgs s__law_product) (defBody s__law_product) (defScope s__law_product) .none kV__law_product dc__law_product pm__law_product w__law_product cd__law_product ct__law_product), sl__law_product⟩)
    (c__law_product : PySem.W.codeIn K cd__law_product "_law_product" = true)
    (k__law_product : PySem.W.keepIn K (.ref p__law_product) = true)
    (a__law_sum : PySem.W.nsIn K mainGlobals "_law_sum" = some (some (.ref p__law_sum)))
    (l__law_sum : K.lookup p__law_sum = some ⟨oc__law_sum, u__law_sum, .func (PySem.W.fnOf "_law_sum" "_law_sum" (defArgs s__law_sum) (defBody s__law_sum) (defScope s__law_sum) .none kV__law_sum dc__law_sum pm__law_sum w__law_sum cd__law_sum ct__law_sum), sl__law_sum⟩)
    (c__law_sum : PySem.W.codeIn K cd__law_sum "_law_sum" = true)
    (k__law_sum : PySem.W.keepIn K (.ref p__law_sum) = true)
    (a__law_parts : PySem.W.nsIn K mainGlobals "_law_parts" = some (some (.ref p__law_parts)))
    (l__law_parts : K.lookup p__law_parts = some ⟨oc__law_parts, u__law_parts, .func (PySem.W.fnOf "_law_parts" "_law_parts" (defArgs s__law_parts) (defBody s__law_parts) (defScope s__law_parts) .none kV__law_parts dc__law_parts pm__law_parts w__law_parts cd__law_parts ct__law_parts), sl__law_parts⟩)
    (c__law_parts : PySem.W.codeIn K cd__law_parts "_law_parts" = true)
    (k__law_parts : PySem.W.keepIn K (.ref p__law_parts) = true)
    (a__law_turned : PySem.W.nsIn K mainGlobals "_law_turned" = some (some (.ref p__law_turned)))
    (l__law_turned : K.lookup p__law_turned = some ⟨oc__law_turned, u__law_turned, .func (PySem.W.fnOf "_law_turned" "_law_turned" (defArgs s__law_turned) (defBody s__law_turned) (defScope s__law_turned) .none kV__law_turned dc__law_turned pm__law_turned w__law_turned cd__law_turned ct__law_turned), sl__law_turned⟩)
    (c__law_turned : PySem.W.codeIn K cd__law_turned "_law_turned" = true)
    (k__law_turned : PySem.W.keepIn K (.ref p__law_turned) = true)
    (a__law_ball : PySem.W.nsIn K mainGlobals "_law_ball" = some (some (.ref p__law_ball)))
    (l__law_ball : K.lookup p__law_ball = some ⟨oc__law_ball, u__law_ball, .func (PySem.W.fnOf "_law_ball" "_law_ball" (defArgs s__law_ball) (defBody s__law_ball) (defScope s__law_ball) .none kV__law_ball dc__law_ball pm__law_ball w__law_ball cd__law_ball ct__law_ball), sl__law_ball⟩)
    (c__law_ball : PySem.W.codeIn K cd__law_ball "_law_ball" = true)
    (k__law_ball : PySem.W.keepIn K (.ref p__law_ball) = true)
    (a__law_power : PySem.W.nsIn K mainGlobals "_law_power" = some (some (.ref p__law_power)))
    (l__law_power : K.lookup p__law_power = some ⟨oc__law_power, u__law_power, .func (PySem.W.fnOf "_law_power" "_law_power" (defArgs s__law_power) (defBody s__law_power) (defScope s__law_power) .none kV__law_power dc__law_power pm__law_power w__law_power cd__law_power ct__law_power), sl__law_power⟩)
    (c__law_power : PySem.W.codeIn K cd__law_power "_law_power" = true)
    (k__law_power : PySem.W.keepIn K (.ref p__law_power) = true)
    (a__law_led : PySem.W.nsIn K mainGlobals "_law_led" = some (some (.ref p__law_led)))
    (l__law_led : K.lookup p__law_led = some ⟨oc__law_led, u__law_led, .func (PySem.W.fnOf "_law_led" "_law_led" (defArgs s__law_led) (defBody s__law_led) (defScope s__law_led) .none kV__law_led dc__law_led pm__law_led w__law_led cd__law_led ct__law_led), sl__law_led⟩)
    (c__law_led : PySem.W.codeIn K cd__law_led "_law_led" = true)
    (k__law_led : PySem.W.keepIn K (.ref p__law_led) = true)
    (a__law_primes_of : PySem.W.nsIn K mainGlobals "_law_primes_of" = some (some (.ref p__law_primes_of)))
    (l__law_primes_of : K.lookup p__law_primes_of = some ⟨oc__law_primes_of, u__law_primes_of, .func (PySem.W.fnOf "_law_primes_of" "_law_primes_of" (defArgs s__law_primes_of) (defBody s__law_primes_of) (defScope s__law_primes_of) .none kV__law_primes_of dc__law_primes_of pm__law_primes_of w__law_primes_of cd__law_primes_of ct__law_primes_of), sl__law_primes_of⟩)
    (c__law_primes_of : PySem.W.codeIn K cd__law_primes_of "_law_primes_of" = true)
    (k__law_primes_of : PySem.W.keepIn K (.ref p__law_primes_of) = true)
    (a__law_start : PySem.W.nsIn K mainGlobals "_law_start" = some (some (.ref p__law_start)))
    (l__law_start : K.lookup p__law_start = some ⟨oc__law_start, u__law_start, .func (PySem.W.fnOf "_law_start" "_law_start" (defArgs s__law_start) (defBody s__law_start) (defScope s__law_start) .none kV__law_start dc__law_start pm__law_start w__law_start cd__law_start ct__law_start), sl__law_start⟩)
    (c__law_start : PySem.W.codeIn K cd__law_start "_law_start" = true)
    (k__law_start : PySem.W.keepIn K (.ref p__law_start) = true)
    (a_law : PySem.W.nsIn K mainGlobals "law" = some (some (.ref p_law)))
    (l_law : K.lookup p_law = some ⟨oc_law, u_law, .func (PySem.W.fnOf "law" "law" (defArgs s_law) (defBody s_law) (defScope s_law) .none kV_law dc_law pm_law w_law cd_law ct_law), sl_law⟩)
    (c_law : PySem.W.codeIn K cd_law "law" = true)
    (k_law : PySem.W.keepIn K (.ref p_law) = true)
    (z_int : PySem.W.nsIn K mainGlobals "int" = some none)
    (z_abs : PySem.W.nsIn K mainGlobals "abs" = some none)
    (z_gcd : PySem.W.nsIn K mainGlobals "gcd" = some (some (.builtin "math.gcd")))
    (z_tuple : PySem.W.nsIn K mainGlobals "tuple" = some none)
    (z_len : PySem.W.nsIn K mainGlobals "len" = some none)
    (z_range : PySem.W.nsIn K mainGlobals "range" = some none)
    (z_max : PySem.W.nsIn K mainGlobals "max" = some none)
    (z_zip : PySem.W.nsIn K mainGlobals "zip" = some none)
    (z_all : PySem.W.nsIn K mainGlobals "all" = some none)
    (z_repr : PySem.W.nsIn K mainGlobals "repr" = some none) :
    ∃ fd : FuncData, (∀ (s : Shared) (v : Value), BindsTo s fd ⟨[v], []⟩ [("_law_script", v)]) ∧ ∀ base : Heap, K.In base → base.Ns mainGlobals mg → FnG l.prog w K mg base 5 fa fd ["_law_script"] (spOf K mg 1 f_law) := by
  have e := hfa.symm.trans (PySem.W.mg_of X G a_law)
  cases e
  refine ⟨PySem.W.fnOf "law" "law" (defArgs s_law) (defBody s_law) (defScope s_law) .none kV_law dc_law pm_law w_law cd_law ct_law, fun s v => .of_eq rfl, fun base X2 G2 => ?_⟩
  have G__law_open_cells : GlobFn l.prog w K mg base 1 "_law_open_cells" f__law_open_cells := globFn_in X G (st := s__law_open_cells) a__law_open_cells l__law_open_cells c__law_open_cells k__law_open_cells t__law_open_cells (fun _ _ _ _ _ _ us hl => match us, hl with | [_], _ => rfl) m__law_open_cells (reqs_of (l := r__law_open_cells) (lv := 0) _ q__law_open_cells (by decide +kernel) (show ReqsOk _ _ _ _ _ _ r__law_open_cells from ⟨PySem.W.mg_none_of X G z_int, PySem.W.mg_none_of X G z_abs, trivial⟩))
  have G__law_common : GlobFn l.prog w K mg base 1 "_law_common" f__law_common := globFn_in X G (st := s__law_common) a__law_common l__law_common c__law_common k__law_common t__law_common (fun _ _ _ _ _ _ us hl => match us, hl with | [_, _], _ => rfl) m__law_common (reqs_of (l := r__law_common) (lv := 0) _ q__law_common (by decide +kernel) (show ReqsOk _ _ _ _ _ _ r__law_common from ⟨PySem.W.mg_none_of X G z_abs, trivial⟩))
  have G__law_move : GlobFn l.prog w K mg base 2 "_law_move" f__law_move := globFn_in X G (st := s__law_move) a__law_move l__law_move c__law_move k__law_move t__law_move (fun _ _ _ _ _ _ us hl => match us, hl with | [_, _, _, _], _ => rfl) m__law_move (reqs_of (l := r__law_move) (lv := 1) _ q__law_move (by decide +kernel) (show ReqsOk _ _ _ _ _ _ r__law_move from ⟨G__law_common, trivial⟩))
  have G__law_after : GlobFn l.prog w K mg base 3 "_law_after" f__law_after := globFn_in X G (st := s__law_after) a__law_after l__law_after c__law_after k__law_after t__law_after (fun _ _ _ _ _ _ us hl => match us, hl with | [_, _], _ => rfl) m__law_after (reqs_of (l := r__law_after) (lv := 2) _ q__law_after (by decide +kernel) (show ReqsOk _ _ _ _ _ _ r__law_after from ⟨G__law_move, trivial⟩))
  have G_in_form : GlobFn l.prog w K mg base 1 "in_form" f_in_form := globFn_in X G (st := s_in_form) a_in_form l_in_form c_in_form k_in_form t_in_form (fun _ _ _ _ _ _ us hl => match us, hl with | [_], _ => rfl) m_in_form (reqs_of (l := r_in_form) (lv := 0) _ q_in_form (by decide +kernel) (show ReqsOk _ _ _ _ _ _ r_in_form from ⟨PySem.W.mg_of X G z_gcd, PySem.W.mg_none_of X G z_tuple, trivial⟩))
  have G_grid_form : GlobFn l.prog w K mg base 2 "grid_form" f_grid_form := globFn_in X G (st := s_grid_form) a_grid_form l_grid_form c_grid_form k_grid_form t_grid_form (fun _ _ _ _ _ _ us hl => match us, hl with | [_], _ => rfl) m_grid_form (reqs_of (l := r_grid_form) (lv := 1) _ q_grid_form (by decide +kernel) (show ReqsOk _ _ _ _ _ _ r_grid_form from ⟨PySem.W.mg_none_of X G z_abs, G_in_form, trivial⟩))
  have G__law_pick : GlobFn l.prog w K mg base 1 "_law_pick" f__law_pick := globFn_in X G (st := s__law_pick) a__law_pick l__law_pick c__law_pick k__law_pick t__law_pick (fun _ _ _ _ _ _ us hl => match us, hl with | [_, _], _ => rfl) m__law_pick (reqs_of (l := r__law_pick) (lv := 0) _ q__law_pick (by decide +kernel) (show ReqsOk _ _ _ _ _ _ r__law_pick from ⟨PySem.W.mg_none_of X G z_len, PySem.W.mg_none_of X G z_int, trivial⟩))
  have G__law_draw_grid : GlobFn l.prog w K mg base 3 "_law_draw_grid" f__law_draw_grid := globFn_in X G (st := s__law_draw_grid) a__law_draw_grid l__law_draw_grid c__law_draw_grid k__law_draw_grid t__law_draw_grid (fun _ _ _ _ _ _ us hl => match us, hl with | [_], _ => rfl) m__law_draw_grid (reqs_of (l := r__law_draw_grid) (lv := 2) _ q__law_draw_grid (by decide +kernel) (show ReqsOk _ _ _ _ _ _ r__law_draw_grid from ⟨PySem.W.mg_none_of X G z_range, G__law_pick.up (by decide), G__law_move, trivial⟩))
  have G__law_draw_whole : GlobFn l.prog w K mg base 4 "_law_draw_whole" f__law_draw_whole := globFn_in X G (st := s__law_draw_whole) a__law_draw_whole l__law_draw_whole c__law_draw_whole k__law_draw_whole t__law_draw_whole (fun _ _ _ _ _ _ us hl => match us, hl with | [_], _ => rfl) m__law_draw_whole (reqs_of (l := r__law_draw_whole) (lv := 3) _ q__law_draw_whole (by decide +kernel) (show ReqsOk _ _ _ _ _ _ r__law_draw_whole from ⟨PySem.W.mg_none_of X G z_range, G__law_pick.up (by decide), G__law_after, trivial⟩))
  have G__law_raised : GlobFn l.prog w K mg base 1 "_law_raised" f__law_raised := globFn_in X G (st := s__law_raised) a__law_raised l__law_raised c__law_raised k__law_raised t__law_raised (fun _ _ _ _ _ _ us hl => match us, hl with | [_, _], _ => rfl) m__law_raised (reqs_of (l := r__law_raised) (lv := 0) _ q__law_raised (by decide +kernel) (show ReqsOk _ _ _ _ _ _ r__law_raised from ⟨PySem.W.mg_none_of X G z_range, trivial⟩))
  have G__law_back : GlobFn l.prog w K mg base 3 "_law_back" f__law_back := globFn_in X G (st := s__law_back) a__law_back l__law_back c__law_back k__law_back t__law_back (fun _ _ _ _ _ _ us hl => match us, hl with | [_], _ => rfl) m__law_back (reqs_of (l := r__law_back) (lv := 2) _ q__law_back (by decide +kernel) (show ReqsOk _ _ _ _ _ _ r__law_back from ⟨G__law_move, trivial⟩))
  have G__law_draw_move : GlobFn l.prog w K mg base 4 "_law_draw_move" f__law_draw_move := globFn_in X G (st := s__law_draw_move) a__law_draw_move l__law_draw_move c__law_draw_move k__law_draw_move t__law_draw_move (fun _ _ _ _ _ _ us hl => match us, hl with | [_, _], _ => rfl) m__law_draw_move (reqs_of (l := r__law_draw_move) (lv := 3) _ q__law_draw_move (by decide +kernel) (show ReqsOk _ _ _ _ _ _ r__law_draw_move from ⟨G__law_pick.up (by decide), G__law_move.up (by decide), G__law_raised.up (by decide), PySem.W.mg_none_of X G z_range, G__law_after, G__law_back, trivial⟩))
  have G_raised : GlobFn l.prog w K mg base 1 "raised" f_raised := globFn_in X G (st := s_raised) a_raised l_raised c_raised k_raised t_raised (fun _ _ _ _ _ _ us hl => match us, hl with | [_, _], _ => rfl) m_raised (reqs_of (l := r_raised) (lv := 0) _ q_raised (by decide +kernel) (show ReqsOk _ _ _ _ _ _ r_raised from ⟨PySem.W.mg_none_of X G z_range, trivial⟩))
  have G_inverse : GlobFn l.prog w K mg base 1 "inverse" f_inverse := globFn_in X G (st := s_inverse) a_inverse l_inverse c_inverse k_inverse t_inverse (fun _ _ _ _ _ _ us hl => match us, hl with | [_, _], _ => rfl) m_inverse (reqs_of (l := r_inverse) (lv := 0) _ q_inverse (by decide +kernel) (show ReqsOk _ _ _ _ _ _ r_inverse from trivial))
  have G_split_off : GlobFn l.prog w K mg base 1 "split_off" f_split_off := globFn_in X G (st := s_split_off) a_split_off l_split_off c_split_off k_split_off t_split_off (fun _ _ _ _ _ _ us hl => match us, hl with | [_, _], _ => rfl) m_split_off (reqs_of (l := r_split_off) (lv := 0) _ q_split_off (by decide +kernel) (show ReqsOk _ _ _ _ _ _ r_split_off from trivial))
  have G_grid_of : GlobFn l.prog w K mg base 2 "grid_of" f_grid_ofY := globFn_in X G (st := s_grid_of) a_grid_of l_grid_of c_grid_of k_grid_of t_grid_of (fun _ _ _ _ _ _ us hl => match us, hl with | [_], _ => rfl) m_grid_of (reqs_of (l := r_grid_ofY) (lv := 1) _ q_grid_ofY (by decide +kernel) (show ReqsOk _ _ _ _ _ _ r_grid_ofY from ⟨G_raised, PySem.W.mg_none_of X G z_max, G_split_off, PySem.W.mg_none_of X G z_zip, G_inverse, G_in_form, trivial⟩))
  have G_size : GlobFn l.prog w K mg base 1 "size" f_size := globFn_in X G (st := s_size) a_size l_size c_size k_size t_size (fun _ _ _ _ _ _ us hl => match us, hl with | [_], _ => rfl) m_size (reqs_of (l := r_size) (lv := 0) _ q_size (by decide +kernel) (show ReqsOk _ _ _ _ _ _ r_size from trivial))
  have G_is_whole : GlobFn l.prog w K mg base 2 "is_whole" f_is_whole := globFn_in X G (st := s_is_whole) a_is_whole l_is_whole c_is_whole k_is_whole t_is_whole (fun _ _ _ _ _ _ us hl => match us, hl with | [_], _ => rfl) m_is_whole (reqs_of (l := r_is_whole) (lv := 1) _ q_is_whole (by decide +kernel) (show ReqsOk _ _ _ _ _ _ r_is_whole from ⟨G_size, trivial⟩))
  have G_after : GlobFn l.prog w K mg base 2 "after" f_after := globFn_in X G (st := s_after) a_after l_after c_after k_after t_after (fun _ _ _ _ _ _ us hl => match us, hl with | [_, _], _ => rfl) m_after (reqs_of (l := r_after) (lv := 1) _ q_after (by decide +kernel) (show ReqsOk _ _ _ _ _ _ r_after from ⟨G_in_form, trivial⟩))
  have G_back : GlobFn l.prog w K mg base 2 "back" f_back := globFn_in X G (st := s_back) a_back l_back c_back k_back t_back (fun _ _ _ _ _ _ us hl => match us, hl with | [_], _ => rfl) m_back (reqs_of (l := r_back) (lv := 1) _ q_back (by decide +kernel) (show ReqsOk _ _ _ _ _ _ r_back from ⟨G_in_form, trivial⟩))
  have G_is_same_grid : GlobFn l.prog w K mg base 3 "is_same_grid" f_is_same_grid := globFn_in X G (st := s_is_same_grid) a_is_same_grid l_is_same_grid c_is_same_grid k_is_same_grid t_is_same_grid (fun _ _ _ _ _ _ us hl => match us, hl with | [_, _], _ => rfl) m_is_same_grid (reqs_of (l := r_is_same_grid) (lv := 2) _ q_is_same_grid (by decide +kernel) (show ReqsOk _ _ _ _ _ _ r_is_same_grid from ⟨G_is_whole, G_after, G_back, trivial⟩))
  have G__law_draw_prime : GlobFn l.prog w K mg base 2 "_law_draw_prime" f__law_draw_prime := globFn_in X G (st := s__law_draw_prime) a__law_draw_prime l__law_draw_prime c__law_draw_prime k__law_draw_prime t__law_draw_prime (fun _ _ _ _ _ _ us hl => match us, hl with | [_], _ => rfl) m__law_draw_prime (reqs_of (l := r__law_draw_prime) (lv := 1) _ q__law_draw_prime (by decide +kernel) (show ReqsOk _ _ _ _ _ _ r__law_draw_prime from ⟨G__law_pick, trivial⟩))
  have G__law_size : GlobFn l.prog w K mg base 1 "_law_size" f__law_size := globFn_in X G (st := s__law_size) a__law_size l__law_size c__law_size k__law_size t__law_size (fun _ _ _ _ _ _ us hl => match us, hl with | [_], _ => rfl) m__law_size (reqs_of (l := r__law_size) (lv := 0) _ q__law_size (by decide +kernel) (show ReqsOk _ _ _ _ _ _ r__law_size from trivial))
  have G__law_is_whole : GlobFn l.prog w K mg base 2 "_law_is_whole" f__law_is_whole := globFn_in X G (st := s__law_is_whole) a__law_is_whole l__law_is_whole c__law_is_whole k__law_is_whole t__law_is_whole (fun _ _ _ _ _ _ us hl => match us, hl with | [_], _ => rfl) m__law_is_whole (reqs_of (l := r__law_is_whole) (lv := 1) _ q__law_is_whole (by decide +kernel) (show ReqsOk _ _ _ _ _ _ r__law_is_whole from ⟨G__law_size, trivial⟩))
  have G__law_fraction : GlobFn l.prog w K mg base 2 "_law_fraction" f__law_fraction := globFn_in X G (st := s__law_fraction) a__law_fraction l__law_fraction c__law_fraction k__law_fraction t__law_fraction (fun _ _ _ _ _ _ us hl => match us, hl with | [_, _], _ => rfl) m__law_fraction (reqs_of (l := r__law_fraction) (lv := 1) _ q__law_fraction (by decide +kernel) (show ReqsOk _ _ _ _ _ _ r__law_fraction from ⟨G__law_common, trivial⟩))
  have G__law_product : GlobFn l.prog w K mg base 3 "_law_product" f__law_product := globFn_in X G (st := s__law_product) a__law_product l__law_product c__law_product k__law_product t__law_product (fun _ _ _ _ _ _ us hl => match us, hl with | [_, _], _ => rfl) m__law_product (reqs_of (l := r__law_product) (lv := 2) _ q__law_product (by decide +kernel) (show ReqsOk _ _ _ _ _ _ r__law_product from ⟨G__law_fraction, trivial⟩))
  have G__law_sum : GlobFn l.prog w K mg base 3 "_law_sum" f__law_sum := globFn_in X G (st := s__law_sum) a__law_sum l__law_sum c__law_sum k__law_sum t__law_sum (fun _ _ _ _ _ _ us hl => match us, hl with | [_, _], _ => rfl) m__law_sum (reqs_of (l := r__law_sum) (lv := 2) _ q__law_sum (by decide +kernel) (show ReqsOk _ _ _ _ _ _ r__law_sum from ⟨G__law_fraction, trivial⟩))
  have G__law_parts : GlobFn l.prog w K mg base 1 "_law_parts" f__law_parts := globFn_in X G (st := s__law_parts) a__law_parts l__law_parts c__law_parts k__law_parts t__law_parts (fun _ _ _ _ _ _ us hl => match us, hl with | [_, _], _ => rfl) m__law_parts (reqs_of (l := r__law_parts) (lv := 0) _ q__law_parts (by decide +kernel) (show ReqsOk _ _ _ _ _ _ r__law_parts from trivial))
  have G__law_turned : GlobFn l.prog w K mg base 1 "_law_turned" f__law_turned := globFn_in X G (st := s__law_turned) a__law_turned l__law_turned c__law_turned k__law_turned t__law_turned (fun _ _ _ _ _ _ us hl => match us, hl with | [_, _], _ => rfl) m__law_turned (reqs_of (l := r__law_turned) (lv := 0) _ q__law_turned (by decide +kernel) (show ReqsOk _ _ _ _ _ _ r__law_turned from trivial))
  have G__law_ball : GlobFn l.prog w K mg base 3 "_law_ball" f__law_ball := globFn_in X G (st := s__law_ball) a__law_ball l__law_ball c__law_ball k__law_ball t__law_ball (fun _ _ _ _ _ _ us hl => match us, hl with | [_, _, _], _ => rfl) m__law_ball (reqs_of (l := r__law_ball) (lv := 2) _ q__law_ball (by decide +kernel) (show ReqsOk _ _ _ _ _ _ r__law_ball from ⟨G__law_parts.up (by decide), G__law_raised.up (by decide), G__law_fraction, G__law_turned.up (by decide), trivial⟩))
  have G__law_power : GlobFn l.prog w K mg base 2 "_law_power" f__law_power := globFn_in X G (st := s__law_power) a__law_power l__law_power c__law_power k__law_power t__law_power (fun _ _ _ _ _ _ us hl => match us, hl with | [_, _], _ => rfl) m__law_power (reqs_of (l := r__law_power) (lv := 1) _ q__law_power (by decide +kernel) (show ReqsOk _ _ _ _ _ _ r__law_power from ⟨G__law_raised, trivial⟩))
  have G__law_led : GlobFn l.prog w K mg base 4 "_law_led" f__law_led := globFn_in X G (st := s__law_led) a__law_led l__law_led c__law_led k__law_led t__law_led (fun _ _ _ _ _ _ us hl => match us, hl with | [_, _, _], _ => rfl) m__law_led (reqs_of (l := r__law_led) (lv := 3) _ q__law_led (by decide +kernel) (show ReqsOk _ _ _ _ _ _ r__law_led from ⟨G__law_power.up (by decide), G__law_product, G__law_sum, G__law_parts.up (by decide), G__law_ball, trivial⟩))
  have G__law_primes_of : GlobFn l.prog w K mg base 1 "_law_primes_of" f__law_primes_of := globFn_in X G (st := s__law_primes_of) a__law_primes_of l__law_primes_of c__law_primes_of k__law_primes_of t__law_primes_of (fun _ _ _ _ _ _ us hl => match us, hl with | [_], _ => rfl) m__law_primes_of (reqs_of (l := r__law_primes_of) (lv := 0) _ q__law_primes_of (by decide +kernel) (show ReqsOk _ _ _ _ _ _ r__law_primes_of from ⟨PySem.W.mg_none_of X G z_range, PySem.W.mg_none_of X G z_int, PySem.W.mg_none_of X G z_all, trivial⟩))
  have G__law_start : GlobFn l.prog w K mg base 1 "_law_start" f__law_start := globFn_in X G (st := s__law_start) a__law_start l__law_start c__law_start k__law_start t__law_start (fun _ _ _ _ _ _ us hl => match us, hl with | [], _ => rfl) m__law_start (reqs_of (l := r__law_start) (lv := 0) _ q__law_start (by decide +kernel) (show ReqsOk _ _ _ _ _ _ r__law_start from trivial))
  exact fnG_of (fun_mk (st := s_law) l_law c_law k_law) t_law m_law (reqs_of (l := r_law) (lv := 4) _ q_law (by decide +kernel) (show ReqsOk _ _ _ _ _ _ r_law from ⟨G__law_open_cells.up (by decide), PySem.W.mg_none_of X G z_range, G__law_after.up (by decide), G__law_draw_grid.up (by decide), G__law_draw_whole, G__law_pick.up (by decide), G__law_draw_move, G__law_draw_prime.up (by decide), G_grid_form.up (by decide), PySem.W.mg_none_of X G z_repr, G__law_move.up (by decide), G__law_is_whole.up (by decide), G__law_back.up (by decide), G_is_same_grid.up (by decide), G__law_primes_of.up (by decide), G__law_size.up (by decide), G__law_led, G__law_start.up (by decide), G_grid_of.up (by decide), trivial⟩))
end MK
open PySem PySem.W PyProof.Rows
set_option maxHeartbeats 0 in
theorem PySem.Challenge.cw_ballmoves_k56_forms_of_grids_holds : PySem.Challenge.rw_ballmoves_k56_forms_of_grids.Holds := by
  w_on; o_law; k_head; (case hw => w_witness2)
  k_fill
  refine MP.walk_ofG (l := PySem.Challenge.rw_ballmoves_k56_forms_of_grids) (n := 63) (k := 5) (x := "_law_script") (sem := MK.f_law) rfl (by decide) rfl ⟨rfl, by decide, by decide⟩ (fun w h Y => PySem.W.kIn_of Y) ?F MK.law_true
  case F =>
    intro w mg fa h KX G hmg
    refine' MK.all_mk KX G hmg ?a__law_open_cells ?l__law_open_cells ?c__law_open_cells ?k__law_open_cells ?a__law_common ?l__law_common ?c__law_common ?k__law_common ?a__law_move ?l__law_move ?c__law_move ?k__law_move ?a__law_after ?l__law_after ?c__law_after ?k__law_after ?a_in_form ?l_in_form ?c_in_form ?k_in_form ?a_grid_form ?l_grid_form ?c_grid_form ?k_grid_form ?a__law_pick ?l__law_pick ?c__law_pick ?k__law_pick ?a__law_draw_grid ?l__law_draw_grid ?c__law_draw_grid ?k__law_draw_grid ?a__law_draw_whole ?l__law_draw_whole ?c__law_draw_whole ?k__law_draw_whole ?a__law_raised ?l__law_raised ?c__law_raised ?k__law_raised ?a__law_back ?l__law_back ?c__law_back ?k__law_back ?a__law_draw_move ?l__law_draw_move ?c__law_draw_move ?k__law_draw_move ?a_raised ?l_raised ?c_raised ?k_raised ?a_inverse ?l_inverse ?c_inverse ?k_inverse ?a_split_off ?l_split_off ?c_split_off ?k_split_off ?a_grid_of ?l_grid_of ?c_grid_of ?k_grid_of ?a_size ?l_size ?c_size ?k_size ?a_is_whole ?l_is_whole ?c_is_whole ?k_is_whole ?a_after ?l_after ?c_after ?k_after ?a_back ?l_back ?c_back ?k_back ?a_is_same_grid ?l_is_same_grid ?c_is_same_grid ?k_is_same_grid ?a__law_draw_prime ?l__law_draw_prime ?c__law_draw_prime ?k__law_draw_prime ?a__law_size ?l__law_size ?c__law_size ?k__law_size ?a__law_is_whole ?l__law_is_whole ?c__law_is_whole ?k__law_is_whole ?a__law_fraction ?l__law_fraction ?c__law_fraction ?k__law_fraction ?a__law_product ?l__law_product ?c__law_product ?k__law_product ?a__law_sum ?l__law_sum ?c__law_sum ?k__law_sum ?a__law_parts ?l__law_parts ?c__law_parts ?k__law_parts ?a__law_turned ?l__law_turned ?c__law_turned ?k__law_turned ?a__law_ball ?l__law_ball ?c__law_ball ?k__law_ball ?a__law_power ?l__law_power ?c__law_power ?k__law_power ?a__law_led ?l__law_led ?c__law_led ?k__law_led ?a__law_primes_of ?l__law_primes_of ?c__law_primes_of ?k__law_primes_of ?a__law_start ?l__law_start ?c__law_start ?k__law_start ?a_law ?l_law ?c_law ?k_law ?z_int ?z_abs ?z_gcd ?z_tuple ?z_len ?z_range ?z_max ?z_zip ?z_all ?z_repr
    (case a__law_open_cells => k_is)
    (case l__law_open_cells => k_is)
    (case c__law_open_cells => k_is)
    (case k__law_open_cells => k_is)
    (case a__law_common => k_is)
    (case l__law_common => k_is)
    (case c__law_common => k_is)
    (case k__law_common => k_is)
    (case a__law_move => k_is)
    (case l__law_move => k_is)
    (case c__law_move => k_is)
    (case k__law_move => k_is)
    (case a__law_after => k_is)
    (case l__law_after => k_is)
    (case c__law_after => k_is)
    (case k__law_after => k_is)
    (case a_in_form => k_is)
    (case l_in_form => k_is)
    (case c_in_form => k_is)
    (case k_in_form => k_is)
    (case a_grid_form => k_is)
    (case l_grid_form => k_is)
    (case c_grid_form => k_is)
    (case k_grid_form => k_is)
    (case a__law_pick => k_is)
    (case l__law_pick => k_is)
    (case c__law_pick => k_is)
    (case k__law_pick => k_is)
    (case a__law_draw_grid => k_is)
    (case l__law_draw_grid => k_is)
    (case c__law_draw_grid => k_is)
    (case k__law_draw_grid => k_is)
    (case a__law_draw_whole => k_is)
    (case l__law_draw_whole => k_is)
    (case c__law_draw_whole => k_is)
    (case k__law_draw_whole => k_is)
    (case a__law_raised => k_is)
    (case l__law_raised => k_is)
    (case c__law_raised => k_is)
    (case k__law_raised => k_is)
    (case a__law_back => k_is)
    (case l__law_back => k_is)
    (case c__law_back => k_is)
    (case k__law_back => k_is)
    (case a__law_draw_move => k_is)
    (case l__law_draw_move => k_is)
    (case c__law_draw_move => k_is)
    (case k__law_draw_move => k_is)
    (case a_raised => k_is)
    (case l_raised => k_is)
    (case c_raised => k_is)
    (case k_raised => k_is)
    (case a_inverse => k_is)
    (case l_inverse => k_is)
    (case c_inverse => k_is)
    (case k_inverse => k_is)
    (case a_split_off => k_is)
    (case l_split_off => k_is)
    (case c_split_off => k_is)
    (case k_split_off => k_is)
    (case a_grid_of => k_is)
    (case l_grid_of => k_is)
    (case c_grid_of => k_is)
    (case k_grid_of => k_is)
    (case a_size => k_is)
    (case l_size => k_is)
    (case c_size => k_is)
    (case k_size => k_is)
    (case a_is_whole => k_is)
    (case l_is_whole => k_is)
    (case c_is_whole => k_is)
    (case k_is_whole => k_is)
    (case a_after => k_is)
    (case l_after => k_is)
    (case c_after => k_is)
    (case k_after => k_is)
    (case a_back => k_is)
    (case l_back => k_is)
    (case c_back => k_is)
    (case k_back => k_is)
    (case a_is_same_grid => k_is)
    (case l_is_same_grid => k_is)
    (case c_is_same_grid => k_is)
    (case k_is_same_grid => k_is)
    (case a__law_draw_prime => k_is)
    (case l__law_draw_prime => k_is)
    (case c__law_draw_prime => k_is)
    (case k__law_draw_prime => k_is)
    (case a__law_size => k_is)
    (case l__law_size => k_is)
    (case c__law_size => k_is)
    (case k__law_size => k_is)
    (case a__law_is_whole => k_is)
    (case l__law_is_whole => k_is)
    (case c__law_is_whole => k_is)
    (case k__law_is_whole => k_is)
    (case a__law_fraction => k_is)
    (case l__law_fraction => k_is)
    (case c__law_fraction => k_is)
    (case k__law_fraction => k_is)
    (case a__law_product => k_is)
    (case l__law_product => k_is)
    (case c__law_product => k_is)
    (case k__law_product => k_is)
    (case a__law_sum => k_is)
    (case l__law_sum => k_is)
    (case c__law_sum => k_is)
    (case k__law_sum => k_is)
    (case a__law_parts => k_is)
    (case l__law_parts => k_is)
    (case c__law_parts => k_is)
    (case k__law_parts => k_is)
    (case a__law_turned => k_is)
    (case l__law_turned => k_is)
    (case c__law_turned => k_is)
    (case k__law_turned => k_is)
    (case a__law_ball => k_is)
    (case l__law_ball => k_is)
    (case c__law_ball => k_is)
    (case k__law_ball => k_is)
    (case a__law_power => k_is)
    (case l__law_power => k_is)
    (case c__law_power => k_is)
    (case k__law_power => k_is)
    (case a__law_led => k_is)
    (case l__law_led => k_is)
    (case c__law_led => k_is)
    (case k__law_led => k_is)
    (case a__law_primes_of => k_is)
    (case l__law_primes_of => k_is)
    (case c__law_primes_of => k_is)
    (case k__law_primes_of => k_is)
    (case a__law_start => k_is)
    (case l__law_start => k_is)
    (case c__law_start => k_is)
    (case k__law_start => k_is)
    (case a_law => k_is)
    (case l_law => k_is)
    (case c_law => k_is)
    (case k_law => k_is)
    (case z_int => k_is)
    (case z_abs => k_is)
    (case z_gcd => k_is)
    (case z_tuple => k_is)
    (case z_len => k_is)
    (case z_range => k_is)
    (case z_max => k_is)
    (case z_zip => k_is)
    (case z_all => k_is)
    (case z_repr => k_is)
