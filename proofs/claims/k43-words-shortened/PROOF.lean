import PyProof.Rows.All
import Wide.All
import OpenK.AllK
import Wide.FinOn
import HandS.ForMost
import HandS.Exc
import HandS.Deep
import HandS.TupAny
import HandS.Gcd
import HandS.Wide
import HandS.TupMul
import HandS.IsInst
import HandS.TupLe
import HandS.Flt
import HandS.SortInts
import HandS.Conv
import HandS.Style
import HandS.Zip
import KE.KExcSuper
import HandS.ExcInit
import HandS.TryOnly
import KE.RegKSuper
import HandS.ExcIs
import KE.KStar
import HandS.ExcOwn
import KE.KRevSl
import HandS.Words
import HandS.HeadEnd
import PyProof.ReprLen
import PySem.Challenge.RW_ballmoves_k43_words_shortened
set_option Elab.async false
set_option linter.all false
set_option maxRecDepth 100000
set_option maxHeartbeats 8000000

/-! A small language of values: its form and what it reckons. -/
namespace MP
open PySem

abbrev D := PyData
inductive Val where
  | dat (d : D)
  | loc (n : Nat)
inductive Cell where
  | lst (xs : List D)
  | dic (kvs : List (Str × Val))
abbrev Store := List Cell
/-- a value, and whether it is a list or dict that nobody else has -/
structure RV where
  fr : Bool
  v : Val
inductive R (α : Type) where
  | ok (a : α) (st : Store)
  | exc (c : Str) (ds : List (Str × D)) (st : Store)
  | no
def R.bind {α β : Type} (x : R α) (f : α → Store → R β) : R β := match x with
  | .ok a st => f a st
  | .exc c ds st => .exc c ds st
  | .no => .no
inductive Slot where
  | un
  | val (v : Val)
  | own (d : D)
abbrev Env := List Slot
abbrev Fn := List Val → Store → R RV

/-! ### by values -/
inductive Op2 where
  | add | sub | mul | fdiv | mod | pow
  deriving DecidableEq
inductive Cp where
  | eq | ne | lt | le | gt | ge | isIn | notIn | is | isNot
  deriving DecidableEq
def mulOk (i j : Int) : Bool := decide (i.natAbs < 2 ^ 64) || decide (j.natAbs < 2 ^ 64) || decide (i.natAbs.log2 + j.natAbs.log2 < 1000000)
def divOk (j : Int) : Bool := decide (j ≠ 0) && decide (j.natAbs.log2 < 9000)
def powOk (i j : Int) : Bool := decide (0 ≤ j) && decide (j ≤ 1000000) && decide (i.natAbs < 2 ^ 64)
def fits (n : Nat) : Bool := decide (n ≤ sizeLine)
def fitsS (n : Nat) : Bool := decide (n < sizeLine)
def repOk (xs : List D) (k : Int) : Bool := !xs.isEmpty && decide (2 ≤ k) && decide (k ≤ 1000) && decide (xs.length ≤ 1000)
def bin : Op2 → D → D → Option (Bool × D)
  | .add, .int i, .int j => some (false, .int (i + j))
  | .add, .str x, .str y => bif fits (x.length + y.length) then some (false, .str (x ++ y)) else none
  | .add, .list xs, .list ys => bif fits (xs.length + ys.length) then some (true, .list (xs ++ ys)) else none
  | .add, .tuple xs, .tuple ys => bif fits (xs.length + ys.length) then some (false, .tuple (xs ++ ys)) else none
  | .sub, .int i, .int j => some (false, .int (i - j))
  | .mul, .int i, .int j => bif mulOk i j then some (false, .int (i * j)) else none
  | .mul, .tuple xs, .int k => bif repOk xs k then some (false, .tuple (List.replicate k.toNat xs).flatten) else none
  | .mul, .list xs, .int k => bif repOk xs k then some (true, .list (List.replicate k.toNat xs).flatten) else none
  | .fdiv, .int i, .int j => bif divOk j then some (false, .int (i.fdiv j)) else none
  | .mod, .int i, .int j => bif decide (j ≠ 0) then some (false, .int (i.fmod j)) else none
  | .pow, .int i, .int j => bif powOk i j then some (false, .int (i ^ j.toNat)) else none
  | _, _, _ => none
def shp (x : D) : Bool := SeqAt.shaped x
def isNone : D → Bool
  | .none => true
  | _ => false
def eqD (x y : D) : Option Bool := match x, y with
  | .str a, .str b => some (decide (a = b))
  | .list xs, .list ys => bif decide (xs.length = ys.length) then (bif shp (.list xs) && shp (.list ys) then some (PyData.eqv (.list xs) (.list ys)) else none) else some false
  | x, y => bif shp x && shp y then some (PyData.eqv x y) else none
def cmpD : Cp → D → D → Option Bool
  | .eq, x, y => eqD x y
  | .ne, x, y => (eqD x y).map not
  | .lt, .int i, .int j => some (decide (i < j))
  | .le, .int i, .int j => some (decide (i ≤ j))
  | .gt, .int i, .int j => some (decide (j < i))
  | .ge, .int i, .int j => some (decide (j ≤ i))
  | .isIn, x, .list ys => bif shp x && shp (.list ys) then some (ys.any fun z => PyData.eqv z x) else none
  | .notIn, x, .list ys => bif shp x && shp (.list ys) then some (!ys.any fun z => PyData.eqv z x) else none
  | .isIn, x, .tuple ys => bif shp x && shp (.tuple ys) then some (ys.any fun z => PyData.eqv z x) else none
  | .notIn, x, .tuple ys => bif shp x && shp (.tuple ys) then some (!ys.any fun z => PyData.eqv z x) else none
  | .is, x, .none => some (isNone x)
  | .isNot, x, .none => some (!isNone x)
  | .is, .bool a, .bool b => some (decide (a = b))
  | .isNot, .bool a, .bool b => some (!decide (a = b))
  | _, _, _ => none
/-- an item, by a place that may count from the end -/
def ixD (xs : List D) (k : Int) : Option D := L2.atI xs k
def cutD (xs : List D) (lo hi : Option Int) : List D := (xs.drop (HT.sIx xs.length 0 lo)).take (HT.sIx xs.length xs.length hi - HT.sIx xs.length 0 lo)
inductive Blt where
  | len | abs | int | tuple | list | sum | min | max | any | all | repr | gcd | sorted | str
  deriving DecidableEq
def Blt.name : Blt → Str
  | .len => "len" | .abs => "abs" | .int => "int" | .tuple => "tuple" | .list => "list" | .sum => "sum" | .min => "min" | .max => "max" | .any => "any" | .all => "all"
  | .repr => "repr" | .gcd => "gcd" | .sorted => "sorted" | .str => "str"
def seqOf : D → Option (List D)
  | .list xs => some xs
  | .tuple xs => some xs
  | _ => none
def listOf : D → Option (List D)
  | .list xs => some xs
  | _ => none
def enumL : Nat → List D → List D
  | _, [] => []
  | n, x :: xs => .tuple [.int (n : Nat), x] :: enumL (n + 1) xs
def zipL : List D → List D → List D
  | x :: xs, y :: ys => .tuple [x, y] :: zipL xs ys
  | _, _ => []
def zipD : D → D → Option (List D)
  | .list xs, .list ys => some (zipL xs ys)
  | .tuple xs, .tuple ys => some (zipL xs ys)
  | _, _ => none
def intsOf : List D → Option (List Int)
  | [] => some []
  | .int i :: r => (intsOf r).map (i :: ·)
  | _ :: _ => none
def boolsOf : List D → Option (List Bool)
  | [] => some []
  | .bool i :: r => (boolsOf r).map (i :: ·)
  | _ :: _ => none
def minI : Int → List Int → Int
  | a, [] => a
  | a, b :: r => minI (if b < a then b else a) r
def maxI : Int → List Int → Int
  | a, [] => a
  | a, b :: r => maxI (if a < b then b else a) r
mutual
/-- no list, and no dict but empty ones -/
def dOk : D → Bool
  | .list _ => false
  | .tuple xs => dOks xs
  | .dict kvs => kvs.isEmpty
  | _ => true
def dOks : List D → Bool
  | [] => true
  | x :: xs => dOk x && dOks xs
end
def showOk (d : D) : Bool := decide (d.depth ≤ 100) && fits d.shown.length && d.showable && (!d.hasDict || dOk d)
def bltF : Blt → List D → Option (Bool × D)
  | .len, [.list xs] => some (false, .int xs.length)
  | .len, [.tuple xs] => some (false, .int xs.length)
  | .len, [.str x] => bif fits x.length then some (false, .int x.length) else none
  | .abs, [.int i] => some (false, .int i.natAbs)
  | .int, [.int i] => some (false, .int i)
  | .tuple, [.list xs] => some (false, .tuple xs)
  | .tuple, [.tuple xs] => some (false, .tuple xs)
  | .list, [.list xs] => some (true, .list xs)
  | .list, [.tuple xs] => some (true, .list xs)
  | .gcd, [.int i, .int j] => some (false, .int (Nat.gcd i.natAbs j.natAbs : Nat))
  | .gcd, [.int i, .int j, .int k, .int l] => some (false, .int (Nat.gcd (Nat.gcd (Nat.gcd i.natAbs j.natAbs) k.natAbs) l.natAbs : Nat))
  | .repr, [d] => bif showOk d then some (false, .str d.shown) else none
  | .min, [.int i, .int j] => some (false, .int (if j < i then j else i))
  | .max, [.int i, .int j] => some (false, .int (if i < j then j else i))
  | .min, [.int i, .int j, .int k] => some (false, .int (if k < (if j < i then j else i) then k else (if j < i then j else i)))
  | .max, [.int i, .int j, .int k] => some (false, .int (if (if i < j then j else i) < k then k else (if i < j then j else i)))
  | .min, [.list xs] => (match intsOf xs with | some (a :: r) => some (false, .int (minI a r)) | _ => none)
  | .max, [.list xs] => (match intsOf xs with | some (a :: r) => some (false, .int (maxI a r)) | _ => none)
  | .sum, [.list xs] => (intsOf xs).map fun is => (false, .int is.sum)
  | .sorted, [.list xs] => (intsOf xs).map fun is => (true, .list ((is.mergeSort fun a b => decide (a ≤ b)).map PyData.int))
  | .all, [.list xs] => (boolsOf xs).map fun bs => (false, .bool (bs.all id))
  | .any, [.list xs] => (boolsOf xs).map fun bs => (false, .bool (bs.any id))
  | _, _ => none
/-- isinstance by the names of built-in types -/
def isA : D → String → Bool
  | .none, _ => false
  | .bool _, t => t == "bool" || t == "int"
  | .int _, t => t == "int"
  | .str _, t => t == "str"
  | .list _, t => t == "list"
  | .tuple _, t => t == "tuple"
  | .dict _, t => t == "dict"

/-! ### form -/
inductive Lit where
  | none | bool (b : Bool) | int (i : Int) | str (s : Str)
def Lit.d : Lit → D
  | .none => .none
  | .bool b => .bool b
  | .int i => .int i
  | .str s => .str s
mutual
inductive Tg where
  | nm (i : Nat)
  | tup (ts : Tgs)
inductive Tgs where
  | nil
  | cons (t : Tg) (ts : Tgs)
end
mutual
inductive Ex where
  | var (i : Nat)
  | cst (c : Lit)
  | glob (x : Str) (d : D)
  | neg (a : Ex)
  | not (a : Ex)
  | bin (o : Op2) (a b : Ex)
  | cmp (o : Cp) (a b : Ex)
  | chain (o1 o2 : Cp) (a b c : Ex)
  | and (a b : Ex)
  | or (a b : Ex)
  | ite (c a b : Ex)
  | tup (es : Exs)
  | lst (es : Exs)
  | ix (a b : Ex)
  | slice (a : Ex) (lo hi : Opt)
  | rev (a : Ex)
  | call (f : Str) (sem : Fn) (es : Exs)
  | blt (f : Blt) (es : Exs)
  | isi (a : Ex) (ts : List String)
  | comp (elt : Ex) (own : List (Str × Nat)) (tg : Tg) (it : It) (ifs : Opt)
  | comp2 (elt : Ex) (own : List (Str × Nat)) (tg : Tg) (it : It) (ifs : Opt) (tg1 : Tg) (it1 : It) (ifs1 : Opt)
  | dicl (ks : List Str) (es : Exs)
  | dic0
  | toloc (a : Ex)
  | popl (a : Ex)
  | lenl (a : Ex)
inductive Exs where
  | nil
  | cons (e : Ex) (es : Exs)
  | star (e : Ex) (es : Exs)
inductive Opt where
  | non
  | som (e : Ex)
inductive It where
  | seq (e : Ex)
  | rng1 (a : Ex)
  | rng2 (a b : Ex)
  | rng3 (a b c : Ex)
  | enum (e : Ex)
  | zip (a b : Ex)
end

/-! ### what expressions come to -/
def Slot.set (env : Env) (i : Nat) (s : Slot) : Env := List.set env i s
mutual
def bindTg : Tg → D → Env → Option Env
  | .nm i, d, env => some (List.set env i (.val (.dat d)))
  | .tup ts, d, env => match d with
    | .tuple ds => bindTgs ts ds env
    | .list ds => bindTgs ts ds env
    | _ => none
def bindTgs : Tgs → List D → Env → Option Env
  | .nil, ds, env => match ds with
    | [] => some env
    | _ :: _ => none
  | .cons t ts, ds, env => match ds with
    | [] => none
    | d :: r => match bindTg t d env with
      | some env' => bindTgs ts r env'
      | none => none
end
def wipeE : Env → List Nat → Env
  | env, [] => env
  | env, v :: vs => List.set (wipeE env vs) v .un
def rOpt {α : Type} (x : Option α) (st : Store) : R α := match x with
  | some a => .ok a st
  | none => .no
/-- the data of a value -/
def datOf (x : RV) (st : Store) : R D := match x.v with
  | .dat d => .ok d st
  | .loc _ => .no
def fresh (d : D) : RV := ⟨true, .dat d⟩
def plain (d : D) : RV := ⟨false, .dat d⟩
def ofBD (x : Option (Bool × D)) (st : Store) : R RV := match x with
  | some (b, d) => .ok ⟨b, .dat d⟩ st
  | none => .no
def ofB (x : Option Bool) (st : Store) : R RV := match x with
  | some b => .ok (plain (.bool b)) st
  | none => .no
def boolOf (x : RV) (st : Store) : R Bool := match x.v with
  | .dat (.bool b) => .ok b st
  | _ => .no
def intOf (x : RV) (st : Store) : R Int := match x.v with
  | .dat (.int i) => .ok i st
  | _ => .no
/-- an exception in a comprehension is not reckoned with -/
def quiet {α : Type} (x : R α) : R α := match x with
  | .ok a st => .ok a st
  | .exc _ _ _ => .no
  | .no => .no
def compL (f : D → Store → R (Option D)) : List D → List D → Store → R (List D)
  | [], acc, st => .ok acc st
  | d :: r, acc, st => match f d st with
    | .ok (some y) st1 => bif fitsS acc.length then compL f r (acc ++ [y]) st1 else .no
    | .ok none st1 => compL f r acc st1
    | _ => .no
def compL2 (f : D → List D → Store → R (List D)) : List D → List D → Store → R (List D)
  | [], acc, st => .ok acc st
  | d :: r, acc, st => match f d acc st with
    | .ok acc' st1 => compL2 f r acc' st1
    | _ => .no
def rangeUp (i j : Int) : List D := (List.range (j - i).toNat).map fun (k : Nat) => .int (i + k)
def rangeDn (i j : Int) : List D := (List.range (i - j).toNat).map fun (k : Nat) => .int (i + k * (-1))
def rngOk (i : Int) : Bool := decide (-(2 ^ 62) ≤ i) && decide (i < 2 ^ 62)
def ixV (x : RV) (k : RV) (st : Store) : R RV := match x.v, k.v with
  | .dat (.list xs), .dat (.int k) => (match ixD xs k with | some d => .ok (plain d) st | none => .no)
  | .dat (.tuple xs), .dat (.int k) => (match ixD xs k with | some d => .ok (plain d) st | none => .no)
  | .loc n, .dat (.str s) => (match st[n]? with
    | some (.dic kvs) => (match kvs.lookup s with | some v => .ok ⟨false, v⟩ st | none => .no)
    | _ => .no)
  | _, _ => .no
def sliceD (d : D) (lo hi : Option Int) : Option (Bool × D) := match d with
  | .list xs => some (true, .list (cutD xs lo hi))
  | .tuple xs => some (false, .tuple (cutD xs lo hi))
  | _ => none
def revD : D → Option (Bool × D)
  | .list xs => some (true, .list xs.reverse)
  | .tuple xs => some (false, .tuple xs.reverse)
  | _ => none
def lenL (x : RV) (st : Store) : Option Int := match x.v with
  | .loc n => (match st[n]? with | some (.lst xs) => some (xs.length : Int) | _ => none)
  | _ => none
mutual
/-- pk: the value is only looked at; an owned list may be told then -/
def evE : Ex → Bool → Env → Store → R RV
  | .var i, pk, env, st => match env[i]? with
    | some (.val v) => .ok ⟨false, v⟩ st
    | some (.own d) => bif pk then .ok (plain d) st else .no
    | _ => .no
  | .cst c, _, _, st => .ok (plain c.d) st
  | .glob _ d, _, _, st => .ok (plain d) st
  | .neg a, _, env, st => (evE a true env st).bind fun x st => (intOf x st).bind fun i st => .ok (plain (.int (-i))) st
  | .not a, _, env, st => (evE a true env st).bind fun x st => (boolOf x st).bind fun b st => .ok (plain (.bool (!b))) st
  | .bin o a b, _, env, st => (evE a true env st).bind fun x st => (datOf x st).bind fun x st => (evE b true env st).bind fun y st => (datOf y st).bind fun y st => ofBD (bin o x y) st
  | .cmp o a b, _, env, st => (evE a true env st).bind fun x st => (datOf x st).bind fun x st => (evE b true env st).bind fun y st => (datOf y st).bind fun y st => ofB (cmpD o x y) st
  | .chain o1 o2 a b c, _, env, st => (evE a true env st).bind fun x st => (datOf x st).bind fun x st => (evE b true env st).bind fun y st => (datOf y st).bind fun y st =>
      (rOpt (cmpD o1 x y) st).bind fun k st => bif k then (evE c true env st).bind fun z st => (datOf z st).bind fun z st => ofB (cmpD o2 y z) st else .ok (plain (.bool false)) st
  | .and a b, _, env, st => (evE a true env st).bind fun x st => (boolOf x st).bind fun k st => bif k then (evE b true env st).bind fun y st => (boolOf y st).bind fun k st => .ok (plain (.bool k)) st else .ok (plain (.bool false)) st
  | .or a b, _, env, st => (evE a true env st).bind fun x st => (boolOf x st).bind fun k st => bif k then .ok (plain (.bool true)) st else (evE b true env st).bind fun y st => (boolOf y st).bind fun k st => .ok (plain (.bool k)) st
  | .ite c a b, pk, env, st => (evE c true env st).bind fun x st => (boolOf x st).bind fun k st => bif k then evE a pk env st else evE b pk env st
  | .tup es, _, env, st => (evA es env st).bind fun ds st => bif fits ds.length then .ok (plain (.tuple ds)) st else .no
  | .lst es, _, env, st => (evA es env st).bind fun ds st => bif fits ds.length then .ok (fresh (.list ds)) st else .no
  | .ix a b, _, env, st => (evE a true env st).bind fun x st => (evE b true env st).bind fun y st => ixV x y st
  | .slice a lo hi, _, env, st => (evE a true env st).bind fun x st => (datOf x st).bind fun x st => (evO lo env st).bind fun l st => (evO hi env st).bind fun h st => ofBD (sliceD x l h) st
  | .rev a, _, env, st => (evE a true env st).bind fun x st => (datOf x st).bind fun x st => ofBD (revD x) st
  | .call _ sem es, _, env, st => (evV es env st).bind fun vs st => sem vs st
  | .blt f es, _, env, st => (evP es env st).bind fun ds st => ofBD (bltF f ds) st
  | .isi a ts, _, env, st => (evE a true env st).bind fun x st => (datOf x st).bind fun x st => .ok (plain (.bool (ts.any (isA x)))) st
  | .comp elt own tg it ifs, _, env, st => (evI it env st).bind fun items st =>
      (compL (fun d st => match bindTg tg d (wipeE env (own.map (·.2))) with
        | none => .no
        | some env' => (evC ifs env' st).bind fun k st => bif k then (evE elt false env' st).bind fun y st => (datOf y st).bind fun y st => .ok (some y) st else .ok none st) items [] st).bind fun ys st => .ok (fresh (.list ys)) st
  | .comp2 elt own tg it ifs tg1 it1 ifs1, _, env, st => (evI it env st).bind fun items st =>
      (compL2 (fun d acc st => match bindTg tg d (wipeE env (own.map (·.2))) with
        | none => .no
        | some env1 => (evC ifs env1 st).bind fun k st => bif k then (evI it1 env1 st).bind fun items1 st =>
            compL (fun d st => match bindTg tg1 d env1 with
              | none => .no
              | some env' => (evC ifs1 env' st).bind fun k st => bif k then (evE elt false env' st).bind fun y st => (datOf y st).bind fun y st => .ok (some y) st else .ok none st) items1 acc st
          else .ok acc st) items [] st).bind fun ys st => .ok (fresh (.list ys)) st
  | .dicl ks es, _, env, st => (evV es env st).bind fun vs st => bif decide (vs.length = ks.length) then .ok ⟨false, .loc st.length⟩ (st ++ [.dic (ks.zip vs)]) else .no
  | .dic0, _, _, st => .ok (plain (.dict [])) st
  | .toloc a, _, env, st => (evE a false env st).bind fun x st => match x with
    | ⟨true, .dat (.list xs)⟩ => .ok ⟨false, .loc st.length⟩ (st ++ [.lst xs])
    | _ => .no
  | .popl a, _, env, st => (evE a false env st).bind fun x st => match x.v with
    | .loc n => (match st[n]? with
      | some (.lst xs) => (match xs.getLast? with
        | some d => .ok (plain d) (st.set n (.lst xs.dropLast))
        | none => .no)
      | _ => .no)
    | _ => .no
  | .lenl a, _, env, st => (evE a false env st).bind fun x st => match lenL x st with
    | some n => .ok (plain (.int n)) st
    | none => .no
/-- items that are put into a new thing -/
def evA : Exs → Env → Store → R (List D)
  | .nil, _, st => .ok [] st
  | .cons e es, env, st => (evE e false env st).bind fun x st => (datOf x st).bind fun d st => (evA es env st).bind fun ds st => .ok (d :: ds) st
  | .star e es, env, st => (evE e true env st).bind fun x st => (datOf x st).bind fun d st => (rOpt (seqOf d) st).bind fun xs st => (evA es env st).bind fun ds st => .ok (xs ++ ds) st
/-- arguments of a def -/
def evV : Exs → Env → Store → R (List Val)
  | .nil, _, st => .ok [] st
  | .cons e es, env, st => (evE e false env st).bind fun x st => (evV es env st).bind fun ds st => .ok (x.v :: ds) st
  | .star _ _, _, _ => .no
/-- arguments that are only looked at -/
def evP : Exs → Env → Store → R (List D)
  | .nil, _, st => .ok [] st
  | .cons e es, env, st => (evE e true env st).bind fun x st => (datOf x st).bind fun d st => (evP es env st).bind fun ds st => .ok (d :: ds) st
  | .star _ _, _, _ => .no
def evO : Opt → Env → Store → R (Option Int)
  | .non, _, st => .ok none st
  | .som e, env, st => (evE e true env st).bind fun x st => (intOf x st).bind fun i st => .ok (some i) st
def evC : Opt → Env → Store → R Bool
  | .non, _, st => .ok true st
  | .som e, env, st => (evE e true env st).bind fun x st => boolOf x st
/-- what is walked -/
def evI : It → Env → Store → R (List D)
  | .seq e, env, st => (evE e false env st).bind fun x st => (datOf x st).bind fun d st => rOpt (seqOf d) st
  | .rng1 a, env, st => (evE a true env st).bind fun x st => (intOf x st).bind fun i st => bif rngOk i then .ok (rangeUp 0 i) st else .no
  | .rng2 a b, env, st => (evE a true env st).bind fun x st => (intOf x st).bind fun i st => (evE b true env st).bind fun x st => (intOf x st).bind fun j st => bif rngOk i && rngOk j then .ok (rangeUp i j) st else .no
  | .rng3 a b c, env, st => (evE a true env st).bind fun x st => (intOf x st).bind fun i st => (evE b true env st).bind fun x st => (intOf x st).bind fun j st => (evE c true env st).bind fun x st => (intOf x st).bind fun k st =>
      bif rngOk i && rngOk j && decide (k = -1) then .ok (rangeDn i j) st else .no
  | .enum e, env, st => (evE e false env st).bind fun x st => (datOf x st).bind fun d st => (rOpt (listOf d) st).bind fun xs st => .ok (enumL 0 xs) st
  | .zip a b, env, st => (evE a false env st).bind fun x st => (datOf x st).bind fun d st => (evE b false env st).bind fun x st => (datOf x st).bind fun e st => rOpt (zipD d e) st
end

/-! ### statements -/
inductive SR where
  | nx (env : Env) (st : Store)
  | rt (x : RV) (st : Store)
  | br (env : Env) (st : Store)
  | ct (env : Env) (st : Store)
  | ex (c : Str) (ds : List (Str × D)) (env : Env) (st : Store)
  | no
mutual
inductive Sm where
  | pass
  | exp (e : Ex)
  | ret (e : Ex)
  | set (i : Nat) (own : Bool) (e : Ex)
  | setT (ts : Tgs) (e : Ex)
  | par (ts : List Nat) (es : Exs)
  | parO (ts : List Nat) (fs : List Bool) (es : Exs)
  | aug (i : Nat) (o : Op2) (e : Ex)
  | ite (c : Ex) (a b : Sms)
  | whil (c : Ex) (b : Sms)
  | forr (tg : Tg) (it : It) (b : Sms)
  | brk
  | cnt
  | app (i : Nat) (e : Ex)
  | popd (i : Nat)
  | popt (j i : Nat)
  | setix (i : Nat) (k e : Ex)
  | setloc (a k e : Ex)
  | frz (i : Nat)
  | never
  | clr (i : Nat)
  | rais (c : Str)
  | tryR (b : Sms) (c : Str) (e : Ex)
inductive Sms where
  | nil
  | cons (s : Sm) (ss : Sms)
end
def R.sr {α : Type} (x : R α) (env : Env) (f : α → Store → SR) : SR := match x with
  | .ok a st => f a st
  | .exc c ds st => .ex c ds env st
  | .no => .no
def SR.seq (x : SR) (f : Env → Store → SR) : SR := match x with
  | .nx env st => f env st
  | r => r
def WF : Nat := 2 ^ 64
/-- a loop's turn: what follows, by how the body ended -/
def turn (x : SR) (f : Env → Store → SR) : SR := match x with
  | .nx env st => f env st
  | .ct env st => f env st
  | .br env st => .nx env st
  | r => r
def forL (tg : Tg) (body : Env → Store → SR) : List D → Env → Store → SR
  | [], env, st => .nx env st
  | d :: r, env, st => match bindTg tg d env with
    | none => .no
    | some env' => turn (body env' st) (forL tg body r)
def whileL (test : Env → Store → R Bool) (body : Env → Store → SR) : Nat → Env → Store → SR
  | 0, _, _ => .no
  | n + 1, env, st => (test env st).sr env fun k st => bif k then turn (body env st) (whileL test body n) else .nx env st
def putVals : List Nat → List D → Env → Option Env
  | [], [], env => some env
  | i :: is, d :: ds, env => putVals is ds (List.set env i (.val (.dat d)))
  | _, _, _ => none
/-- what slots are stored, which of them new lists of ours -/
def evR : List Bool → Exs → Env → Store → R (List Slot)
  | [], .nil, _, st => .ok [] st
  | b :: fs, .cons e es, env, st => (evE e false env st).bind fun x st => bif b then (match x with
      | ⟨true, .dat d⟩ => (evR fs es env st).bind fun ss st => .ok (.own d :: ss) st
      | _ => .no) else (datOf x st).bind fun d st => (evR fs es env st).bind fun ss st => .ok (.val (.dat d) :: ss) st
  | _, _, _, _ => .no
def putSlots : List Nat → List Slot → Env → Option Env
  | [], [], env => some env
  | i :: is, s :: ss, env => putSlots is ss (List.set env i s)
  | _, _, _ => none
def augI : Op2 → Int → Int → Option Int
  | .add, a, b => some (a + b)
  | .sub, a, b => some (a - b)
  | _, _, _ => none
def isLD : D → Bool
  | .list _ => true
  | _ => false
mutual
def evS : Sm → Env → Store → SR
  | .pass, env, st => .nx env st
  | .exp e, env, st => (evE e true env st).sr env fun _ st => .nx env st
  | .ret e, env, st => match e with
    | .var i => (match env[i]? with
      | some (.own d) => .rt (fresh d) st
      | _ => (evE (.var i) false env st).sr env fun x st => .rt x st)
    | e => (evE e false env st).sr env fun x st => .rt x st
  | .set i own e, env, st => (evE e false env st).sr env fun x st =>
      bif own then (match x with
        | ⟨true, .dat d⟩ => .nx (List.set env i (.own d)) st
        | _ => .no)
      else .nx (List.set env i (.val x.v)) st
  | .setT ts e, env, st => (evE e false env st).sr env fun x st => (datOf x st).sr env fun d st => match bindTg (.tup ts) d env with
    | some env' => .nx env' st
    | none => .no
  | .par ts es, env, st => (evA es env st).sr env fun ds st => match putVals ts ds env with
    | some env' => .nx env' st
    | none => .no
  | .parO ts fs es, env, st => (evR fs es env st).sr env fun ss st => match putSlots ts ss env with
    | some env' => .nx env' st
    | none => .no
  | .aug i o e, env, st => match env[i]? with
    | some (.val (.dat (.int a))) => (evE e true env st).sr env fun x st => (intOf x st).sr env fun b st => match augI o a b with
      | some k => .nx (List.set env i (.val (.dat (.int k)))) st
      | none => .no
    | _ => .no
  | .ite c a b, env, st => (evE c true env st).sr env fun x st => (boolOf x st).sr env fun k st => bif k then evSs a env st else evSs b env st
  | .whil c b, env, st => whileL (fun env st => (evE c true env st).bind fun x st => boolOf x st) (evSs b) WF env st
  | .forr tg it b, env, st => (evI it env st).sr env fun items st => forL tg (evSs b) items env st
  | .brk, env, st => .br env st
  | .cnt, env, st => .ct env st
  | .app i e, env, st => match env[i]? with
    | some (.own (.list xs)) => (evE e false env st).sr env fun x st => (datOf x st).sr env fun d st => bif fitsS xs.length then .nx (List.set env i (.own (.list (xs ++ [d])))) st else .no
    | _ => .no
  | .popd i, env, st => match env[i]? with
    | some (.own (.list xs)) => (match xs.getLast? with
      | some _ => .nx (List.set env i (.own (.list xs.dropLast))) st
      | none => .no)
    | _ => .no
  | .popt j i, env, st => match env[i]? with
    | some (.own (.list xs)) => (match xs.getLast? with
      | some d => bif j == i then .no else .nx (List.set (List.set env i (.own (.list xs.dropLast))) j (.val (.dat d))) st
      | none => .no)
    | _ => .no
  | .setix i k e, env, st => (evE e false env st).sr env fun x st => (datOf x st).sr env fun d st => match env[i]? with
    | some (.own (.list xs)) => (evE k true env st).sr env fun y st => (intOf y st).sr env fun n st =>
        match L2.ixN xs.length n with
        | some j => .nx (List.set env i (.own (.list (xs.set j d)))) st
        | none => .no
    | _ => .no
  | .setloc a k e, env, st => (evE e false env st).sr env fun x st => (evE a false env st).sr env fun o st => (evE k true env st).sr env fun y st => match o.v, y.v with
    | .loc n, .dat (.str s) => (match st[n]? with
      | some (.dic kvs) => bif (kvs.lookup s).isSome && fitsS kvs.length then .nx env (st.set n (.dic (kvs.map fun p => bif p.1 == s then (p.1, x.v) else p))) else .no
      | _ => .no)
    | _, _ => .no
  | .frz i, env, st => match env[i]? with
    | some (.own d) => .nx (List.set env i (.val (.dat d))) st
    | _ => .no
  | .never, _, _ => .no
  | .clr i, env, st => match env[i]? with
    | some (.own (.list _)) => .nx (List.set env i (.own (.list []))) st
    | _ => .no
  | .rais c, env, st => .ex c [] env st
  | .tryR b c e, env, st => match evSs b env st with
    | .ex c' _ env' st' => bif decide (c' = c) then (evE e false env' st').sr env' fun x st => .rt x st else .no
    | r => r
def evSs : Sms → Env → Store → SR
  | .nil, env, st => .nx env st
  | .cons s ss, env, st => (evS s env st).seq (evSs ss)
end
/-- a def: its parameters' number, its slots' number, its body -/
def fnOf (np ns : Nat) (body : Sms) : Fn := fun vs st => bif decide (vs.length = np) then
  (match evSs body (vs.map Slot.val ++ List.replicate (ns - np) .un) st with
    | .nx _ st => .ok (plain .none) st
    | .rt x st => .ok x st
    | .ex c ds _ st => .exc c ds st
    | _ => .no) else .no
end MP

/-! How the small language's data lie in the hand layer's heap. -/
namespace MP
open PySem PyProof.Rows L2 PySem.Spec

/-! ### data -/
def keyD : Key → D
  | .inl i => .int i
  | .inr x => .str x
/-- a list that stands as it is: frozen, or the module's own -/
def SqZ (K : PySem.W.Frag) (Z : Addr → Prop) (H : Hp) (a : Addr) (xs : List V) : Prop := (Z a ∧ Rd H a (.lst xs)) ∨ SqL K (fun _ => none) a xs
theorem SqZ.seq {K : PySem.W.Frag} {Z : Addr → Prop} {H : Hp} {a : Addr} {xs : List V} (h : SqZ K Z H a xs) : SqL K H a xs := by
  rcases h with ⟨_, h⟩ | (h | h)
  · exact .inl h
  · rcases h with h | ⟨_, h⟩ <;> cases h
  · exact .inr h
mutual
inductive RD (K : PySem.W.Frag) (Z : Addr → Prop) (H : Hp) : V → D → Prop
  | none : RD K Z H .non .none
  | bool (b : Bool) : RD K Z H (.bl b) (.bool b)
  | int (i : Int) : RD K Z H (.int i) (.int i)
  | str (x : Str) : RD K Z H (.str x) (.str x)
  | tuple {a : Addr} {xs : List V} {ds : List D} : SqT K H a xs → RDs K Z H xs ds → RD K Z H (.ref a) (.tuple ds)
  | list {a : Addr} {xs : List V} {ds : List D} : SqZ K Z H a xs → RDs K Z H xs ds → RD K Z H (.ref a) (.list ds)
  | dict {a : Addr} {kvs : List (Key × V)} {ds : List (D × D)} : Z a → Rd H a (.dK kvs) → RKs K Z H kvs ds → RD K Z H (.ref a) (.dict ds)
inductive RDs (K : PySem.W.Frag) (Z : Addr → Prop) (H : Hp) : List V → List D → Prop
  | nil : RDs K Z H [] []
  | cons {v : V} {vs : List V} {d : D} {ds : List D} : RD K Z H v d → RDs K Z H vs ds → RDs K Z H (v :: vs) (d :: ds)
inductive RKs (K : PySem.W.Frag) (Z : Addr → Prop) (H : Hp) : List (Key × V) → List (D × D) → Prop
  | nil : RKs K Z H [] []
  | cons {k : Key} {v : V} {vs : List (Key × V)} {d : D} {ds : List (D × D)} : RD K Z H v d → RKs K Z H vs ds → RKs K Z H ((k, v) :: vs) ((keyD k, d) :: ds)
end

section
variable {K : PySem.W.Frag} {Z Z' : Addr → Prop} {H H' : Hp}
/-- what keeps data as they are -/
structure Holds (Z Z' : Addr → Prop) (H H' : Hp) : Prop where
  tup : ∀ a xs, Rd H a (.tup xs) → Rd H' a (.tup xs)
  z : ∀ a, Z a → Z' a
  obj : ∀ a u, Z a → Rd H a u → Rd H' a u
mutual
theorem RD.holds (h : Holds Z Z' H H') : ∀ {v : V} {d : D}, RD K Z H v d → RD K Z' H' v d
  | _, _, .none => .none
  | _, _, .bool b => .bool b
  | _, _, .int i => .int i
  | _, _, .str x => .str x
  | _, _, .tuple s r => .tuple (s.elim (fun q => .inl (h.tup _ _ q)) .inr) (RDs.holds h r)
  | _, _, .list s r => .list (s.imp (fun ⟨z, q⟩ => ⟨h.z _ z, h.obj _ _ z q⟩) id) (RDs.holds h r)
  | _, _, .dict z s r => .dict (h.z _ z) (h.obj _ _ z s) (RKs.holds h r)
theorem RDs.holds (h : Holds Z Z' H H') : ∀ {vs : List V} {ds : List D}, RDs K Z H vs ds → RDs K Z' H' vs ds
  | _, _, .nil => .nil
  | _, _, .cons r t => .cons (RD.holds h r) (RDs.holds h t)
theorem RKs.holds (h : Holds Z Z' H H') : ∀ {vs : List (Key × V)} {ds : List (D × D)}, RKs K Z H vs ds → RKs K Z' H' vs ds
  | _, _, .nil => .nil
  | _, _, .cons r t => .cons (RD.holds h r) (RKs.holds h t)
end
theorem RDs.length : ∀ {vs : List V} {ds : List D}, RDs K Z H vs ds → vs.length = ds.length
  | _, _, .nil => rfl
  | _, _, .cons _ t => congrArg Nat.succ t.length
theorem RDs.append : ∀ {vs us : List V} {ds es : List D}, RDs K Z H vs ds → RDs K Z H us es → RDs K Z H (vs ++ us) (ds ++ es)
  | _, _, _, _, .nil, q => q
  | _, _, _, _, .cons r t, q => .cons r (t.append q)
theorem RDs.get : ∀ {vs : List V} {ds : List D} {i : Nat} {d : D}, RDs K Z H vs ds → ds[i]? = some d → ∃ v, vs[i]? = some v ∧ RD K Z H v d
  | _, _, _, _, .nil, z => by simp at z
  | _, _, 0, _, .cons r _, e => by
    simp at e
    subst e
    exact ⟨_, rfl, r⟩
  | _, _, i + 1, _, .cons _ t, e => by
    obtain ⟨v, h1, h2⟩ := RDs.get (i := i) t (by simpa using e)
    exact ⟨v, by simpa using h1, h2⟩
theorem RDs.getV : ∀ {vs : List V} {ds : List D} {i : Nat} {v : V}, RDs K Z H vs ds → vs[i]? = some v → ∃ d, ds[i]? = some d ∧ RD K Z H v d
  | _, _, _, _, .nil, z => by simp at z
  | _, _, 0, _, .cons r _, e => by
    simp at e
    subst e
    exact ⟨_, rfl, r⟩
  | _, _, i + 1, _, .cons _ t, e => by
    obtain ⟨v, h1, h2⟩ := RDs.getV (i := i) t (by simpa using e)
    exact ⟨v, by simpa using h1, h2⟩
theorem RDs.take : ∀ {vs : List V} {ds : List D} (n : Nat), RDs K Z H vs ds → RDs K Z H (vs.take n) (ds.take n)
  | _, _, 0, _ => by simpa using RDs.nil
  | _, _, _ + 1, .nil => .nil
  | _, _, n + 1, .cons r t => by simpa using RDs.cons r (t.take n)
theorem RDs.drop : ∀ {vs : List V} {ds : List D} (n : Nat), RDs K Z H vs ds → RDs K Z H (vs.drop n) (ds.drop n)
  | _, _, 0, q => by simpa using q
  | _, _, _ + 1, .nil => .nil
  | _, _, n + 1, .cons _ t => by simpa using t.drop n
theorem RDs.reverse : ∀ {vs : List V} {ds : List D}, RDs K Z H vs ds → RDs K Z H vs.reverse ds.reverse
  | _, _, .nil => .nil
  | _, _, .cons r t => by
    simpa only [List.reverse_cons] using t.reverse.append (.cons r .nil)
theorem RDs.set {v : V} {d : D} (r : RD K Z H v d) : ∀ {vs : List V} {ds : List D} (i : Nat), RDs K Z H vs ds → RDs K Z H (vs.set i v) (ds.set i d)
  | _, _, _, .nil => .nil
  | _, _, 0, .cons _ q => .cons r q
  | _, _, i + 1, .cons q t => .cons q (t.set r i)
theorem RDs.replicate {v : V} {d : D} {vs : List V} {ds : List D} (h : RDs K Z H vs ds) : ∀ n : Nat, RDs K Z H (List.replicate n vs).flatten (List.replicate n ds).flatten
  | 0 => .nil
  | n + 1 => by
    simp only [List.replicate_succ, List.flatten_cons]
    exact h.append (RDs.replicate (v := v) (d := d) h n)
mutual
/-- data without dicts, for the layer's own comparisons -/
theorem RD.dp : ∀ {v : V} {d : D}, RD K Z H v d → d.canLay0 = true → Dp K H v d
  | _, _, .none, _ => .non
  | _, _, .bool b, _ => .bl b
  | _, _, .int i, _ => .int i
  | _, _, .str x, _ => .str x
  | _, _, .tuple s r, h => .tup s (RDs.dp r h)
  | _, _, .list s r, h => .lst s.seq (RDs.dp r h)
  | _, _, .dict _ _ _, h => by simp [PyData.canLay0] at h
theorem RDs.dp : ∀ {vs : List V} {ds : List D}, RDs K Z H vs ds → PyData.canLayAll0 ds = true → DpAll K H vs ds
  | _, _, .nil, _ => .nil
  | _, _, .cons r t, h => by
    simp only [PyData.canLayAll0, Bool.and_eq_true] at h
    exact .cons (RD.dp r h.1) (RDs.dp t h.2)
end
end

/-! ### the ghost: what is frozen, where the cells lie -/
structure G where
  Z : Addr → Prop
  rho : List Addr
def RVal (K : PySem.W.Frag) (g : G) (H : Hp) (v : V) : Val → Prop
  | .dat d => RD K g.Z H v d
  | .loc n => ∃ a, g.rho[n]? = some a ∧ v = .ref a
inductive RVals (K : PySem.W.Frag) (g : G) (H : Hp) : List V → List Val → Prop
  | nil : RVals K g H [] []
  | cons {v : V} {vs : List V} {x : Val} {xs : List Val} : RVal K g H v x → RVals K g H vs xs → RVals K g H (v :: vs) (x :: xs)
inductive RKV (K : PySem.W.Frag) (g : G) (H : Hp) : List (Key × V) → List (Str × Val) → Prop
  | nil : RKV K g H [] []
  | cons {k : Str} {v : V} {vs : List (Key × V)} {x : Val} {xs : List (Str × Val)} : RVal K g H v x → RKV K g H vs xs → RKV K g H ((.inr k, v) :: vs) ((k, x) :: xs)
def CellIs (K : PySem.W.Frag) (g : G) (H : Hp) (a : Addr) : Cell → Prop
  | .lst xs => ∃ vs, H a = some (.lst vs) ∧ RDs K g.Z H vs xs
  | .dic kvs => ∃ kv', H a = some (.dK kv') ∧ RKV K g H kv' kvs
structure Ok (K : PySem.W.Frag) (g : G) (H : Hp) (st : Store) : Prop where
  zr : ∀ a, g.Z a → a ∉ g.rho
  zs : ∀ a, g.Z a → H a ≠ none
  len : g.rho.length = st.length
  nd : g.rho.Nodup
  cell : ∀ (n : Nat) a c, g.rho[n]? = some a → st[n]? = some c → CellIs K g H a c
structure Step (g : G) (H : Hp) (g' : G) (H' : Hp) : Prop where
  z : ∀ a, g.Z a → g'.Z a
  zn : ∀ a, g'.Z a → g.Z a ∨ H a = none
  r : ∃ more, g'.rho = g.rho ++ more ∧ ∀ a ∈ more, H a = none
  keep : ∀ a o, H a = some o → a ∉ g.rho → H' a = some o
  gone : ∀ a, H' a = none → H a = none
section
variable {K : PySem.W.Frag} {g g1 g2 : G} {H H1 H2 : Hp} {st st1 : Store} {a : Addr} {v : V} {d : D}
theorem Step.refl : Step g H g H := ⟨fun _ h => h, fun _ h => .inl h, ⟨[], by simp, by simp⟩, fun _ _ h _ => h, fun _ h => h⟩
theorem Step.trans (a : Step g H g1 H1) (b : Step g1 H1 g2 H2) : Step g H g2 H2 := by
  obtain ⟨m1, e1, f1⟩ := a.r
  obtain ⟨m2, e2, f2⟩ := b.r
  refine ⟨fun c h => b.z c (a.z c h), fun c h => ?_, ⟨m1 ++ m2, by rw [e2, e1, List.append_assoc], fun c h => ?_⟩, fun c o h n => ?_, fun c h => a.gone c (b.gone c h)⟩
  · rcases b.zn c h with q | q
    · exact a.zn c q
    · exact .inr (a.gone c q)
  · rcases List.mem_append.mp h with q | q
    · exact f1 c q
    · exact a.gone c (f2 c q)
  · refine b.keep c o (a.keep c o h n) fun q => ?_
    rw [e1] at q
    rcases List.mem_append.mp q with q | q
    · exact n q
    · rw [f1 c q] at h
      cases h
theorem Ok.some (o : Ok K g H st) (h : a ∈ g.rho) : (∃ vs, H a = some (.lst vs)) ∨ ∃ kv, H a = some (.dK kv) := by
  obtain ⟨n, hn⟩ := List.mem_iff_getElem?.mp h
  have hl : n < g.rho.length := (List.getElem?_eq_some_iff.mp hn).1
  have hs : n < st.length := by rw [← o.len]; exact hl
  have q := o.cell n a st[n] hn (List.getElem?_eq_getElem hs)
  cases hc : st[n] with
  | lst xs =>
    rw [hc] at q
    obtain ⟨vs, e, _⟩ := q
    exact .inl ⟨vs, e⟩
  | dic kvs =>
    rw [hc] at q
    obtain ⟨kv, e, _⟩ := q
    exact .inr ⟨kv, e⟩
theorem Ok.notIn (o : Ok K g H st) (h : H a = none) : a ∉ g.rho := fun q => by
  rcases o.some q with ⟨_, e⟩ | ⟨_, e⟩ <;> (rw [h] at e; cases e)
theorem Ok.rd {u : HO} (o : Ok K g H st) (h : Rd H a u) (hu : ¬ (∃ vs, u = .lst vs) ∧ ¬ ∃ kv, u = .dK kv) : a ∉ g.rho := fun q => by
  rcases o.some q with ⟨vs, e⟩ | ⟨kv, e⟩ <;> rcases h with h | ⟨ob, h⟩ <;> rw [h] at e <;> cases e
  · exact hu.1 ⟨_, rfl⟩
  · exact hu.2 ⟨_, rfl⟩
theorem Step.rd {u : HO} (s : Step g H g1 H1) (h : Rd H a u) (n : a ∉ g.rho) : Rd H1 a u := by
  rcases h with h | ⟨o, h⟩
  · exact .inl (s.keep _ _ h n)
  · exact .inr ⟨o, s.keep _ _ h n⟩
theorem Step.holds (s : Step g H g1 H1) (o : Ok K g H st) : Holds g.Z g1.Z H H1 :=
  ⟨fun a xs h => s.rd h (o.rd h ⟨fun ⟨_, q⟩ => (by cases q), fun ⟨_, q⟩ => (by cases q)⟩), s.z, fun a u z h => s.rd h (o.zr a z)⟩
theorem RVal.step (s : Step g H g1 H1) (o : Ok K g H st) {x : Val} (h : RVal K g H v x) : RVal K g1 H1 v x := by
  cases x with
  | dat d => exact RD.holds (s.holds o) h
  | loc n =>
    obtain ⟨a, e, q⟩ := h
    obtain ⟨m, em, _⟩ := s.r
    exact ⟨a, by rw [em, List.getElem?_append_left (List.getElem?_eq_some_iff.mp e).1]; exact e, q⟩
theorem RVals.step (s : Step g H g1 H1) (o : Ok K g H st) : ∀ {vs : List V} {xs : List Val}, RVals K g H vs xs → RVals K g1 H1 vs xs
  | _, _, .nil => .nil
  | _, _, .cons r t => .cons (r.step s o) (RVals.step s o t)
theorem RVals.length : ∀ {vs : List V} {xs : List Val}, RVals K g H vs xs → vs.length = xs.length
  | _, _, .nil => rfl
  | _, _, .cons _ t => congrArg Nat.succ t.length
theorem RVals.get : ∀ {vs : List V} {xs : List Val} {i : Nat} {x : Val}, RVals K g H vs xs → xs[i]? = some x → ∃ v, vs[i]? = some v ∧ RVal K g H v x
  | _, _, _, _, .nil, z => by simp at z
  | _, _, 0, _, .cons r _, e => by
    simp at e
    subst e
    exact ⟨_, rfl, r⟩
  | _, _, i + 1, _, .cons _ t, e => by
    obtain ⟨v, h1, h2⟩ := RVals.get (i := i) t (by simpa using e)
    exact ⟨v, by simpa using h1, h2⟩
theorem RKV.step (s : Step g H g1 H1) (o : Ok K g H st) : ∀ {vs : List (Key × V)} {xs : List (Str × Val)}, RKV K g H vs xs → RKV K g1 H1 vs xs
  | _, _, .nil => .nil
  | _, _, .cons r t => .cons (r.step s o) (RKV.step s o t)

/-- a list or dict at a that is nobody's but ours -/
def OwnAt (K : PySem.W.Frag) (g : G) (H : Hp) (a : Addr) : D → Prop
  | .list xs => ∃ vs, H a = some (.lst vs) ∧ RDs K g.Z H vs xs ∧ ¬ g.Z a ∧ a ∉ g.rho
  | _ => False
theorem OwnAt.ne (h : OwnAt K g H a d) : H a ≠ none := by
  cases d <;> try exact h.elim
  obtain ⟨vs, e, _⟩ := h
  rw [e]
  exact fun q => by cases q
theorem OwnAt.nz (h : OwnAt K g H a d) : ¬ g.Z a ∧ a ∉ g.rho := by
  cases d <;> try exact h.elim
  obtain ⟨vs, e, _, q⟩ := h
  exact q
theorem Step.nz (s : Step g H g1 H1) (h : ¬ g.Z a) (n : H a ≠ none) : ¬ g1.Z a := fun q => (s.zn a q).elim h n
theorem Step.nr (s : Step g H g1 H1) (h : a ∉ g.rho) (n : H a ≠ none) : a ∉ g1.rho := fun q => by
  obtain ⟨m, e, f⟩ := s.r
  rw [e] at q
  rcases List.mem_append.mp q with q | q
  · exact h q
  · exact n (f a q)
theorem OwnAt.step (s : Step g H g1 H1) (o : Ok K g H st) (h : OwnAt K g H a d) : OwnAt K g1 H1 a d := by
  have ne := h.ne
  cases d <;> try exact h.elim
  obtain ⟨vs, e, r, nz, nr⟩ := h
  exact ⟨vs, s.keep _ _ e nr, RDs.holds (s.holds o) r, s.nz nz ne, s.nr nr ne⟩
/-- what is only looked at -/
def RT (K : PySem.W.Frag) (g : G) (H : Hp) (v : V) (d : D) : Prop := RD K g.Z H v d ∨ ∃ a, v = .ref a ∧ OwnAt K g H a d
theorem RT.step (s : Step g H g1 H1) (o : Ok K g H st) (h : RT K g H v d) : RT K g1 H1 v d := by
  rcases h with h | ⟨a, e, h⟩
  · exact .inl (RD.holds (s.holds o) h)
  · exact .inr ⟨a, e, h.step s o⟩

/-- a slot's value -/
def SlotOk (K : PySem.W.Frag) (g : G) (H : Hp) (x : Option V) : Slot → Prop
  | .un => True
  | .val v => ∃ w, x = some w ∧ RVal K g H w v
  | .own d => ∃ a, x = some (.ref a) ∧ OwnAt K g H a d
structure EnvOk (K : PySem.W.Frag) (g : G) (H : Hp) (σ : L2.St) (env : Env) : Prop where
  len : env.length = σ.length
  at_ : ∀ (i : Nat) s x, env[i]? = some s → σ[i]? = some x → SlotOk K g H x s
  apart : ∀ (i j : Nat) d d' a, env[i]? = some (.own d) → env[j]? = some (.own d') → σ[i]? = some (some (.ref a)) → σ[j]? = some (some (.ref a)) → i = j
theorem SlotOk.step (s : Step g H g1 H1) (o : Ok K g H st) {x : Option V} {sl : Slot} (h : SlotOk K g H x sl) : SlotOk K g1 H1 x sl := by
  cases sl with
  | un => trivial
  | val v =>
    obtain ⟨w, e, r⟩ := h
    exact ⟨w, e, r.step s o⟩
  | own d =>
    obtain ⟨a, e, r⟩ := h
    exact ⟨a, e, r.step s o⟩
theorem EnvOk.step {σ : L2.St} {env : Env} (s : Step g H g1 H1) (o : Ok K g H st) (h : EnvOk K g H σ env) : EnvOk K g1 H1 σ env :=
  ⟨h.len, fun i sl x e1 e2 => (h.at_ i sl x e1 e2).step s o, h.apart⟩
theorem EnvOk.slot {σ : L2.St} {env : Env} {i : Nat} {s : Slot} (h : EnvOk K g H σ env) (e : env[i]? = some s) : ∃ x, σ[i]? = some x ∧ SlotOk K g H x s := by
  have hi : i < env.length := (List.getElem?_eq_some_iff.mp e).1
  have hs : i < σ.length := by rw [← h.len]; exact hi
  exact ⟨σ[i], List.getElem?_eq_getElem hs, h.at_ i s _ e (List.getElem?_eq_getElem hs)⟩
/-- what an expression comes to -/
def ROut (K : PySem.W.Frag) (pk : Bool) (g : G) (H H0 : Hp) (v : V) : RV → Prop
  | ⟨true, .dat d⟩ => ∃ a, v = .ref a ∧ H0 a = none ∧ OwnAt K g H a d
  | ⟨false, .dat d⟩ => if pk = true then RT K g H v d else RD K g.Z H v d
  | ⟨_, .loc n⟩ => RVal K g H v (.loc n)
theorem ROut.rt {pk : Bool} {H0 : Hp} {x : RV} (h : ROut K pk g H H0 v x) (e : x.v = .dat d) : RT K g H v d := by
  obtain ⟨fr, y⟩ := x
  simp only at e
  subst e
  cases fr with
  | true =>
    obtain ⟨a, e, _, q⟩ := h
    exact .inr ⟨a, e, q⟩
  | false =>
    cases pk with
    | true => exact h
    | false => exact .inl h
/-- a new list or dict is frozen -/
def G.add (g : G) (a : Addr) : G := ⟨fun b => g.Z b ∨ b = a, g.rho⟩
theorem Step.add (s : Step g H g1 H1) (h : H a = none) : Step g H (g1.add a) H1 :=
  ⟨fun b q => .inl (s.z b q), fun b q => q.elim (s.zn b) fun e => .inr (e ▸ h), s.r, s.keep, s.gone⟩
theorem holds_add : Holds g.Z (g.add a).Z H H := ⟨fun _ _ h => h, fun _ h => .inl h, fun _ _ _ h => h⟩
theorem rval_add {x : Val} (h : RVal K g H v x) : RVal K (g.add a) H v x := by
  cases x with
  | dat d => exact RD.holds holds_add h
  | loc n => exact h
theorem rkv_add : ∀ {vs : List (Key × V)} {xs : List (Str × Val)}, RKV K g H vs xs → RKV K (g.add a) H vs xs
  | _, _, .nil => .nil
  | _, _, .cons r t => .cons (rval_add r) (rkv_add t)
theorem Ok.add (o : Ok K g H st) (h : a ∉ g.rho) (hn : H a ≠ none) : Ok K (g.add a) H st :=
  ⟨fun b q => q.elim (o.zr b) fun e => e ▸ h, fun b q => q.elim (o.zs b) fun e => e ▸ hn, o.len, o.nd, fun n b c e1 e2 => by
    have q := o.cell n b c e1 e2
    cases c with
    | lst xs =>
      obtain ⟨vs, e, r⟩ := q
      exact ⟨vs, e, RDs.holds holds_add r⟩
    | dic kvs =>
      obtain ⟨kv, e, r⟩ := q
      exact ⟨kv, e, rkv_add r⟩⟩
theorem OwnAt.frozen (h : OwnAt K g H a d) : RD K (g.add a).Z H (.ref a) d := by
  cases d <;> try exact h.elim
  obtain ⟨vs, e, r, _⟩ := h
  exact .list (.inl ⟨.inr rfl, .inl e⟩) (RDs.holds holds_add r)
/-- from a result to a datum that all may have: the ghost grows -/
theorem ROut.frozen {H0 : Hp} {x : RV} {g0 : G} (s : Step g0 H0 g H) (o : Ok K g H st) (h : ROut K false g H H0 v x) (e : x.v = .dat d) : ∃ g', Step g0 H0 g' H ∧ Ok K g' H st ∧ RD K g'.Z H v d ∧ Holds g.Z g'.Z H H ∧ g'.rho = g.rho := by
  obtain ⟨fr, y⟩ := x
  simp only at e
  subst e
  cases fr with
  | true =>
    obtain ⟨a, rfl, n, q⟩ := h
    exact ⟨g.add a, s.add n, o.add q.nz.2 q.ne, q.frozen, holds_add, rfl⟩
  | false => exact ⟨g, s, o, h, ⟨fun _ _ h => h, fun _ h => h, fun _ _ _ h => h⟩, rfl⟩
/-- .. of any kind -/
theorem ROut.frozenV {H0 : Hp} {x : RV} {g0 : G} (s : Step g0 H0 g H) (o : Ok K g H st) (h : ROut K false g H H0 v x) : ∃ g', Step g0 H0 g' H ∧ Ok K g' H st ∧ RVal K g' H v x.v := by
  obtain ⟨fr, y⟩ := x
  cases y with
  | dat d =>
    obtain ⟨g', s', o', r, _⟩ := h.frozen s o rfl
    exact ⟨g', s', o', r⟩
  | loc n => exact ⟨g, s, o, by cases fr <;> exact h⟩
/-- a new object that is tracked -/
theorem Step.new {u : HO} (h : H a = none) : Step g H g (upd H a u) :=
  ⟨fun _ q => q, fun _ q => .inl q, ⟨[], by simp, by simp⟩, fun b o e _ => by rw [upd_ne (ne_of_none e h)]; exact e, fun b e => by
    by_cases hb : b = a
    · exact hb ▸ h
    · rw [upd_ne hb] at e
      exact e⟩
theorem Ok.step (o : Ok K g H st) (s : Step g H g H1) (hc : ∀ a ∈ g.rho, H1 a = H a) : Ok K g H1 st :=
  ⟨o.zr, fun b z e => o.zs b z (s.gone b e), o.len, o.nd, fun n b c e1 e2 => by
    have q := o.cell n b c e1 e2
    have eb := hc b (List.mem_of_getElem? e1)
    cases c with
    | lst xs =>
      obtain ⟨vs, e, r⟩ := q
      exact ⟨vs, eb.trans e, RDs.holds (s.holds o) r⟩
    | dic kvs =>
      obtain ⟨kv, e, r⟩ := q
      exact ⟨kv, eb.trans e, r.step s o⟩⟩
theorem Ok.new {u : HO} (o : Ok K g H st) (h : H a = none) : Ok K g (upd H a u) st := o.step (.new h) fun b hb => upd_ne fun e => o.notIn h (e ▸ hb)
theorem RD.new_tup {xs : List V} {ds : List D} (o : Ok K g H st) (h : H a = Option.none) (r : RDs K g.Z H xs ds) : RD K g.Z (upd H a (.tup xs)) (.ref a) (.tuple ds) :=
  .tuple (.inl (.inl upd_same)) (RDs.holds ((Step.new (g := g) h).holds o) r)
theorem OwnAt.new_lst {xs : List V} {ds : List D} (o : Ok K g H st) (h : H a = none) (r : RDs K g.Z H xs ds) : OwnAt K g (upd H a (.lst xs)) a (.list ds) :=
  ⟨xs, upd_same, RDs.holds ((Step.new (g := g) h).holds o) r, fun z => o.zs a z h, o.notIn h⟩
end
end MP

/-! Operations by values: what the small language reckons is what the model does. -/
namespace MP
open PySem PyProof.Rows L2 PySem.Spec

/-- what a step's end must bring -/
def Fin (K : PySem.W.Frag) (pk : Bool) (g : G) (H : Hp) (st : Store) (x : RV) (Q : VK) : Prop :=
  ∀ g' v H', Step g H g' H' → Ok K g' H' st → ROut K pk g' H' H v x → Q v H'
/-- two values into an operation of the model -/
def WO (X : Cx) (f : Value → Value → Sem Value) (x y : V) (H : Hp) (Q : VK) : Prop :=
  ∀ (pins : List (Addr × Obj)) (s : Shared) (σ : L2.St) (v u : Value), Inv X pins σ H s → RelV x v → RelV y u → wpAny (model X.prog X.w) X.A (f v u) (EP X pins σ Q) X.xe s
def WC (X : Cx) (f : Value) (xs : List V) (H : Hp) (Q : VK) : Prop :=
  ∀ (pins : List (Addr × Obj)) (s : Shared) (σ : L2.St) (us : List Value), Inv X pins σ H s → Vals xs us → wpAny (model X.prog X.w) X.A (call f us) (EP X pins σ Q) X.xe s
section
variable {X : Cx} {K : PySem.W.Frag} {pk : Bool} {g : G} {H : Hp} {st : Store} {Q : VK} {x y : V} {d e : D}
theorem WO.of {f : Value → Value → Sem Value} {r : R2} (h : OpR X f r) (q : r x y H Q) : WO X f x y H Q := fun pins s σ v u I rx ry => h pins s σ H x y v u Q I rx ry q
theorem WC.of {f : Value} {xs : List V} {r : List V → Hp → VK → Prop} (h : CallR X f r) (q : r xs H Q) : WC X f xs H Q := fun pins s σ us I rx => h pins s σ H xs us Q I rx q
theorem Fin.plain (o : Ok K g H st) (h : Fin K pk g H st (MP.plain d) Q) {v : V} (r : RD K g.Z H v d) : Q v H :=
  h g v H .refl o (by
    cases pk with
    | true => exact .inl r
    | false => exact r)
theorem Fin.lst (o : Ok K g H st) {ds : List D} (h : Fin K pk g H st (MP.fresh (.list ds)) Q) {vs : List V} (r : RDs K g.Z H vs ds) {p : Addr} (n : H p = none) : Q (.ref p) (upd H p (.lst vs)) :=
  h g (.ref p) _ (.new n) (o.new n) ⟨p, rfl, n, .new_lst o n r⟩
theorem Fin.tup (o : Ok K g H st) {ds : List D} (h : Fin K pk g H st (MP.plain (.tuple ds)) Q) {vs : List V} (r : RDs K g.Z H vs ds) {p : Addr} (n : H p = none) : Q (.ref p) (upd H p (.tup vs)) :=
  h g (.ref p) _ (.new n) (o.new n) (by
    have q := RD.new_tup o n r
    cases pk with
    | true => exact .inl q
    | false => exact q)
theorem RT.int {i : Int} (h : RT K g H x (.int i)) : x = .int i := by
  rcases h with h | ⟨a, _, h⟩
  · cases h
    rfl
  · exact h.elim
theorem RT.str {i : Str} (h : RT K g H x (.str i)) : x = .str i := by
  rcases h with h | ⟨a, _, h⟩
  · cases h
    rfl
  · exact h.elim
theorem RT.bool {i : Bool} (h : RT K g H x (.bool i)) : x = .bl i := by
  rcases h with h | ⟨a, _, h⟩
  · cases h
    rfl
  · exact h.elim
theorem RT.none (h : RT K g H x .none) : x = .non := by
  rcases h with h | ⟨a, _, h⟩
  · cases h
    rfl
  · exact h.elim
theorem RT.list {ds : List D} (h : RT K g H x (.list ds)) : ∃ a vs, x = .ref a ∧ SqL K H a vs ∧ RDs K g.Z H vs ds := by
  rcases h with h | ⟨a, e, vs, h1, h2, _⟩
  · cases h with
    | list s r => exact ⟨_, _, rfl, s.seq, r⟩
  · exact ⟨a, vs, e, .inl (.inl h1), h2⟩
theorem RT.tuple {ds : List D} (h : RT K g H x (.tuple ds)) : ∃ a vs, x = .ref a ∧ SqT K H a vs ∧ RDs K g.Z H vs ds ∧ RD K g.Z H x (.tuple ds) := by
  rcases h with h | ⟨a, _, h⟩
  · cases h with
    | tuple s r => exact ⟨_, _, rfl, s, r, .tuple s r⟩
  · exact h.elim
theorem RT.seq {ds : List D} (h : RT K g H x d) (e : seqOf d = some ds) : ∃ a vs, x = .ref a ∧ (SqL K H a vs ∨ SqT K H a vs) ∧ RDs K g.Z H vs ds := by
  cases d <;> simp only [seqOf] at e <;> try cases e
  · obtain ⟨a, vs, h1, h2, h3⟩ := h.list
    exact ⟨a, vs, h1, .inl h2, h3⟩
  · obtain ⟨a, vs, h1, h2, h3, _⟩ := h.tuple
    exact ⟨a, vs, h1, .inr h2, h3⟩
theorem RT.dp (h : RT K g H x d) (c : d.canLay0 = true) : Dp K H x d := by
  rcases h with h | ⟨a, rfl, h⟩
  · exact h.dp c
  · cases d <;> try exact h.elim
    obtain ⟨vs, e, r, _⟩ := h
    exact .lst (.inl (.inl e)) (RDs.dp r c)
theorem RT.flat (h : RT K g H x d) (n : ∀ ds, d ≠ .list ds) : RD K g.Z H x d := by
  rcases h with h | ⟨a, _, h⟩
  · exact h
  · cases d <;> try exact h.elim
    exact (n _ rfl).elim

/-! ### operators -/
def opS : Op2 → Operator
  | .add => .Add | .sub => .Sub | .mul => .Mult | .fdiv => .FloorDiv | .mod => .Mod | .pow => .Pow
theorem wo_cat {xs ys : List V} {a b : Addr} (ha : SqL X.K H a xs) (hb : SqL X.K H b ys) (hz : xs.length + ys.length ≤ sizeLine) (q : ∀ p, H p = none → Q (.ref p) (upd H p (.lst (xs ++ ys)))) : WO X (binaryOp .Add) (.ref a) (.ref b) H Q := by
  intro pins s σ v u I rx ry
  cases rx
  cases ry
  obtain ⟨l1, r1, ⟨⟨c1, d1, t1, k1⟩, n1, o1, rfl, _, e1⟩, _⟩ := I.list ha
  obtain ⟨l2, r2, ⟨⟨c2, d2, t2, k2⟩, n2, o2, rfl, _, e2⟩, _⟩ := I.list hb
  simp only at e1 e2
  subst e1 e2
  have h1 := r1.length
  have h2 := r2.length
  have e : l1.toArray ++ l2.toArray = (l1 ++ l2).toArray := by simp
  refine concat_meets ⟨_, o1, rfl⟩ ⟨_, o2, rfl⟩ noFill_list_add seq_list_add PySem.F.slot_list_add PySem.F.entry_list_add (PySem.F.args_list_add_2 _ _)
    (list_addW a b l1.toArray l2.toArray n1 n2 d1 d2 k1 k2 (by rw [List.size_toArray, List.size_toArray]; omega)) ⟨o1, o2, ?_⟩
  rw [e]
  exact ⟨.ref _, _, I.lnew (t' := s.toks) (r1.append r2) (by rw [List.length_append]; omega), rfl, q _ I.fresh⟩
theorem wo_fdiv {i j : Int} (hj : divOk j = true) (q : Q (.int (i.fdiv j)) H) : WO X (binaryOp .FloorDiv) (.int i) (.int j) H Q := by
  intro pins s σ v u I rx ry
  obtain ⟨t, rfl⟩ := rx
  obtain ⟨t', rfl⟩ := ry
  simp only [divOk, Bool.and_eq_true, decide_eq_true_eq] at hj
  exact floordiv_int hj.1 ⟨.int _, H, I.tok _, ⟨_, rfl⟩, q⟩ (.inl (PyProof.noPylong_of_log2 hj.2))
theorem wo_mul {i j : Int} (hj : mulOk i j = true) (q : Q (.int (i * j)) H) : WO X (binaryOp .Mult) (.int i) (.int j) H Q := by
  simp only [mulOk, Bool.or_eq_true, decide_eq_true_eq] at hj
  rcases hj with (hj | hj) | hj
  · exact WO.of op_mul ⟨i, j, rfl, rfl, .inl ⟨by omega, by omega⟩, q⟩
  · exact WO.of op_mul ⟨i, j, rfl, rfl, .inr ⟨by omega, by omega⟩, q⟩
  · exact WO.of op_mulW ⟨i, j, rfl, rfl, hj, q⟩
theorem int_rmul_listW (a : Int) (t : Tok) (l : Addr) (items : Array Value) (n : Nat) (dd : Option Addr) (sl : Array (Option Value)) :
    Meets (Builtin.«int.__rmul__» ⟨[.int a t, .ref l], []⟩) (fun _ R s => s.heap.get? l = some { cls := .type "list", dict := dd, data := .seq items n, slots := sl } ∧ R (.ok (.ret Value.notImplemented)) s) :=
  .of_wp fun prog w A R s h => by
    obtain ⟨hp, g, d, tk, os⟩ := s
    obtain ⟨hl, h⟩ := h
    wp_walk using wpAny_loadPart' hl
    exact ⟨_, rfl, h⟩
theorem list_mulW (l : Addr) (items : Array Value) (n : Nat) (dd : Option Addr) (sl : Array (Option Value)) (x : Int) (u : Tok) (hc0 : ¬(!Builtin.List.listFitsIndex x) = true) (hc1 : ¬items.size * x.toNat > (2 ^ 63 - 1) / 8) (hc2 : ¬Builtin.List.listTooLong (items.size * x.toNat) = true)
    (hsz : (List.foldl (fun x1 x2 => x1 ++ x2) #[] (List.replicate (if items.isEmpty = true then 0 else x.toNat) items)).size ≤ sizeLine) :
    Meets (Builtin.«list.__mul__» ⟨[.ref l, .int x u], []⟩) (fun _ R s => s.heap.get? l = some { cls := .type "list", dict := dd, data := .seq items n, slots := sl } ∧
      R (.ok (.ret (Value.ref s.heap.objs.size))) { s with heap := s.heap.push { cls := Value.type "list", data := Data.seq (List.foldl (fun x1 x2 => x1 ++ x2) #[] (List.replicate (if items.isEmpty = true then 0 else x.toNat) items)) }, toks := s.toks }) :=
  .of_wp fun prog w A R s h => by
    obtain ⟨hp, g, d, tk, os⟩ := s
    obtain ⟨hl, h⟩ := h
    wp_walk using wpAny_loadPart' hl
    refine wpAny_ite_false (decide_eq_false (Nat.not_lt.mpr hsz)) ?_
    wp_walk using wpAny_loadPart' hl
    exact ⟨_, rfl, h⟩
theorem wo_repL {a : Addr} {xs : List V} {k : Int} (ha : SqL X.K H a xs) (h0 : xs ≠ []) (h1 : 2 ≤ k) (h2 : k ≤ 1000) (hz : xs.length ≤ 1000) (q : ∀ p, H p = none → Q (.ref p) (upd H p (.lst (List.replicate k.toNat xs).flatten))) : WO X (binaryOp .Mult) (.ref a) (.int k) H Q := by
  intro pins s σ v u I rx ry
  cases rx
  obtain ⟨t, rfl⟩ := ry
  obtain ⟨its, r, ⟨⟨cls, dd, data, sl⟩, n, ho, hc, _, hd⟩, _⟩ := I.list ha
  simp only at hc hd
  subst hc hd
  have hle : its.length = xs.length := r.length.symm
  have hn : its ≠ [] := fun e => h0 (by
    rw [e] at hle
    exact List.eq_nil_of_length_eq_zero hle.symm)
  have hi : its.toArray.isEmpty = false := by
    cases its with
    | nil => exact absurd rfl hn
    | cons a b => rfl
  have a1 : k.toNat * xs.length ≤ 1000 * 1000 := Nat.mul_le_mul (by omega) hz
  have flen : (List.replicate k.toNat its).flatten.length ≤ sizeLine := by
    rw [PyProof.Rows.lm_len_rep_flat, hle, sizeLine_eq]
    omega
  have hlen : its.toArray.size * k.toNat ≤ sizeLine := by
    rw [List.size_toArray, hle, Nat.mul_comm, sizeLine_eq]
    omega
  have hcap : ¬ its.toArray.size * k.toNat > (2 ^ 63 - 1) / 8 := by
    have : (sizeLine : Nat) ≤ (2 ^ 63 - 1) / 8 := by decide
    omega
  have hfit : ¬ (!Builtin.List.listFitsIndex k) = true := by
    rw [fitsIndex_both (by omega) (by omega)]
    exact Bool.false_ne_true
  have hlong : ¬ Builtin.List.listTooLong (its.toArray.size * k.toNat) = true := by
    rw [notLongL hlen]
    exact Bool.false_ne_true
  have hnew : List.foldl (fun x1 x2 => x1 ++ x2) #[] (List.replicate (if its.toArray.isEmpty = true then 0 else k.toNat) its.toArray) = (List.replicate k.toNat its).flatten.toArray := by
    rw [hi, if_neg Bool.false_ne_true, size_rep]
  refine wpAny_binaryOp_repeat_ref (T := "list") (U := "int") (by decide) ⟨_, ho, rfl⟩ (fun s' => typeIs_int s' k t) noFill_list_mul F.fills_int_mul F.slot_int_rmul repeat_list F.slot_int_index.lookup
    (call_meets F.slot_int_rmul (typeIs_int s k t) F.entry_int_rmul (F.args_int_rmul_2 _ _) (int_rmul_listW k t a its.toArray n dd sl)
      ⟨ho, rfl, ⟨_, ho, rfl⟩, call_meets F.slot_list_mul ⟨_, ho, rfl⟩ F.entry_list_mul (F.args_list_mul_2 _ _) (list_mulW a its.toArray n dd sl k t hfit hcap hlong (by rw [hnew, List.size_toArray]; exact flen)) ⟨ho, ?_⟩⟩)
  rw [hnew]
  exact ⟨.ref _, _, I.lnew (t' := s.toks) (r.rep k.toNat) (by rw [PyProof.Rows.lm_len_rep_flat, sizeLine_eq]; omega), rfl, q _ I.fresh⟩
theorem bin_ok {o : Op2} {b : Bool} {r : D} (hx : RT K g H x d) (hy : RT K g H y e) (eK : X.K = K) (ok : Ok K g H st) (h : bin o d e = some (b, r)) (q : Fin K pk g H st ⟨b, .dat r⟩ Q) : WO X (binaryOp (opS o)) x y H Q := by
  subst eK
  cases o
  case add =>
    cases d <;> cases e <;> simp only [bin] at h <;> try cases h
    · have e1 := hx.int
      have e2 := hy.int
      subst e1 e2
      exact WO.of op_add ⟨_, _, rfl, rfl, q.plain ok (.int _)⟩
    · have e1 := hx.str
      have e2 := hy.str
      subst e1 e2
      cases hz : fits _ <;> rw [hz] at h <;> cases h
      exact WO.of op_add_str ⟨_, _, rfl, rfl, of_decide_eq_true hz, q.plain ok (.str _)⟩
    · obtain ⟨a, vs, rfl, s1, r1⟩ := hx.list
      obtain ⟨b, us, rfl, s2, r2⟩ := hy.list
      cases hz : fits _ <;> rw [hz] at h <;> cases h
      have hz := of_decide_eq_true hz
      rw [← r1.length, ← r2.length] at hz
      exact wo_cat s1 s2 hz fun p n => q.lst ok (r1.append r2) n
    · obtain ⟨a, vs, rfl, s1, r1, w1⟩ := hx.tuple
      obtain ⟨b, us, rfl, s2, r2, w2⟩ := hy.tuple
      cases hz : fits _ <;> rw [hz] at h <;> cases h
      have hz := of_decide_eq_true hz
      rw [← r1.length, ← r2.length] at hz
      refine WO.of op_catA ⟨a, b, vs, us, rfl, rfl, s1, s2, hz, fun ev => ?_, fun _ eu => ?_, fun _ _ p n => q.tup ok (r1.append r2) n⟩
      · subst ev
        cases r1
        exact q.plain ok w2
      · subst eu
        cases r2
        exact q.plain ok (by rw [List.append_nil]; exact w1)
  case sub =>
    cases d <;> cases e <;> simp only [bin] at h <;> try cases h
    have e1 := hx.int
    have e2 := hy.int
    subst e1 e2
    exact WO.of op_sub ⟨_, _, rfl, rfl, q.plain ok (.int _)⟩
  case mul =>
    cases d <;> cases e <;> simp only [bin] at h <;> try cases h
    · have e1 := hx.int
      have e2 := hy.int
      subst e1 e2
      cases hz : mulOk _ _ <;> rw [hz] at h <;> cases h
      exact wo_mul hz (q.plain ok (.int _))
    · obtain ⟨a, vs, rfl, s1, r1⟩ := hx.list
      have e2 := hy.int
      subst e2
      cases hz : repOk _ _ <;> rw [hz] at h <;> cases h
      simp only [repOk, Bool.and_eq_true, decide_eq_true_eq] at hz
      obtain ⟨⟨⟨h0, h1⟩, h2⟩, h3⟩ := hz
      refine wo_repL s1 (fun ev => ?_) h1 h2 (by rw [r1.length]; exact h3) fun p n => q.lst ok (r1.replicate (v := .non) (d := .none) _) n
      subst ev
      cases r1
      simp at h0
    · obtain ⟨a, vs, rfl, s1, r1, w1⟩ := hx.tuple
      have e2 := hy.int
      subst e2
      cases hz : repOk _ _ <;> rw [hz] at h <;> cases h
      simp only [repOk, Bool.and_eq_true, decide_eq_true_eq] at hz
      obtain ⟨⟨⟨h0, h1⟩, h2⟩, h3⟩ := hz
      refine WO.of op_repT ⟨a, _, vs, rfl, rfl, s1, fun ev => ?_, h1, h2, by rw [r1.length]; exact h3, fun p n => q.tup ok (r1.replicate (v := .non) (d := .none) _) n⟩
      subst ev
      cases r1
      simp at h0
  case fdiv =>
    cases d <;> cases e <;> simp only [bin] at h <;> try cases h
    have e1 := hx.int
    have e2 := hy.int
    subst e1 e2
    cases hz : divOk _ <;> rw [hz] at h <;> cases h
    exact wo_fdiv hz (q.plain ok (.int _))
  case mod =>
    cases d <;> cases e <;> simp only [bin] at h <;> try cases h
    have e1 := hx.int
    have e2 := hy.int
    subst e1 e2
    rename_i i j
    cases hz : decide (j ≠ 0) <;> rw [hz] at h <;> cases h
    exact WO.of op_modN ⟨_, _, rfl, rfl, of_decide_eq_true hz, q.plain ok (.int _)⟩
  case pow =>
    cases d <;> cases e <;> simp only [bin] at h <;> try cases h
    have e1 := hx.int
    have e2 := hy.int
    subst e1 e2
    cases hz : powOk _ _ <;> rw [hz] at h <;> cases h
    simp only [powOk, Bool.and_eq_true, decide_eq_true_eq] at hz
    exact WO.of op_pow ⟨_, _, rfl, rfl, ⟨hz.1.1, hz.1.2, hz.2⟩, q.plain ok (.int _)⟩

/-! ### comparisons -/
def cpS : Cp → CmpOp
  | .eq => .Eq | .ne => .NotEq | .lt => .Lt | .le => .LtE | .gt => .Gt | .ge => .GtE | .isIn => .In | .notIn => .NotIn | .is => .Is | .isNot => .IsNot
theorem canLay_of {d : D} (h : shp d = true) : d.canLay0 = true := (Bool.and_eq_true_iff.mp h).1
theorem eqD_cases {d e : D} {b : Bool} (h : eqD d e = some b) : (∃ x y, d = .str x ∧ e = .str y ∧ b = decide (x = y)) ∨ (shp d = true ∧ shp e = true ∧ b = PyData.eqv d e) ∨ ∃ xs ys, d = .list xs ∧ e = .list ys ∧ xs.length ≠ ys.length ∧ b = false := by
  by_cases hs : ∃ x y, d = .str x ∧ e = .str y
  · obtain ⟨x, y, rfl, rfl⟩ := hs
    exact .inl ⟨x, y, rfl, rfl, (Option.some.inj h).symm⟩
  · by_cases hl : ∃ xs ys, d = .list xs ∧ e = .list ys ∧ xs.length ≠ ys.length
    · obtain ⟨xs, ys, rfl, rfl, hn⟩ := hl
      have h : (bif decide (xs.length = ys.length) then (bif shp (.list xs) && shp (.list ys) then some (PyData.eqv (.list xs) (.list ys)) else none) else some false) = some b := h
      rw [decide_eq_false hn] at h
      exact .inr (.inr ⟨xs, ys, rfl, rfl, hn, (Option.some.inj h).symm⟩)
    · have h : (bif shp d && shp e then some (PyData.eqv d e) else none) = some b := by
        cases d <;> cases e <;> first
          | exact h
          | exact (hs ⟨_, _, rfl, rfl⟩).elim
          | (rename_i xs ys
             have hn : xs.length = ys.length := Classical.byContradiction fun q => hl ⟨xs, ys, rfl, rfl, q⟩
             have h : (bif decide (xs.length = ys.length) then (bif shp (.list xs) && shp (.list ys) then some (PyData.eqv (.list xs) (.list ys)) else none) else some false) = some b := h
             rw [decide_eq_true hn] at h
             exact h)
      cases hz : shp d && shp e <;> rw [hz] at h <;> cases h
      have hz := Bool.and_eq_true_iff.mp hz
      exact .inr (.inl ⟨hz.1, hz.2, rfl⟩)
theorem wo_eqLen {a b : Addr} {xs ys : List V} (hu : X.A.units < cLine) (ha : SqL X.K H a xs) (hb : SqL X.K H b ys) (hn : xs.length ≠ ys.length) (q : Q (.bl false) H) : WO X (compareOp .Eq) (.ref a) (.ref b) H Q := by
  intro pins s σ v u I rx ry
  cases rx
  cases ry
  obtain ⟨l1, r1, ⟨o1, n1, ho1, hc1, _, hd1⟩, _⟩ := I.list ha
  obtain ⟨l2, r2, ⟨o2, n2, ho2, hc2, _, hd2⟩, _⟩ := I.list hb
  have h1 := r1.length
  have h2 := r2.length
  refine SeqAt.eq_list_lengthsAt ⟨o1, ho1, hc1, n1, hd1⟩ ⟨o2, ho2, hc2, n2, hd2⟩ ?_ hu ⟨.bl _, H, I, rfl, q⟩
  rw [List.size_toArray, List.size_toArray, bne_iff_ne]
  omega
theorem wo_neLen {a b : Addr} {xs ys : List V} (hu : X.A.units < cLine) (ha : SqL X.K H a xs) (hb : SqL X.K H b ys) (hn : xs.length ≠ ys.length) (q : Q (.bl true) H) : WO X (compareOp .NotEq) (.ref a) (.ref b) H Q := by
  intro pins s σ v u I rx ry
  cases rx
  cases ry
  obtain ⟨l1, r1, ⟨o1, n1, ho1, hc1, _, hd1⟩, _⟩ := I.list ha
  obtain ⟨l2, r2, ⟨o2, n2, ho2, hc2, _, hd2⟩, _⟩ := I.list hb
  have h1 := r1.length
  have h2 := r2.length
  refine SeqAt.RcNeAt.lists_lengths ⟨o1, ho1, hc1, n1, hd1⟩ ⟨o2, ho2, hc2, n2, hd2⟩ ?_ hu _ _ _ _ ⟨.bl _, H, I, rfl, q⟩
  rw [List.size_toArray, List.size_toArray, bne_iff_ne]
  omega
theorem cmp_ok {o : Cp} {b : Bool} (hx : RT K g H x d) (hy : RT K g H y e) (eK : X.K = K) (hu : X.A.units + 65 < cLine) (ok : Ok K g H st) (h : cmpD o d e = some b) (q : Q (.bl b) H) : WO X (compareOp (cpS o)) x y H Q := by
  subst eK
  cases o
  case eq =>
    rcases eqD_cases h with ⟨u, v, rfl, rfl, rfl⟩ | ⟨h1, h2, rfl⟩ | ⟨xs, ys, rfl, rfl, hn, rfl⟩
    · have e1 := hx.str
      have e2 := hy.str
      subst e1 e2
      refine WO.of op_eq ⟨rfl, ?_⟩
      have e : decide ((V.str u) = V.str v) = decide (u = v) := by simp
      rw [e]
      exact q
    · exact WO.of (op_eqD (by omega)) ⟨d, e, hx.dp (canLay_of h1), hy.dp (canLay_of h2), h1, h2, q⟩
    · obtain ⟨a, vs, rfl, s1, r1⟩ := hx.list
      obtain ⟨b, us, rfl, s2, r2⟩ := hy.list
      exact wo_eqLen (by omega) s1 s2 (by rw [r1.length, r2.length]; exact hn) q
  case ne =>
    cases h0 : eqD d e with
    | none =>
      simp only [cmpD, h0] at h
      cases h
    | some k =>
      simp only [cmpD, h0] at h
      have h : (!k) = b := Option.some.inj h
      subst h
      rcases eqD_cases h0 with ⟨u, v, rfl, rfl, rfl⟩ | ⟨h1, h2, rfl⟩ | ⟨xs, ys, rfl, rfl, hn, rfl⟩
      · have e1 := hx.str
        have e2 := hy.str
        subst e1 e2
        refine WO.of op_ne ⟨rfl, ?_⟩
        have e : decide ((V.str u) = V.str v) = decide (u = v) := by simp
        first
          | (rw [e]; exact q)
          | (simpa [e] using q)
      · exact WO.of (op_neD (by omega)) ⟨d, e, hx.dp (canLay_of h1), hy.dp (canLay_of h2), h1, h2, q⟩
      · obtain ⟨a, vs, rfl, s1, r1⟩ := hx.list
        obtain ⟨b, us, rfl, s2, r2⟩ := hy.list
        exact wo_neLen (by omega) s1 s2 (by rw [r1.length, r2.length]; exact hn) q
  case lt =>
    cases d <;> cases e <;> simp only [cmpD] at h <;> cases h
    have e1 := hx.int
    have e2 := hy.int
    subst e1 e2
    exact WO.of op_lt ⟨_, _, rfl, rfl, q⟩
  case le =>
    cases d <;> cases e <;> simp only [cmpD] at h <;> cases h
    have e1 := hx.int
    have e2 := hy.int
    subst e1 e2
    exact WO.of op_le ⟨_, _, rfl, rfl, q⟩
  case gt =>
    cases d <;> cases e <;> simp only [cmpD] at h <;> cases h
    have e1 := hx.int
    have e2 := hy.int
    subst e1 e2
    exact WO.of op_gt ⟨_, _, rfl, rfl, q⟩
  case ge =>
    cases d <;> cases e <;> simp only [cmpD] at h <;> cases h
    have e1 := hx.int
    have e2 := hy.int
    subst e1 e2
    exact WO.of op_ge ⟨_, _, rfl, rfl, q⟩
  case isIn =>
    cases e <;> simp only [cmpD] at h <;> try cases h
    · rename_i ys
      cases hz : shp d && shp (.list ys) <;> rw [hz] at h <;> cases h
      have hz := Bool.and_eq_true_iff.mp hz
      exact WO.of (op_inD hu) ⟨d, _, hx.dp (canLay_of hz.1), hy.dp (canLay_of hz.2), hz.1, hz.2, q⟩
    · rename_i ys
      cases hz : shp d && shp (.tuple ys) <;> rw [hz] at h <;> cases h
      have hz := Bool.and_eq_true_iff.mp hz
      intro pins s σ v u I rx ry
      obtain ⟨as, ra⟩ := Dp.reads I d x v (hx.dp (canLay_of hz.1)) rx
      obtain ⟨bs, rb⟩ := Dp.reads I _ y u (hy.dp (canLay_of hz.2)) ry
      exact SeqAt.in_tuple_reads rb ra (canLay_of hz.2) (canLay_of hz.1) (room_in_shaped hz.1 hu) ⟨.bl _, H, I, rfl, q⟩
  case notIn =>
    cases e <;> simp only [cmpD] at h <;> try cases h
    · rename_i ys
      cases hz : shp d && shp (.list ys) <;> rw [hz] at h <;> cases h
      have hz := Bool.and_eq_true_iff.mp hz
      exact WO.of (op_notInD hu) ⟨d, _, hx.dp (canLay_of hz.1), hy.dp (canLay_of hz.2), hz.1, hz.2, q⟩
    · rename_i ys
      cases hz : shp d && shp (.tuple ys) <;> rw [hz] at h <;> cases h
      have hz := Bool.and_eq_true_iff.mp hz
      intro pins s σ v u I rx ry
      obtain ⟨as, ra⟩ := Dp.reads I d x v (hx.dp (canLay_of hz.1)) rx
      obtain ⟨bs, rb⟩ := Dp.reads I _ y u (hy.dp (canLay_of hz.2)) ry
      exact SeqAt.notIn_tuple_reads rb ra (canLay_of hz.2) (canLay_of hz.1) (room_in_shaped hz.1 hu) ⟨.bl _, H, I, rfl, q⟩
  case is =>
    cases e with
    | none =>
      simp only [cmpD] at h
      cases h
      have e2 := hy.none
      subst e2
      refine WO.of op_isN ⟨rfl, ?_⟩
      rw [show decide (x = V.non) = isNone d by
        rcases hx with hx | ⟨a, rfl, hx⟩
        · cases hx <;> simp [isNone]
        · cases d <;> simp [isNone]
          exact hx.elim]
      exact q
    | bool c =>
      cases d <;> simp only [cmpD] at h <;> cases h
      have e1 := hx.bool
      have e2 := hy.bool
      subst e1 e2
      exact WO.of op_is_bl ⟨_, _, rfl, rfl, q⟩
    | _ => cases d <;> simp [cmpD] at h
  case isNot =>
    cases e with
    | none =>
      simp only [cmpD] at h
      cases h
      have e2 := hy.none
      subst e2
      refine WO.of op_notN ⟨rfl, ?_⟩
      rw [show decide (x = V.non) = isNone d by
        rcases hx with hx | ⟨a, rfl, hx⟩
        · cases hx <;> simp [isNone]
        · cases d <;> simp [isNone]
          exact hx.elim]
      exact q
    | bool c =>
      cases d <;> simp only [cmpD] at h <;> cases h
      have e1 := hx.bool
      have e2 := hy.bool
      subst e1 e2
      exact WO.of op_isnot_bl ⟨_, _, rfl, rfl, q⟩
    | _ => cases d <;> simp [cmpD] at h

/-! ### items, slices -/
theorem RDs.atI {Z : Addr → Prop} {vs : List V} {ds : List D} {k : Int} {d : D} (r : RDs K Z H vs ds) (h : ixD ds k = some d) : ∃ v, L2.atI vs k = some v ∧ RD K Z H v d := by
  unfold ixD L2.atI at h
  unfold L2.atI
  rw [r.length]
  cases hk : ixN ds.length k with
  | none =>
    rw [hk] at h
    cases h
  | some j =>
    rw [hk] at h
    exact r.get h
theorem RDs.cut {Z : Addr → Prop} {vs : List V} {ds : List D} (lo hi : Option Int) (r : RDs K Z H vs ds) : RDs K Z H (L2.cutV vs lo hi) (cutD ds lo hi) := by
  unfold L2.cutV cutD
  rw [r.length]
  exact (r.drop _).take _
/-- an item of a list or tuple -/
theorem ix_rd {ds : List D} {k : Int} {r : D} (hx : RT K g H x d) (hs : seqOf d = some ds) (h : ixD ds k = some r) (eK : X.K = K) (ok : Ok K g H st) (q : Fin K pk g H st (plain r) Q) : rIx X.K x (.int k) H Q := by
  subst eK
  obtain ⟨a, vs, rfl, s, w⟩ := hx.seq hs
  obtain ⟨v, e, rv⟩ := w.atI h
  rcases s with s | s
  · exact .inl ⟨a, vs, k, v, rfl, rfl, s, e, q.plain ok rv⟩
  · exact .inr (.inl ⟨a, vs, k, v, rfl, rfl, s, e, q.plain ok rv⟩)
def rSlD (K : PySem.W.Frag) : V → Option Int → Option Int → Hp → VK → Prop := fun x lo hi H Q => rSlL K x lo hi H Q ∨ rSlA K x lo hi H Q
theorem sl_data : SlR X (rSlD X.K) := sl_list.or sl_tupA
theorem cutD_whole {ds : List D} {lo hi : Option Int} (h : HT.sIx ds.length 0 lo = 0 ∧ HT.sIx ds.length ds.length hi = ds.length) : cutD ds lo hi = ds := by
  unfold cutD
  rw [h.1, h.2, List.drop_zero, Nat.sub_zero, List.take_length]
theorem slice_rd {lo hi : Option Int} {b : Bool} {r : D} (hx : RT K g H x d) (h : sliceD d lo hi = some (b, r)) (eK : X.K = K) (ok : Ok K g H st) (q : Fin K pk g H st ⟨b, .dat r⟩ Q) : rSlD X.K x lo hi H Q := by
  subst eK
  cases d <;> simp only [sliceD] at h <;> cases h
  · obtain ⟨a, vs, rfl, s, w⟩ := hx.list
    exact .inl ⟨a, vs, rfl, s, fun p n => q.lst ok (w.cut lo hi) n⟩
  · obtain ⟨a, vs, rfl, s, w, w1⟩ := hx.tuple
    refine .inr ⟨a, vs, rfl, s, fun z => ?_, fun _ p n => q.tup ok (w.cut lo hi) n⟩
    rw [w.length] at z
    exact q.plain ok (by rw [cutD_whole z]; exact w1)

/-! ### built-in functions -/
theorem args_gcd4 (a b c d : Value) : argsOk "math.gcd" ⟨[a, b, c, d], []⟩ := by
  unfold argsOk
  kernel_rfl
theorem run_gcd4 (a : Int) (t : Tok) (b : Int) (u : Tok) (c : Int) (v : Tok) (d : Int) (w : Tok) :
    Gives (Builtin.«math.gcd» ⟨[.int a t, .int b u, .int c v, .int d w], []⟩) (.int ((((Nat.gcd 0 a.natAbs).gcd b.natAbs).gcd c.natAbs).gcd d.natAbs : Nat)) :=
  .of_wp fun M A E s Q h => by
    obtain ⟨hp, g, d, tk, os⟩ := s
    wp_walk
    exact ⟨_, rfl, h⟩
def rGcd4 : List V → Hp → VK → Prop := fun vs H Q => ∃ a b c d : Int, vs = [.int a, .int b, .int c, .int d] ∧ Q (.int (Nat.gcd (Nat.gcd (Nat.gcd a.natAbs b.natAbs) c.natAbs) d.natAbs : Nat)) H
theorem cr_gcd4 {X : Cx} : CallR X (.builtin "math.gcd") rGcd4 := by
  intro pins s σ H vs us Q I r h
  obtain ⟨a, b, c, d, rfl, q⟩ := h
  cases r with
  | cons r1 r =>
    cases r with
    | cons r2 r =>
      cases r with
      | cons r3 r =>
        cases r with
        | cons r4 r =>
          cases r
          obtain ⟨t1, rfl⟩ := r1
          obtain ⟨t2, rfl⟩ := r2
          obtain ⟨t3, rfl⟩ := r3
          obtain ⟨t4, rfl⟩ := r4
          have g := run_gcd4 a t1 b t2 c t3 d t4
          rw [Nat.gcd_zero_left] at g
          exact PySem.call_function_meets PySem.W.MGF.kind_gcd PySem.W.MGF.plain_gcd PySem.W.MGF.entry_gcd (args_gcd4 _ _ _ _) g.meets ⟨.int _, H, I.tok _, ⟨_, rfl⟩, q⟩
def bltV : Blt → Value
  | .len => .builtin "len" | .abs => .builtin "abs" | .int => .type "int" | .tuple => .type "tuple" | .list => .type "list" | .sum => .builtin "sum" | .min => .builtin "min" | .max => .builtin "max"
  | .any => .builtin "any" | .all => .builtin "all" | .repr => .builtin "repr" | .gcd => .builtin "math.gcd" | .sorted => .builtin "sorted" | .str => .type "str"
inductive RTs (K : PySem.W.Frag) (g : G) (H : Hp) : List V → List D → Prop
  | nil : RTs K g H [] []
  | cons {v : V} {vs : List V} {d : D} {ds : List D} : RT K g H v d → RTs K g H vs ds → RTs K g H (v :: vs) (d :: ds)
theorem RTs.step {g1 : G} {H1 : Hp} (s : Step g H g1 H1) (o : Ok K g H st) : ∀ {vs : List V} {ds : List D}, RTs K g H vs ds → RTs K g1 H1 vs ds
  | _, _, .nil => .nil
  | _, _, .cons r t => .cons (r.step s o) (RTs.step s o t)
theorem RDs.bools {Z : Addr → Prop} : ∀ {vs : List V} {ds : List D} {bs : List Bool}, RDs K Z H vs ds → boolsOf ds = some bs → vs = bs.map V.bl
  | _, _, _, .nil, e => by
    cases e
    rfl
  | _, _, _, .cons r t, e => by
    rename_i d ds
    cases d <;> simp only [boolsOf] at e <;> try cases e
    rename_i b
    cases hb : boolsOf ds with
    | none =>
      rw [hb] at e
      cases e
    | some c =>
      rw [hb] at e
      cases e
      cases r
      rw [List.map_cons, ← RDs.bools t hb]
theorem RDs.ints {Z : Addr → Prop} : ∀ {vs : List V} {ds : List D} {is : List Int}, RDs K Z H vs ds → intsOf ds = some is → vs = is.map V.int
  | _, _, _, .nil, e => by
    cases e
    rfl
  | _, _, _, .cons r t, e => by
    rename_i d ds
    cases d <;> simp only [intsOf] at e <;> try cases e
    rename_i b
    cases hb : intsOf ds with
    | none =>
      rw [hb] at e
      cases e
    | some c =>
      rw [hb] at e
      cases e
      cases r
      rw [List.map_cons, ← RDs.ints t hb]
theorem RDs.ofInts {Z : Addr → Prop} : ∀ (is : List Int), RDs K Z H (is.map V.int) (is.map PyData.int)
  | [] => .nil
  | _ :: is => .cons (.int _) (RDs.ofInts is)
theorem minI_le : ∀ (r : List Int) (a : Int), minI a r ∈ a :: r ∧ ∀ y ∈ a :: r, minI a r ≤ y
  | [], a => ⟨List.mem_cons_self, fun y h => by
    have := List.mem_singleton.mp h
    subst this
    exact Int.le_refl _⟩
  | b :: r, a => by
    obtain ⟨h1, h2⟩ := minI_le r (if b < a then b else a)
    have e : minI a (b :: r) = minI (if b < a then b else a) r := rfl
    rw [e]
    refine ⟨?_, fun y hy => ?_⟩
    · rcases List.mem_cons.mp h1 with q | q
      · rw [q]
        split
        · exact List.mem_cons_of_mem _ List.mem_cons_self
        · exact List.mem_cons_self
      · exact List.mem_cons_of_mem _ (List.mem_cons_of_mem _ q)
    · have h3 := h2 _ List.mem_cons_self
      have h4 : (if b < a then b else a) ≤ a := by split <;> omega
      have h5 : (if b < a then b else a) ≤ b := by split <;> omega
      rcases List.mem_cons.mp hy with rfl | hy
      · omega
      · rcases List.mem_cons.mp hy with rfl | hy
        · omega
        · exact h2 y (List.mem_cons_of_mem _ hy)
theorem maxI_le : ∀ (r : List Int) (a : Int), maxI a r ∈ a :: r ∧ ∀ y ∈ a :: r, y ≤ maxI a r
  | [], a => ⟨List.mem_cons_self, fun y h => by
    have := List.mem_singleton.mp h
    subst this
    exact Int.le_refl _⟩
  | b :: r, a => by
    obtain ⟨h1, h2⟩ := maxI_le r (if a < b then b else a)
    have e : maxI a (b :: r) = maxI (if a < b then b else a) r := rfl
    rw [e]
    refine ⟨?_, fun y hy => ?_⟩
    · rcases List.mem_cons.mp h1 with q | q
      · rw [q]
        split
        · exact List.mem_cons_of_mem _ List.mem_cons_self
        · exact List.mem_cons_self
      · exact List.mem_cons_of_mem _ (List.mem_cons_of_mem _ q)
    · have h3 := h2 _ List.mem_cons_self
      have h4 : a ≤ (if a < b then b else a) := by split <;> omega
      have h5 : b ≤ (if a < b then b else a) := by split <;> omega
      rcases List.mem_cons.mp hy with rfl | hy
      · omega
      · rcases List.mem_cons.mp hy with rfl | hy
        · omega
        · exact h2 y (List.mem_cons_of_mem _ hy)
theorem nu2min (i j : Int) : nuMin2 (.int i) (.int j) = some (.int (if j < i then j else i)) := by
  show some (if decide (j < i) = true then V.int j else V.int i) = _
  by_cases h : j < i
  · rw [decide_eq_true h, if_pos rfl, if_pos h]
  · rw [decide_eq_false h, if_neg Bool.false_ne_true, if_neg h]
theorem nu2max (i j : Int) : nuMax2 (.int i) (.int j) = some (.int (if i < j then j else i)) := by
  show some (if decide (i < j) = true then V.int j else V.int i) = _
  by_cases h : i < j
  · rw [decide_eq_true h, if_pos rfl, if_pos h]
  · rw [decide_eq_false h, if_neg Bool.false_ne_true, if_neg h]
theorem nu3min (i j k : Int) : nuMin3 (.int i) (.int j) (.int k) = some (.int (if k < (if j < i then j else i) then k else (if j < i then j else i))) := by
  unfold nuMin3
  rw [nu2min]
  exact nu2min _ _
theorem nu3max (i j k : Int) : nuMax3 (.int i) (.int j) (.int k) = some (.int (if (if i < j then j else i) < k then k else (if i < j then j else i))) := by
  unfold nuMax3
  rw [nu2max]
  exact nu2max _ _
theorem sort_uniq {ns ms : List Int} (p : ms.Perm ns) (s : ms.Pairwise (· ≤ ·)) : ms = ns.mergeSort fun a b => decide (a ≤ b) := by
  have h := List.pairwise_mergeSort (le := fun a b : Int => decide (a ≤ b)) (fun a b c h1 h2 => by simp at *; omega) (fun a b => by simp; omega) ns
  refine List.Perm.eq_of_pairwise (le := fun a b => a ≤ b) (fun a b _ _ h1 h2 => Int.le_antisymm h1 h2) s (h.imp fun q => of_decide_eq_true q) (p.trans (List.mergeSort_perm ns _).symm)
mutual
theorem RD.reads {pins : List (Addr × Obj)} {s : Shared} {σ : L2.St} {Z : Addr → Prop} (I : Inv X pins σ H s) : ∀ {v : V} {d : D} {u : Value}, RD X.K Z H v d → d.hasDict = false → RelV v u → ∃ as, Reads s.heap u d as
  | _, _, _, .none, _, r => by
    cases r
    exact ⟨_, Reads.none⟩
  | _, _, _, .bool b, _, r => by
    cases r
    exact ⟨_, Reads.bool b⟩
  | _, _, _, .int i, _, r => by
    obtain ⟨t, rfl⟩ := r
    exact ⟨_, Reads.int i t⟩
  | _, _, _, .str i, _, r => by
    obtain ⟨t, rfl⟩ := r
    exact ⟨_, Reads.str i t⟩
  | _, _, _, .tuple hs w, hd, r => by
    cases r
    obtain ⟨its, rv, ⟨o, ho, hc, n, hda⟩, _⟩ := I.tuple hs
    obtain ⟨as, hr⟩ := RDs.reads I w hd rv
    exact ⟨_, Reads.tuple ho hc hda hr⟩
  | _, _, _, .list hs w, hd, r => by
    cases r
    obtain ⟨its, rv, ⟨o, n, ho, hc, _, hda⟩, _⟩ := I.list hs.seq
    obtain ⟨as, hr⟩ := RDs.reads I w hd rv
    exact ⟨_, Reads.list ho hc hda hr⟩
  | _, _, _, .dict _ _ _, hd, _ => by simp [PyData.hasDict] at hd
theorem RDs.reads {pins : List (Addr × Obj)} {s : Shared} {σ : L2.St} {Z : Addr → Prop} (I : Inv X pins σ H s) : ∀ {vs : List V} {ds : List D} {us : List Value}, RDs X.K Z H vs ds → PyData.hasDictAll ds = false → Vals vs us → ∃ as, ReadsAll s.heap us ds as
  | _, _, _, .nil, _, r => by
    cases r
    exact ⟨_, ReadsAll.nil⟩
  | _, _, _, .cons w t, hd, r => by
    simp only [PyData.hasDictAll, Bool.or_eq_false_iff] at hd
    cases r with
    | cons r1 r2 =>
      obtain ⟨as, h1⟩ := RD.reads I w hd.1 r1
      obtain ⟨bs, h2⟩ := RDs.reads I t hd.2 r2
      exact ⟨_, ReadsAll.cons h1 h2⟩
end
theorem RT.reads {pins : List (Addr × Obj)} {s : Shared} {σ : L2.St} {u : Value} (I : Inv X pins σ H s) (h : RT X.K g H x d) (hd : d.hasDict = false) (r : RelV x u) : ∃ as, Reads s.heap u d as := by
  rcases h with h | ⟨a, rfl, h⟩
  · exact h.reads I hd r
  · cases d <;> try exact h.elim
    obtain ⟨vs, e, w, _⟩ := h
    cases r
    obtain ⟨its, rv, ⟨o, n, ho, hc, _, hda⟩, _⟩ := I.list (.inl (.inl e))
    obtain ⟨as, hr⟩ := RDs.reads I w hd rv
    exact ⟨_, Reads.list ho hc hda hr⟩
mutual
theorem RD.reads2 {pins : List (Addr × Obj)} {s : Shared} {σ : L2.St} {Z : Addr → Prop} (I : Inv X pins σ H s) : ∀ {v : V} {d : D} {u : Value}, RD X.K Z H v d → dOk d = true → RelV v u → ∃ as, Reads s.heap u d as ∧ sysModules ∉ as
  | _, _, _, .none, _, r => by
    cases r
    exact ⟨_, Reads.none, List.not_mem_nil⟩
  | _, _, _, .bool b, _, r => by
    cases r
    exact ⟨_, Reads.bool b, List.not_mem_nil⟩
  | _, _, _, .int i, _, r => by
    obtain ⟨t, rfl⟩ := r
    exact ⟨_, Reads.int i t, List.not_mem_nil⟩
  | _, _, _, .str i, _, r => by
    obtain ⟨t, rfl⟩ := r
    exact ⟨_, Reads.str i t, List.not_mem_nil⟩
  | _, _, _, .tuple hs w, hd, r => by
    cases r
    obtain ⟨its, rv, ⟨o, ho, hc, n, hda⟩, _⟩ := I.tuple hs
    obtain ⟨as, hr, hn⟩ := RDs.reads2 I w hd rv
    exact ⟨_, Reads.tuple ho hc hda hr, hn⟩
  | _, _, _, .list hs w, hd, r => by simp [dOk] at hd
  | _, _, _, .dict (a := a) z sd w, hd, r => by
    cases r
    cases w with
    | cons _ _ => simp [dOk] at hd
    | nil =>
      have ob : ObjOk X.prog X.w H s.heap a (.dK []) := by
        rcases sd with sd | ⟨o, sd⟩
        · exact I.hok _ _ sd
        · exact (I.hok _ _ sd).2
      obtain ⟨_, hb, vs, kv, o, es, ep, ho, hx, hda, _, hp, _⟩ := ob
      cases kv
      have e : es.toList = [] := by
        have := hp
        cases q : es.toList with
        | nil => rfl
        | cons _ _ =>
          rw [q] at hp
          cases hp
      refine ⟨[a], Reads.dict (as := []) (bs := []) ho hx.1 hda ?_ ?_, fun m => ?_⟩
      · rw [e]
        exact .nil
      · rw [e]
        exact .nil
      · have := List.mem_singleton.mp m
        subst this
        simp at hb
theorem RDs.reads2 {pins : List (Addr × Obj)} {s : Shared} {σ : L2.St} {Z : Addr → Prop} (I : Inv X pins σ H s) : ∀ {v : List V} {d : List D} {u : List Value}, RDs X.K Z H v d → dOks d = true → Vals v u → ∃ as, ReadsAll s.heap u d as ∧ sysModules ∉ as
  | _, _, _, .nil, _, r => by
    cases r
    exact ⟨_, ReadsAll.nil, List.not_mem_nil⟩
  | _, _, _, .cons w t, hd, r => by
    obtain ⟨h1, h2⟩ := Bool.and_eq_true_iff.mp (show (dOk _ && dOks _) = true from hd)
    cases r with
    | cons r1 r2 =>
      obtain ⟨as, a1, a2⟩ := RD.reads2 I w h1 r1
      obtain ⟨bs, b1, b2⟩ := RDs.reads2 I t h2 r2
      exact ⟨_, ReadsAll.cons a1 b1, fun m => (List.mem_append.mp m).elim a2 b2⟩
end
theorem RT.reads2 {pins : List (Addr × Obj)} {s : Shared} {σ : L2.St} {u : Value} (I : Inv X pins σ H s) (h : RT X.K g H x d) (hd : d.hasDict = false ∨ dOk d = true) (r : RelV x u) : ∃ as, Reads s.heap u d as ∧ (d.hasDict = true → sysModules ∉ as) := by
  rcases hd with hd | hd
  · obtain ⟨as, w⟩ := h.reads I hd r
    exact ⟨as, w, PyData.noDict_hsm hd⟩
  · rcases h with h | ⟨a, rfl, h⟩
    · obtain ⟨as, w, n⟩ := h.reads2 I hd r
      exact ⟨as, w, fun _ => n⟩
    · cases d <;> try exact h.elim
      simp [dOk] at hd
theorem wc_repr (hg : X.A.guards = some []) (hu : X.A.units + 150 < cLine) (hx : RT K g H x d) (eK : X.K = K) (h : showOk d = true) (q : Q (.str d.shown) H) : WC X (.builtin "repr") [x] H Q := by
  subst eK
  simp only [showOk, Bool.and_eq_true, Bool.or_eq_true, decide_eq_true_eq, Bool.not_eq_true'] at h
  obtain ⟨⟨⟨h1, hl⟩, h3⟩, h4⟩ := h
  have h2 : d.shown.length ≤ sizeLine := of_decide_eq_true hl
  intro pins s σ us I r
  obtain ⟨u, eu, ru⟩ := vals1 r
  subst eu
  cases d with
  | none =>
    have e := hx.none
    subst e
    cases ru
    exact PySem.P.repr_of_none ⟨.str _, H, I.tok _, ⟨_, rfl⟩, q⟩
  | bool b =>
    have e := hx.bool
    subst e
    cases ru
    exact PySem.P.repr_of_bool ⟨.str _, H, I.tok _, ⟨_, rfl⟩, q⟩
  | int i =>
    have e := hx.int
    subst e
    obtain ⟨t, rfl⟩ := ru
    simp only [PyData.showable, decide_eq_true_eq] at h3
    exact PySem.P.repr_of_int h3 ⟨.str _, H, I.tok _, ⟨_, rfl⟩, q⟩
  | str z =>
    have e := hx.str
    subst e
    obtain ⟨t, rfl⟩ := ru
    exact PySem.P.repr_of_str ⟨.str _, H, I.tok _, ⟨_, rfl⟩, by simpa only [PyData.shown] using q⟩ (by simpa only [PyData.shown] using h2)
  | list ds =>
    obtain ⟨as, w, hm⟩ := hx.reads2 I h4 ru
    obtain ⟨a, vs, rfl, _⟩ := hx.list
    cases ru
    exact repr_of_reads' w h3 hm hg (by omega) (fun _ _ e => e) (fun h' u tk hk => ⟨.str _, H, I.kept hk, ⟨_, rfl⟩, q⟩) h2
  | tuple ds =>
    obtain ⟨as, w, hm⟩ := hx.reads2 I h4 ru
    obtain ⟨a, vs, rfl, _⟩ := hx.tuple
    cases ru
    exact repr_of_reads' w h3 hm hg (by omega) (fun _ _ e => e) (fun h' u tk hk => ⟨.str _, H, I.kept hk, ⟨_, rfl⟩, q⟩) h2
  | dict ds =>
    obtain ⟨as, w, hm⟩ := hx.reads2 I h4 ru
    rcases hx with hx | ⟨a, rfl, hx⟩
    · cases hx with
      | dict z s r =>
        cases ru
        exact repr_of_reads' w h3 hm hg (by omega) (fun _ _ e => e) (fun h' u tk hk => ⟨.str _, H, I.kept hk, ⟨_, rfl⟩, q⟩) h2
    · exact hx.elim
theorem blt_ok {f : Blt} {xs : List V} {ds : List D} {b : Bool} {r : D} (hg : X.A.guards = some []) (hu : X.A.units + 150 < cLine) (hc : X.calm = true) (hx : RTs K g H xs ds) (eK : X.K = K) (ok : Ok K g H st) (h : bltF f ds = some (b, r)) (q : Fin K pk g H st ⟨b, .dat r⟩ Q) : WC X (bltV f) xs H Q := by
  subst eK
  cases hx with
  | nil => cases f <;> simp [bltF] at h
  | cons h1 t =>
    cases t with
    | nil =>
      rename_i v d
      cases f
      case len =>
        cases d <;> simp only [bltF] at h <;> try cases h
        · have e := h1.str
          subst e
          cases hz : fits _ <;> rw [hz] at h <;> cases h
          exact WC.of call_len_str ⟨_, rfl, of_decide_eq_true hz, q.plain ok (.int _)⟩
        · obtain ⟨a, vs, rfl, s, w⟩ := h1.list
          exact WC.of call_len_seq ⟨a, vs, rfl, .inl s, by rw [w.length]; exact q.plain ok (.int _)⟩
        · obtain ⟨a, vs, rfl, s, w, _⟩ := h1.tuple
          exact WC.of call_len_seq ⟨a, vs, rfl, .inr s, by rw [w.length]; exact q.plain ok (.int _)⟩
      case abs =>
        cases d <;> simp only [bltF] at h <;> try cases h
        have e := h1.int
        subst e
        rename_i i
        refine WC.of call_abs ⟨_, rfl, ?_⟩
        rw [show (if i < 0 then -i else i) = ((i.natAbs : Nat) : Int) by split <;> omega]
        exact q.plain ok (.int _)
      case int =>
        cases d <;> simp only [bltF] at h <;> try cases h
        have e := h1.int
        subst e
        exact WC.of call_int1 (.inl ⟨_, rfl, q.plain ok (.int _)⟩)
      case tuple =>
        cases d <;> simp only [bltF] at h <;> try cases h
        · obtain ⟨a, vs, rfl, s, w⟩ := h1.list
          exact WC.of call_tuple_of ⟨a, vs, rfl, .inl ⟨s, fun l n => q.tup ok w n⟩⟩
        · obtain ⟨a, vs, rfl, s, w, w1⟩ := h1.tuple
          exact WC.of call_tuple_of ⟨a, vs, rfl, .inr ⟨s, q.plain ok w1⟩⟩
      case list =>
        cases d <;> simp only [bltF] at h <;> try cases h
        · obtain ⟨a, vs, rfl, s, w⟩ := h1.list
          exact WC.of call_list_of ⟨a, vs, rfl, .inl s, fun l n => q.lst ok w n⟩
        · obtain ⟨a, vs, rfl, s, w, w1⟩ := h1.tuple
          exact WC.of call_list_of ⟨a, vs, rfl, .inr s, fun l n => q.lst ok w n⟩
      case repr =>
        simp only [bltF] at h
        cases hz : showOk d <;> rw [hz] at h <;> cases h
        exact wc_repr hg hu h1 rfl hz (q.plain ok (.str _))
      case any =>
        cases d <;> simp only [bltF] at h <;> try cases h
        obtain ⟨a, vs, rfl, s, w⟩ := h1.list
        rename_i ds
        cases hb : boolsOf ds with
        | none =>
          rw [hb] at h
          cases h
        | some c =>
          rw [hb] at h
          cases h
          exact WC.of (cr_any hc) ⟨a, c, rfl, by rw [← w.bools hb]; exact s, q.plain ok (.bool _)⟩
      case all =>
        cases d <;> simp only [bltF] at h <;> try cases h
        obtain ⟨a, vs, rfl, s, w⟩ := h1.list
        rename_i ds
        cases hb : boolsOf ds with
        | none =>
          rw [hb] at h
          cases h
        | some c =>
          rw [hb] at h
          cases h
          exact WC.of (cr_all hc) ⟨a, c, rfl, by rw [← w.bools hb]; exact s, q.plain ok (.bool _)⟩
      case min =>
        cases d <;> simp only [bltF] at h <;> try cases h
        obtain ⟨a, vs, rfl, s, w⟩ := h1.list
        rename_i ds
        rcases hb : intsOf ds with _ | (_ | ⟨c, cs⟩) <;> rw [hb] at h <;> cases h
        obtain ⟨m1, m2⟩ := minI_le cs c
        refine WC.of (cr_min hc) ⟨a, c :: cs, rfl, by rw [← w.ints hb]; exact s, Nat.succ_pos _, fun m h1 h2 => ?_⟩
        have e : m = minI c cs := Int.le_antisymm (h2 _ m1) (m2 _ h1)
        rw [e]
        exact q.plain ok (.int _)
      case max =>
        cases d <;> simp only [bltF] at h <;> try cases h
        obtain ⟨a, vs, rfl, s, w⟩ := h1.list
        rename_i ds
        rcases hb : intsOf ds with _ | (_ | ⟨c, cs⟩) <;> rw [hb] at h <;> cases h
        obtain ⟨m1, m2⟩ := maxI_le cs c
        refine WC.of (cr_max hc) ⟨a, c :: cs, rfl, by rw [← w.ints hb]; exact s, Nat.succ_pos _, fun m h1 h2 => ?_⟩
        have e : m = maxI c cs := Int.le_antisymm (m2 _ h1) (h2 _ m1)
        rw [e]
        exact q.plain ok (.int _)
      case sum =>
        cases d <;> simp only [bltF] at h <;> try cases h
        obtain ⟨a, vs, rfl, s, w⟩ := h1.list
        rename_i ds
        rcases hb : intsOf ds with _ | cs <;> rw [hb] at h <;> cases h
        exact WC.of (cr_sum hc) ⟨a, cs, rfl, by rw [← w.ints hb]; exact s, q.plain ok (.int _)⟩
      case sorted =>
        cases d <;> simp only [bltF] at h <;> try cases h
        obtain ⟨a, vs, rfl, s, w⟩ := h1.list
        rename_i ds
        rcases hb : intsOf ds with _ | cs <;> rw [hb] at h <;> cases h
        refine WC.of cr_sortedI ⟨a, cs, rfl, by rw [← w.ints hb]; exact s, fun ms p hp hs hn => ?_⟩
        rw [sort_uniq hp hs]
        exact q.lst ok (RDs.ofInts _) hn
      all_goals (cases d <;> simp [bltF] at h)
    | cons h2 t =>
      cases t with
      | nil =>
        rename_i v d w e
        cases f
        case min =>
          cases d <;> cases e <;> simp only [bltF] at h <;> try cases h
          have e1 := h1.int
          have e2 := h2.int
          subst e1 e2
          exact WC.of (call_min2 hc) ⟨_, _, rfl, q.plain ok (.int _)⟩
        case max =>
          cases d <;> cases e <;> simp only [bltF] at h <;> try cases h
          have e1 := h1.int
          have e2 := h2.int
          subst e1 e2
          exact WC.of (call_max2 hc) ⟨_, _, rfl, q.plain ok (.int _)⟩
        case gcd =>
          cases d <;> cases e <;> simp only [bltF] at h <;> try cases h
          have e1 := h1.int
          have e2 := h2.int
          subst e1 e2
          exact WC.of cr_gcd ⟨_, _, rfl, q.plain ok (.int _)⟩
        all_goals (cases d <;> cases e <;> simp [bltF] at h)
      | cons h3 t =>
        rename_i v d w e z k us es
        cases t with
        | nil =>
          cases f
          case min =>
            cases d <;> cases e <;> cases us <;> simp only [bltF] at h <;> try cases h
            have e1 := h1.int
            have e2 := h2.int
            have e3 := h3.int
            subst e1 e2 e3
            exact WC.of (call_min3Nu hc) ⟨_, _, _, _, rfl, nu3min _ _ _, q.plain ok (.int _)⟩
          case max =>
            cases d <;> cases e <;> cases us <;> simp only [bltF] at h <;> try cases h
            have e1 := h1.int
            have e2 := h2.int
            have e3 := h3.int
            subst e1 e2 e3
            exact WC.of (call_max3Nu hc) ⟨_, _, _, _, rfl, nu3max _ _ _, q.plain ok (.int _)⟩
          all_goals simp [bltF] at h
        | cons h4 t =>
          cases t with
          | cons h5 t => cases f <;> simp [bltF] at h
          | nil =>
            rename_i v4 d4
            cases f
            case gcd =>
              cases d <;> cases e <;> cases us <;> cases d4 <;> simp only [bltF] at h <;> try cases h
              have e1 := h1.int
              have e2 := h2.int
              have e3 := h3.int
              have e4 := h4.int
              subst e1 e2 e3 e4
              exact WC.of cr_gcd4 ⟨_, _, _, _, rfl, q.plain ok (.int _)⟩
            all_goals simp [bltF] at h
/-- isinstance by built-in types -/
theorem isi_none {ts : List String} : ts.any (isA .none) = false := by
  induction ts with
  | nil => rfl
  | cons t r ih => rw [List.any_cons, ih] <;> rfl
end
end MP

/-! What holds behind an expression: wishes, contexts, promises of defs. -/
namespace MP
open PySem PyProof.Rows L2 PySem.Spec

/-! ### the weakest readings -/
def WE (X : Cx) (e : Expr) : TE := fun σ H Q => ∀ (pins : List (Addr × Obj)) (s : Shared), Inv X pins σ H s → wpAny (model X.prog X.w) X.A (eval e X.env) (EP X pins σ Q) X.xe s
def WT (X : Cx) (e : Expr) : TT := fun σ H Q => ∀ (pins : List (Addr × Obj)) (s : Shared), Inv X pins σ H s → wpAny (model X.prog X.w) X.A (isTrue e X.env (eval e X.env)) (TP X pins σ Q) X.xe s
def WW (X : Cx) (e : Expr) : TT := fun σ H Q => ∀ (whole : Sem Value) (pins : List (Addr × Obj)) (s : Shared), Inv X pins σ H s → wpAny (model X.prog X.w) X.A (isTrue e X.env whole) (TP X pins σ Q) X.xe s
def WA (X : Cx) (es : List Expr) : TA := fun σ H Q => ∀ (pos : Pos) (pins : List (Addr × Obj)) (s : Shared), Inv X pins σ H s → wpAny (model X.prog X.w) X.A (spliced (backTo pos (starEach es X.env))) (AP X pins σ Q) X.xe s
def WP (X : Cx) (e : Option Expr) : TO := fun σ H Q => ∀ (pins : List (Addr × Obj)) (s : Shared), Inv X pins σ H s → wpAny (model X.prog X.w) X.A (evalPart e X.env) (fun u s' => ∃ o H', Inv X pins σ H' s' ∧ IsPart u o ∧ Q o H') X.xe s
def WI (X : Cx) (tg iter : Expr) : TI := fun σ H R => ∀ (pins : List (Addr × Obj)) (s : Shared), Inv X pins σ H s → wpAny (model X.prog X.w) X.A (eval iter X.env) (fun v s1 => wpAny (model X.prog X.w) X.A (pyIter v) (PIE X pins σ tg R) X.xe s1) X.xe s
def WS (X : Cx) (st : Stmt) : TS := fun D σ H => ∀ (pins : List (Addr × Obj)) (s : Shared), Inv X pins σ H s → wpAny (model X.prog X.w) X.A (exec st X.env) (SP X pins D) X.xe s
def WSs (X : Cx) (st : List Stmt) : TS := fun D σ H => ∀ (pins : List (Addr × Obj)) (s : Shared), Inv X pins σ H s → wpAny (model X.prog X.w) X.A (execs st X.env) (SP X pins D) X.xe s
section
variable {X : Cx} {e : Expr}
theorem pe_we : PE X e (WE X e) := ⟨fun pins s σ H Q I h => h pins s I⟩
theorem pt_wt : PT X e (WT X e) := ⟨fun pins s σ H Q I h => h pins s I⟩
theorem pw_ww : PW X e (WW X e) := ⟨fun w pins s σ H Q I h => h w pins s I⟩
theorem pa_wa {es : List Expr} : PA X es (WA X es) := ⟨fun pos pins s σ H Q I h => h pos pins s I⟩
theorem po_wp {o : Option Expr} : PO X o (WP X o) := ⟨fun pins s σ H Q I h => h pins s I⟩
theorem pi_wi {tg : Expr} : PI X tg e (WI X tg e) := ⟨fun pins s σ H Q I h => h pins s I⟩
theorem ps_ws {st : Stmt} : PS X st (WS X st) := ⟨fun pins s σ H D I h => h pins s I⟩
theorem pss_wss {st : List Stmt} : PSs X st (WSs X st) := ⟨fun pins s σ H D I h => h pins s I⟩
theorem WE.of {t : TE} {σ : L2.St} {H : Hp} {Q : VK} (h : PE X e t) (q : t σ H Q) : WE X e σ H Q := fun pins s I => h.run pins s σ H Q I q
theorem WT.of {t : TT} {σ : L2.St} {H : Hp} {Q : Bool → Hp → Prop} (h : PT X e t) (q : t σ H Q) : WT X e σ H Q := fun pins s I => h.run pins s σ H Q I q
theorem WW.of {t : TT} {σ : L2.St} {H : Hp} {Q : Bool → Hp → Prop} (h : PW X e t) (q : t σ H Q) : WW X e σ H Q := fun w pins s I => h.run w pins s σ H Q I q
theorem WA.of {es : List Expr} {t : TA} {σ : L2.St} {H : Hp} {Q : List V → Hp → Prop} (h : PA X es t) (q : t σ H Q) : WA X es σ H Q := fun pos pins s I => h.run pos pins s σ H Q I q
theorem WP.of {o : Option Expr} {t : TO} {σ : L2.St} {H : Hp} {Q : Option Int → Hp → Prop} (h : PO X o t) (q : t σ H Q) : WP X o σ H Q := fun pins s I => h.run pins s σ H Q I q
theorem WI.of {tg : Expr} {t : TI} {σ : L2.St} {H : Hp} {R : L2.It → Hp → Prop} (h : PI X tg e t) (q : t σ H R) : WI X tg e σ H R := fun pins s I => h.run pins s σ H R I q
theorem WS.of {st : Stmt} {t : TS} {σ : L2.St} {H : Hp} {D : Ends} (h : PS X st t) (q : t D σ H) : WS X st D σ H := fun pins s I => h.run pins s σ H D I q
theorem WSs.of {st : List Stmt} {t : TS} {σ : L2.St} {H : Hp} {D : Ends} (h : PSs X st t) (q : t D σ H) : WSs X st D σ H := fun pins s I => h.run pins s σ H D I q
theorem WE.mono {σ : L2.St} {H : Hp} {Q Q' : VK} (h : WE X e σ H Q) (q : ∀ v H', Q v H' → Q' v H') : WE X e σ H Q' := fun pins s I => thn (h pins s I) fun u s' ⟨v, H', J, r, w⟩ => ⟨v, H', J, r, q v H' w⟩
def wop (X : Cx) (f : Value → Value → Sem Value) : R2 := fun x y H Q => WO X f x y H Q
theorem op_wo {f : Value → Value → Sem Value} : OpR X f (wop X f) := fun pins s σ H x y v u Q I rx ry h => h pins s σ v u I rx ry
def wcr (X : Cx) (f : Value) : List V → Hp → VK → Prop := fun xs H Q => WC X f xs H Q
theorem cr_wc {f : Value} : CallR X f (wcr X f) := fun pins s σ H xs us Q I r h => h pins s σ us I r
end

/-! ### what must follow -/
/-- how an error lies: its class, its own dict -/
def ExcIs (K : PySem.W.Frag) (mg : Str → Option Value) (g : G) (H : Hp) (c : Str) (ds : List (Str × D)) (cls : Value) (d : Option Addr) : Prop :=
  mg c = some cls ∧ match ds with
    | [] => True
    | _ :: _ => ∃ dd fs, d = some dd ∧ H dd = some (.xd fs) ∧ fs.map (·.1) = ds.map (·.1) ∧ RDs K g.Z H (fs.map (·.2)) (ds.map (·.2))
def Post {α β : Type} (K : PySem.W.Frag) (mg : Str → Option Value) (W : Value → Option Addr → Hp → Prop) (Rl : Hp → G → Hp → β → α → Prop) (g : G) (H : Hp) (r : R α) (Q : β → Hp → Prop) : Prop := match r with
  | .ok x st => ∀ g' v H', Step g H g' H' → Ok K g' H' st → Rl H g' H' v x → Q v H'
  | .exc c ds st => ∀ g' cls d H', Step g H g' H' → Ok K g' H' st → ExcIs K mg g' H' c ds cls d → W cls d H'
  | .no => False
/-- a relation that looks at the beginning only for what is new -/
def Based {α β : Type} (Rl : Hp → G → Hp → β → α → Prop) : Prop := ∀ H0 H1 g H v x, (∀ a, H1 a = none → H0 a = none) → Rl H1 g H v x → Rl H0 g H v x
abbrev relE (K : PySem.W.Frag) (pk : Bool) : Hp → G → Hp → V → RV → Prop := fun H0 g H v x => ROut K pk g H H0 v x
abbrev relEq {α : Type} : Hp → G → Hp → α → α → Prop := fun _ _ _ v x => v = x
abbrev relV (K : PySem.W.Frag) : Hp → G → Hp → List V → List Val → Prop := fun _ g H v x => RVals K g H v x
abbrev relD (K : PySem.W.Frag) : Hp → G → Hp → List V → List D → Prop := fun _ g H v x => RDs K g.Z H v x
abbrev relT (K : PySem.W.Frag) : Hp → G → Hp → List V → List D → Prop := fun _ g H v x => RTs K g H v x
section
variable {K : PySem.W.Frag} {mg : Str → Option Value} {W : Value → Option Addr → Hp → Prop} {g g1 : G} {H H1 H2 : Hp} {st st1 : Store}
theorem based_e {pk : Bool} : Based (relE K pk) := fun H0 H1 g H v x h r => by
  obtain ⟨fr, y⟩ := x
  cases y with
  | loc n => cases fr <;> exact r
  | dat d =>
    cases fr with
    | false => exact r
    | true =>
      obtain ⟨a, e, n, q⟩ := r
      exact ⟨a, e, h a n, q⟩
theorem based_eq {α : Type} : Based (relEq (α := α)) := fun _ _ _ _ _ _ _ r => r
theorem based_v : Based (relV K) := fun _ _ _ _ _ _ _ r => r
theorem based_d : Based (relD K) := fun _ _ _ _ _ _ _ r => r
theorem based_t : Based (relT K) := fun _ _ _ _ _ _ _ r => r
variable {α β γ δ : Type} {Rl : Hp → G → Hp → β → α → Prop} {Rm : Hp → G → Hp → δ → γ → Prop}
theorem Post.later {r : R α} {Q : β → Hp → Prop} (b : Based Rl) (s : Step g H g1 H1) (h : Post K mg W Rl g H r Q) : Post K mg W Rl g1 H1 r Q := by
  cases r with
  | ok x st => exact fun g' v H' s' o q => h g' v H' (s.trans s') o (b _ _ _ _ _ _ s.gone q)
  | exc c ds st => exact fun g' cls d H' s' o q => h g' cls d H' (s.trans s') o q
  | no => exact h
/-- one after another -/
theorem Post.bind {r : R α} {f : α → Store → R γ} {Q : δ → Hp → Prop} {Q1 : β → Hp → Prop} (b : Based Rm) (h : Post K mg W Rm g H (r.bind f) Q)
    (k : ∀ x st g1 v H1, Step g H g1 H1 → Ok K g1 H1 st → Rl H g1 H1 v x → Post K mg W Rm g1 H1 (f x st) Q → Q1 v H1) : Post K mg W Rl g H r Q1 := by
  cases r with
  | ok x st => exact fun g' v H' s o q => k x st g' v H' s o q (h.later b s)
  | exc c ds st => exact h
  | no => exact h
theorem Post.dat {x : RV} {f : D → Store → R γ} {Q : δ → Hp → Prop} (h : Post K mg W Rm g H ((datOf x st).bind f) Q) : ∃ d, x.v = .dat d ∧ Post K mg W Rm g H (f d st) Q := by
  obtain ⟨fr, y⟩ := x
  cases y with
  | dat d => exact ⟨d, rfl, h⟩
  | loc n => exact h.elim
theorem Post.int {x : RV} {f : Int → Store → R γ} {Q : δ → Hp → Prop} (h : Post K mg W Rm g H ((intOf x st).bind f) Q) : ∃ d, x.v = .dat (.int d) ∧ Post K mg W Rm g H (f d st) Q := by
  obtain ⟨fr, y⟩ := x
  cases y with
  | dat d =>
    cases d <;> try exact h.elim
    exact ⟨_, rfl, h⟩
  | loc n => exact h.elim
theorem Post.bool {x : RV} {f : Bool → Store → R γ} {Q : δ → Hp → Prop} (h : Post K mg W Rm g H ((boolOf x st).bind f) Q) : ∃ d, x.v = .dat (.bool d) ∧ Post K mg W Rm g H (f d st) Q := by
  obtain ⟨fr, y⟩ := x
  cases y with
  | dat d =>
    cases d <;> try exact h.elim
    exact ⟨_, rfl, h⟩
  | loc n => exact h.elim
theorem Post.opt {x : Option α} {f : α → Store → R γ} {Q : δ → Hp → Prop} (h : Post K mg W Rm g H ((rOpt x st).bind f) Q) : ∃ d, x = some d ∧ Post K mg W Rm g H (f d st) Q := by
  cases x with
  | some d => exact ⟨d, rfl, h⟩
  | none => exact h.elim
theorem Post.opt' {x : Option α} {Q : β → Hp → Prop} (h : Post K mg W Rl g H (rOpt x st) Q) : ∃ d, x = some d ∧ Post K mg W Rl g H (.ok d st) Q := by
  cases x with
  | some d => exact ⟨d, rfl, h⟩
  | none => exact h.elim
theorem Post.bd {pk : Bool} {x : Option (Bool × D)} {Q : VK} (h : Post K mg W (relE K pk) g H (ofBD x st) Q) : ∃ b d, x = some (b, d) ∧ Fin K pk g H st ⟨b, .dat d⟩ Q := by
  cases x with
  | some d => exact ⟨d.1, d.2, rfl, h⟩
  | none => exact h.elim
theorem Post.bb {pk : Bool} {x : Option Bool} {Q : VK} (h : Post K mg W (relE K pk) g H (ofB x st) Q) : ∃ b, x = some b ∧ Fin K pk g H st (plain (.bool b)) Q := by
  cases x with
  | some d => exact ⟨d, rfl, h⟩
  | none => exact h.elim
theorem Post.cond {c : Bool} {x : R α} {Q : β → Hp → Prop} (h : Post K mg W Rl g H (bif c then x else .no) Q) : c = true ∧ Post K mg W Rl g H x Q := by
  cases c with
  | true => exact ⟨rfl, h⟩
  | false => exact h.elim
end

/-! ### contexts -/
structure CtxOk (X : Cx) (W : WX) (N : List Str) (sc : Scope) (lv : Nat) : Prop where
  eN : X.N = N
  nd : N.Nodup
  kind : sc.kind = .function
  calm : X.calm = true
  guards : X.A.guards = some []
  room : Room lv X.A
  takes : Takes X W
  passes : PassesOwn (model X.prog X.w) X.A X.env X.xe
  look : ∀ x k, sc.names.lookup x = some k → X.env.scope.names.lookup x = some k ∨ (k = .free ∧ X.env.scope.names.lookup x = some .cell)
  fn : ∀ x, sc.names.lookup x = some .cell → X.fn x = true
def isVis (sc : Scope) (x : Str) : Bool := match sc.names.lookup x with
  | some .local => true
  | some .cell => true
  | some .free => true
  | _ => false
def isLoc (sc : Scope) (x : Str) : Bool := match sc.names.lookup x with
  | some .local => true
  | some .cell => true
  | _ => false
def isGl (sc : Scope) (x : Str) : Bool := match sc.names.lookup x with
  | some .globalImplicit => true
  | _ => false
def okName (x : Str) : Bool := !(x == ("__debug__" : Str)) && !(x == ("__classdict__" : Str)) && !(x == ("__name__" : Str))
section
variable {X : Cx} {W : WX} {N : List Str} {sc : Scope} {lv : Nat} {x : Str}
theorem CtxOk.vis (c : CtxOk X W N sc lv) (h : isVis sc x = true) : Vis X.env.scope x := by
  unfold isVis at h
  split at h
  · rename_i e
    rcases c.look x _ e with q | ⟨q, _⟩
    · exact .inl q
    · cases q
  · rename_i e
    rcases c.look x _ e with q | ⟨q, _⟩
    · exact .inr (.inl q)
    · cases q
  · rename_i e
    rcases c.look x _ e with q | ⟨_, q⟩
    · exact .inr (.inr q)
    · exact .inr (.inl q)
  · cases h
theorem CtxOk.loc (c : CtxOk X W N sc lv) (h : isLoc sc x = true) : Loc X.env.scope x ∧ (X.fn x = true ∨ X.env.scope.names.lookup x = some .local) := by
  unfold isLoc at h
  split at h
  · rename_i e
    rcases c.look x _ e with q | ⟨q, _⟩
    · exact ⟨.inl q, .inr q⟩
    · cases q
  · rename_i e
    rcases c.look x _ e with q | ⟨q, _⟩
    · exact ⟨.inr q, .inl (c.fn x e)⟩
    · cases q
  · cases h
theorem CtxOk.gl (c : CtxOk X W N sc lv) (h : isGl sc x = true) : Gl X x := by
  unfold isGl at h
  split at h
  · rename_i e
    rcases c.look x _ e with q | ⟨q, _⟩
    · exact q
    · cases q
  · cases h
theorem okName_debug (h : okName x = true) : (x == ("__debug__" : Str)) = false ∧ (x == ("__classdict__" : Str)) = false ∧ x ≠ "__name__" := by
  unfold okName at h
  simp only [Bool.and_eq_true, Bool.not_eq_true', beq_eq_false_iff_ne, ne_eq] at h
  exact ⟨beq_eq_false_iff_ne.mpr h.1.1, beq_eq_false_iff_ne.mpr h.1.2, h.2⟩
theorem lookup_relabel {env : PySem.Env} : ∀ {names : List (Str × NameKind)} {x : Str} {k : NameKind}, names.lookup x = some k →
    (names.map fun (n, k) => if (k == NameKind.free && env.scope.kind == .function && env.kindOf n == some .cell) then (n, NameKind.cell) else (n, k)).lookup x = some k ∨
    (k = .free ∧ (names.map fun (n, k) => if (k == NameKind.free && env.scope.kind == .function && env.kindOf n == some .cell) then (n, NameKind.cell) else (n, k)).lookup x = some .cell)
  | [], x, k, h => by simp at h
  | (n, j) :: r, x, k, h => by
    rw [List.map_cons]
    by_cases e : x = n
    · subst e
      rw [List.lookup_cons_self] at h
      cases h
      dsimp only
      split
      · rename_i c
        simp only [Bool.and_eq_true, beq_iff_eq] at c
        exact .inr ⟨c.1.1, List.lookup_cons_self⟩
      · exact .inl List.lookup_cons_self
    · have ne : (x == n) = false := beq_eq_false_iff_ne.mpr e
      rw [List.lookup_cons, ne] at h
      have ih := lookup_relabel (env := env) (names := r) (x := x) (k := k) h
      dsimp only
      split <;> (rw [List.lookup_cons, ne]; exact ih)
end
end MP

/-! Errors of the program's own, made: a class whose own __init__ only says super().__init__ of a text. -/
namespace MP
open PySem PySem.W PySem.Calls PyProof.Rows

/-- the text of __init__ -/
def init0B : List Stmt → Bool
  | [.Expr (.Call (.Attribute (.Call (.Name x _) [] [] _) n p2) [.Constant (.str _) _ _] [] p4) _] => x == "super" && n == "__init__" && p2.endLine == p4.line
  | _ => false
def init0A (a : Arguments) : Bool := (match a.args with | [b] => b.arg == "self" | _ => false) && a.posonlyargs.isEmpty && a.vararg.isNone && a.kwonlyargs.isEmpty && a.kwarg.isNone && a.defaults.isEmpty
def init0S (sc : Scope) : Bool := sc.names.lookup ("self" : Str) == some .local && sc.names.lookup ("super" : Str) == some .globalImplicit && sc.names.lookup ("__class__" : Str) == some .free && sc.kind == .function && !sc.isGenerator && !sc.isCoroutine && sc.names.all fun x => x.2 != .cell
abbrev veL : List Value := [.type "ValueError", .type "Exception", .type "BaseException", .type "object"]
structure Ex0 (prog : Program) (K : Frag) (C : Addr) : Prop where
  cls : ∃ nm q N bs bm sn sub ab col dd k0 k1 k2 k3 k5, K.lookup C = some (excClassObj nm q C N bs bm true sn sub ab col dd k0 k1 k2 k3 k5 "ValueError.__new__") ∧ HandSPX.refsVE bm = true
  exC : subIn K (.ref C) (.type "BaseException") = some true
  veC : subIn K (.ref C) (.type "ValueError") = some true
  tyC : typeIn K (.ref C) = some (.type "type")
  kC : keepIn K (.ref C) = true
  sup : ks_superIn K C C "__init__" = some (some (.builtin "ValueError.__init__"))
  mro : mroIn K C (.ref C) = some true
  exi : excInitIn K C veL "ValueError.__new__" = true
  nsup : nsIn K mainGlobals "super" = some none
  nany : nsIn K cStatics "thirdparty.any" = some none
  htop : (prog.main.scope.names.lookup ("super" : Str)).isSome = false
  fn : ∃ (fI cda cc : Addr) (oc ccl cl dV kV doc pm ct : Value) (od cdd cld an : Option Addr) (osl ccs csl : Array (Option Value)) (vs : Array Value) (file : Str) (tf : Tok) (qual : Str) (args : Arguments) (body : List Stmt) (scope : Scope),
    findIn K (.ref C) "__init__" = some (some (.ref fI)) ∧ typeIn K (.ref fI) = some (.type "function") ∧
    K.lookup fI = some ⟨oc, od, .func (ksFn "__init__" qual args body scope dV kV doc pm an (.ref cda) ct cc), osl⟩ ∧ codeIn K (.ref cda) qual = true ∧
    K.lookup cda = some ⟨ccl, cdd, .fields vs, ccs⟩ ∧ vs[2]? = some (.str file tf) ∧ ((prog.main.file : Str) == file) = true ∧
    K.lookup cc = some ⟨cl, cld, .cell (some (.ref C)), csl⟩ ∧ init0B body = true ∧ init0A args = true ∧ init0S scope = true ∧
    (∀ (s : Shared) (u : Value), BindsTo s (ksFn "__init__" qual args body scope dV kV doc pm an (.ref cda) ct cc) ⟨[u], []⟩ [("self", u)])
section
variable {prog : Program} {w : World} {A : Around} {E : Value → Shared → Prop} {R : Result → Shared → Prop} {s : Shared} {K : Frag} {mg : Str → Option Value} {base : Heap} {C : Addr}
theorem super_node {q : Str} {scope : Scope} {p0 p1 : Pos} {attr : Str} {whole : Sem Value} {fd : FuncData} {ar : Arg} {vs : Array Value} {file : Str} {tf : Tok} {oc ccl cl : Value} {od cdd cld : Option Addr} {osl ccs csl : Array (Option Value)} {cdD : ClassData} {Q : Value → Shared → Prop}
    {h₀ : Heap} {L f cda cc x D : Addr} {m mb : Str → Option Value} {news : List (Addr × Obj)} {ox : Obj} {odx : Option Obj} {stm : List Stmt}
    (F : Fr h₀ L s.heap m) (X₀ : K.In h₀) (N : News h₀ L s.heap news) (Tg : h₀.Ns mainGlobals mg) (Tb : h₀.Ns builtinsNs mb) (Tv : ∀ x : Str, x ≠ "__name__" → mb x = bootBuiltins x)
    (hf : K.lookup f = some ⟨oc, od, .func fd, osl⟩) (hp : (fd.params.posonlyargs ++ fd.params.args).head? = some ar) (hv : m ar.arg = some (.ref x)) (I : InstAt s.heap x ox C odx)
    (hcode : K.lookup cda = some ⟨ccl, cdd, .fields vs, ccs⟩) (hvs : vs[2]? = some (.str file tf)) (hfile : ((prog.main.file : Str) == file) = true)
    (hcell : K.lookup cc = some ⟨cl, cld, .cell (some (.ref D)), csl⟩) (hD : clsIn K D = some cdD) (hsub : mroIn K C (.ref D) = some true) (hsuper : nsIn K mainGlobals "super" = some none)
    (hat : (attr == ("__class__" : Str)) = false) (hks : scope.names.lookup ("super" : Str) = some .globalImplicit) (hkc : scope.names.lookup ("__class__" : Str) = some .free) (hka : scope.names.lookup ar.arg = some .local) (hk : scope.kind = .function)
    (htop : (prog.main.scope.names.lookup ("super" : Str)).isSome = false) (hboot : bootBuiltins "super" = some (.type "super"))
    (h : ∀ so h', Fr h₀ L h' m → News h₀ L h' ((so, ks_superObj D x C) :: news) → (∀ p ∈ news, p.1 < so) → Q (.ref so) { s with heap := h' }) :
    _root_.PySem.wpAt (model prog w) A (.func stm (ksEnv q scope L f (.ref cda) cc)) (attributeBase (.Call (.Name "super" p0) [] [] p1) attr (ksEnv q scope L f (.ref cda) cc) whole) Q E s := by
  have X : K.In s.heap := X₀.keeps F.keep
  obtain ⟨hh, g, d, t, os⟩ := s
  obtain ⟨oD, hD1, hD2⟩ : ∃ oD, hh.get? D = some oD ∧ oD.data = .cls cdD := by
    unfold clsIn at hD
    split at hD
    · rename_i c d cd' sl ho
      cases hD
      exact ⟨_, X _ _ ho, rfl⟩
    · cases hD
  refine ks_wpAt_super_base (env := ksEnv q scope L f (.ref cda) cc) hks hkc hat rfl (X _ _ hf) rfl hp rfl (X _ _ hcode) rfl hvs hfile htop ?_
  refine ks_loadName_global hk hks (loadGlobal_builtin (env := ksEnv q scope L f (.ref cda) cc) (Tg.keeps F.keep) (mg_none_of X₀ Tg hsuper) (Tb.keeps F.keep) ((Tv _ (by decide +kernel)).trans hboot) ⟨rfl, ?_⟩)
  refine wpAny_loadName_free hk hkc rfl ⟨_, X _ _ hcell, rfl⟩ ?_
  refine wpAny_loadName_local hk hka F.ns hv ?_
  refine ks_wpAny_isType_cls hD1 hD2 ⟨rfl, ?_⟩
  refine ks_wpAny_call_super hD1 hD2 I.at_ I.cls (fun c e => ?_) (looks_mroIn X hsub) (fun h' e k => ?_)
  · have := I.no
    unfold notCls at this
    rw [e] at this
    exact Bool.noConfusion this
  · obtain ⟨F', N', l'⟩ := ks_newsPush (s := ⟨hh, g, d, t, os⟩) F N rfl e k
    exact h _ _ F' N' l'
/-- super().__init__(text), the body of an __init__ -/
theorem init0_body {q : Str} {scope : Scope} {p0 p1 p2 p3 p4 p5 : Pos} {j : Nat} {msg : Str} {fd : FuncData} {ar : Arg} {vs : Array Value} {file : Str} {tf : Tok} {oc ccl cl : Value} {od cdd cld : Option Addr} {osl ccs csl : Array (Option Value)} {Q : Flow → Shared → Prop}
    {h₀ : Heap} {L f cda cc x t0 : Addr} {m mb : Str → Option Value} {stm : List Stmt}
    (T : Ex0 prog K C) (F : Fr h₀ L s.heap m) (X₀ : K.In h₀) (N : News h₀ L s.heap [(x, excObj C t0 none .none)]) (Tg : h₀.Ns mainGlobals mg) (Tb : h₀.Ns builtinsNs mb) (Tv : ∀ x : Str, x ≠ "__name__" → mb x = bootBuiltins x)
    (hf : K.lookup f = some ⟨oc, od, .func fd, osl⟩) (hp : (fd.params.posonlyargs ++ fd.params.args).head? = some ar) (hv : m ar.arg = some (.ref x))
    (hcode : K.lookup cda = some ⟨ccl, cdd, .fields vs, ccs⟩) (hvs : vs[2]? = some (.str file tf)) (hfile : ((prog.main.file : Str) == file) = true)
    (hcell : K.lookup cc = some ⟨cl, cld, .cell (some (.ref C)), csl⟩)
    (hks : scope.names.lookup ("super" : Str) = some .globalImplicit) (hkc : scope.names.lookup ("__class__" : Str) = some .free) (hka : scope.names.lookup ar.arg = some .local) (hk : scope.kind = .function)
    (hline : (p2.endLine == p4.line) = true)
    (h : ∀ h' tk t1, Fr h₀ L h' m → h'.get? x = some (excObj C t1 none .none) → Q .next { s with heap := h', toks := tk }) :
    _root_.PySem.wpAt (model prog w) A (.func stm (ksEnv q scope L f (.ref cda) cc)) (execs [.Expr (.Call (.Attribute (.Call (.Name "super" p0) [] [] p1) "__init__" p2) [.Constant (.str msg) j p3] [] p4) p5] (ksEnv q scope L f (.ref cda) cc)) Q E s := by
  obtain ⟨nm, qn, Nn, bs, bm, sn, sub, ab, col, dd, k0, k1, k2, k3, k5, hC, hbm⟩ := T.cls
  have hcl : clsIn K C = some { name := nm, bases := bs, mro := .ref C :: bm, ns := Nn, qualname := qn, hasDict := true, slotNames := sn, subclasses := sub, abstract := ab, collection := col, hasDel := false } := by unfold clsIn; rw [hC] <;> rfl
  have I : InstAt s.heap x (excObj C t0 none .none) C none := InstAt.of_exc0 N List.mem_cons_self
  have hi : interactive (ksEnv q scope L f (.ref cda) cc) = false := by
    unfold interactive
    show (scope.kind == .module && _) = false
    rw [hk]
    rfl
  have he : eval (.Call (.Attribute (.Call (.Name "super" p0) [] [] p1) "__init__" p2) [.Constant (.str msg) j p3] [] p4) (ksEnv q scope L f (.ref cda) cc) = (do
      let ov ← attributeBase (.Call (.Name "super" p0) [] [] p1) "__init__" (ksEnv q scope L f (.ref cda) cc) (eval (.Call (.Name "super" p0) [] [] p1) (ksEnv q scope L f (.ref cda) cc))
      standAt p2.atName
      let (f', first) ← holding [ov] (getMethod ov "__init__" (do return (← importBound (.Call (.Name "super" p0) [] [] p1) (ksEnv q scope L f (.ref cda) cc)).getD true))
      callWith p4 f' first (backTo p4 (starEach [.Constant (.str msg) j p3] (ksEnv q scope L f (.ref cda) cc))) []) := by
    have hform : methodCallForm 1 (backTo p4 (starEach [.Constant (.str msg) j p3] (ksEnv q scope L f (.ref cda) cc))) [] = true := rfl
    have hpos : ∀ o, methodCallPos true o (ksEnv q scope L f (.ref cda) cc) p2 p4 = pure p4 := fun o => by
      unfold methodCallPos
      simp [hline]
    rw [arm_eval_Call]
    show (attributeBase _ _ _ _ >>= fun ov => standAt p2.atName >>= fun _ => methodCall _ _ p2 p4 _ ov 1 _ []) = _
    unfold methodCall
    rw [hform, hpos]
    rfl
  refine ks_wpAt_execs_cons (ks_wpAt_Expr_any (ks_wpAt_MethodCall (super_node F X₀ N Tg Tb Tv hf hp hv I hcode hvs hfile hcell hcl T.mro T.nsup (by decide) hks hkc hka hk T.htop rfl fun so h2 F2 N2 l2 => ?_) he) hi rfl)
  refine kxs_method kxs_ValueError F2 X₀ N2 List.mem_cons_self (InstAt.of_exc0 N2 (List.mem_cons_of_mem _ List.mem_cons_self)) T.nany T.sup T.veC (by decide) fun u h3 F3 N3 l3 => ?_
  refine kxs_callWith1 (i := "ValueError.__init__") (x := x) N3 List.mem_cons_self ?_
  refine Calls.spliced_cons (Calls.Constant_str (k := j) (pos := p3) (Calls.spliced_nil ⟨?_, ?_⟩))
  · exact kxs_at N3 List.mem_cons_self
  · have xu : u ≠ x := fun z => by
      have := l3 _ (List.mem_cons_of_mem _ List.mem_cons_self)
      rw [z] at this
      exact absurd this (Nat.lt_irrefl _)
    have xs : so ≠ x := fun z => by
      have := l2 _ List.mem_cons_self
      rw [z] at this
      exact absurd this (Nat.lt_irrefl _)
    refine kxs_call (t := t0) (dv := none) (c2 := .none) F3 X₀ N3 PySem.F.excBase_ValueError T.exi List.mem_cons_self (.tail xu (.tail xs (.head fun p hp => by cases hp))) (by rw [sizeLine_eq]; exact (by decide : 1 ≤ 16777216)) fun t' h4 F4 N4 l4 => ?_
    exact PySem.wpAt_of_wpAny (wpAny_execs_nil (h h4 _ t' F4 (N4 _ (List.mem_cons_of_mem _ (List.mem_cons_of_mem _ (List.mem_cons_of_mem _ List.mem_cons_self)))).1))
theorem init0_ok (T : Ex0 prog K C) (Md : L2.Mod K mg base) (hb : ∀ b o, base.get? b = some o → s.heap.get? b = some o) {e t0 : Addr} (he : s.heap.get? e = some (HandSPX.excO C t0)) (hne : base.get? e = none) (hroom : A.depth < recursionLimit) {fI : Addr}
    (hfI : findIn K (.ref C) "__init__" = some (some (.ref fI)))
    (hq : ∀ h' tk t1, (∀ b o, b ≠ e → s.heap.get? b = some o → h'.get? b = some o) → h'.get? e = some (HandSPX.excO C t1) → R (.ok (.ret .none)) { s with heap := h', toks := tk }) :
    codeAny (model prog w) A (.call (.ref fI) ⟨[.ref e], []⟩) R s := by
  obtain ⟨fI', cda, cc, oc, ccl, cl, dV, kV, doc, pm, ct, od, cdd, cld, an, osl, ccs, csl, vs, file, tf, qual, args, body, scope, f1, f2, f3, f4, f5, f6, f7, f8, f9, f10, f11, f12⟩ := T.fn
  rw [hfI] at f1
  cases f1
  have X : K.In s.heap := fun a o q => hb _ _ (Md.kin _ _ q)
  have hlim : s.heap.NoLimit := Md.nolimit.keeps hb
  simp only [init0S, Bool.and_eq_true, beq_iff_eq, Bool.not_eq_true'] at f11
  obtain ⟨⟨⟨⟨⟨⟨s1, s2⟩, s3⟩, s4⟩, s5⟩, s6⟩, s7⟩ := f11
  have s7' : ∀ x ∈ scope.names, x.2 ≠ .cell := fun x hx => by
    have := List.all_eq_true.mp s7 x hx
    simpa using this
  -- the text
  obtain ⟨p0, p1, p2, p3, p4, p5, j, msg, rfl, hline⟩ : ∃ p0 p1 p2 p3 p4 p5 j msg, body = [.Expr (.Call (.Attribute (.Call (.Name "super" p0) [] [] p1) "__init__" p2) [.Constant (.str msg) j p3] [] p4) p5] ∧ (p2.endLine == p4.line) = true := by
    unfold init0B at f9
    split at f9
    · rename_i x p0 p1 n p2 msg j p3 p4 p5
      simp only [Bool.and_eq_true, beq_iff_eq] at f9
      obtain ⟨⟨rfl, rfl⟩, f13⟩ := f9
      exact ⟨_, _, _, _, _, _, _, _, rfl, beq_iff_eq.mpr f13⟩
    · cases f9
  simp only [init0A, Bool.and_eq_true] at f10
  obtain ⟨⟨⟨⟨⟨a1, a2⟩, a3⟩, a4⟩, a5⟩, a6⟩ := f10
  obtain ⟨ar, ha, han⟩ : ∃ ar, args.args = [ar] ∧ ar.arg = "self" := by
    rcases h : args.args with _ | ⟨b, _ | ⟨_, _⟩⟩
    · rw [h] at a1
      cases a1
    · rw [h] at a1
      exact ⟨b, rfl, by simpa using a1⟩
    · rw [h] at a1
      cases a1
  have hpos : args.posonlyargs = [] := by simpa using a2
  have hp : (args.posonlyargs ++ args.args).head? = some ar := by rw [ha, hpos]; rfl
  obtain ⟨nm, q, N, bs, bm, sn, sub, ab, col, dd, k0, k1, k2, k3, k5, hC, hbm⟩ := T.cls
  have loc : ∀ y ∈ [(("self" : Str), Value.ref e)], scope.names.lookup y.1 = some .local := fun y hy => by
    have := List.mem_singleton.mp hy
    subst this
    exact s1
  refine ks_codeAny_call_defAt (fd := ksFn "__init__" qual args _ scope dV kV doc pm an (.ref cda) ct cc) (binds := [("self", .ref e)]) hroom (X _ _ f3) rfl hlim (codeRec_of X f4) rfl (f12 _ _) s7' loc (fun h₁ hns hk₁ => ?_) s6 s5 s4
  have X0 : K.In (hideAll s.heap [e]) := fun a o z => hideAll_get [e] (X _ _ z) fun y => by
    have y := List.mem_singleton.mp y
    subst y
    have := Md.kin _ _ z
    rw [hne] at this
    cases this
  have F0 : Fr (hideAll s.heap [e]) s.heap.objs.size h₁ (fun x => [(("self" : Str), Value.ref e)].reverse.lookup x) := ⟨hns, fun b o z => hk₁ b o (of_hideAll _ z), Nat.le_of_eq (hideAll_size _ _)⟩
  have N0 : News (hideAll s.heap [e]) s.heap.objs.size h₁ [(e, excObj C t0 none .none)] := fun p hp => by
    have hp := List.mem_singleton.mp hp
    subst hp
    exact ⟨hk₁ _ _ he, Nat.ne_of_lt (Heap.lt_size he), hideAll_none _ List.mem_cons_self⟩
  have hkeep : ∀ b o, base.get? b = some o → (hideAll s.heap [e]).get? b = some o := fun b o z => hideAll_get [e] (hb _ _ z) fun y => by
    have y := List.mem_singleton.mp y
    subst y
    rw [hne] at z
    cases z
  have glob : (hideAll s.heap [e]).Ns mainGlobals mg := Md.glob.keeps hkeep
  obtain ⟨mb, blt, bval⟩ := Md.blt
  have blt' : (hideAll s.heap [e]).Ns builtinsNs mb := blt.keeps hkeep
  refine init0_body T F0 X0 N0 glob blt' bval f3 hp (by rw [han]; rfl) f5 f6 f7 f8 s2 s3 (by rw [han]; exact s1) s4 hline fun h' tk t1 F4 g4 => ?_
  refine hq h' tk t1 (fun b o hbe z => F4.keep b o (hideAll_get [e] z fun y => hbe (List.mem_singleton.mp y))) g4
theorem made0_ok (T : Ex0 prog K C) (Md : L2.Mod K mg base) (hb : ∀ b o, base.get? b = some o → s.heap.get? b = some o) (hroom : A.depth + 1 < recursionLimit)
    (hq : ∀ h' tk e t1, (∀ b o, s.heap.get? b = some o → h'.get? b = some o) → s.heap.objs.size ≤ e → h'.get? e = some (HandSPX.excO C t1) → R (.ok (.ret (.ref e))) { s with heap := h', toks := tk }) :
    codeAny (model prog w) A (.call (.ref C) ⟨[], []⟩) R s := by
  obtain ⟨nm, q, N, bs, bm, sn, sub, ab, col, dd, k0, k1, k2, k3, k5, hC, hbm⟩ := T.cls
  have T' := T
  obtain ⟨fI, cda, cc, oc, ccl, cl, dV, kV, doc, pm, ct, od, cdd, cld, an, osl, ccs, csl, vs, file, tf, qual, args, body, scope, f1, f2, f3, f4, f5, f6, f7, f8, f9, f10, f11, f12⟩ := T.fn
  obtain ⟨hp, g, dr, tk, os⟩ := s
  have X : K.In hp := fun a o q => hb _ _ (Md.kin _ _ q)
  have k : ∀ b o, hp.get? b = some o → ((hp.push (kdv_tup [])).push (HandSPX.excO C hp.objs.size)).get? b = some o := fun b o e => Heap.get?_push_of_some _ (Heap.get?_push_of_some _ e)
  have hget : ((hp.push (kdv_tup [])).push (HandSPX.excO C hp.objs.size)).get? (hp.objs.size + 1) = some (HandSPX.excO C hp.objs.size) := by heap_get
  have hnx : base.get? (hp.objs.size + 1) = none := by
    cases e : base.get? (hp.objs.size + 1) with
    | none => rfl
    | some o =>
      have z : hp.get? (hp.objs.size + 1) = some o := hb _ _ e
      exact absurd (Nat.lt_of_succ_lt (Heap.lt_size z)) (Nat.lt_irrefl _)
  refine HandSPX.call_own PySem.F.excBase_ValueError (fun X => HandSPX.refsVE_contains X bm hbm) (X _ _ hC) (looks_findIn X f1) (fun self => bind_fn X self f2) (Nat.zero_le _) ?_
  refine init0_ok (s := ⟨(hp.push (kdv_tup [])).push (HandSPX.excO C hp.objs.size), g, dr, tk, os⟩) T' Md (fun b o e => k b o (hb _ _ e)) hget hnx (by show A.depth + 1 < recursionLimit; exact hroom) f1 fun h' tk' t1 k' hx => ?_
  have old : ∀ b o, hp.get? b = some o → h'.get? b = some o := fun b o e => k' b o (Nat.ne_of_lt (Nat.lt_succ_of_lt (Heap.lt_size e))) (k b o e)
  exact ⟨rfl, hq h' tk' (hp.objs.size + 1) t1 old (Nat.le_succ _) hx⟩
end
section
open L2
variable {X : L2.Cx} {C : Addr} {x : Str} {p pos : Pos}
/-- C() -/
theorem pmk0 (T : Ex0 X.prog X.K C) (gC : X.mg x = some (.ref C)) {k : Nat} (hr : Room (k + 1) X.A) (hg : Gl X x) (hd : (x == ("__debug__" : Str)) = false) : PMk X (.Call (.Name x p) [] [] pos) (fun _ H Q => Q (.ref C) none H) := by
  intro pins s σ H Q I h
  refine wpAny_Call_Name_kw (ld_glob I hg gC ?_ hd)
  refine PySem.W.callWith_K0 I.kIn T.kC ?_
  show wpAny _ _ (call (.ref C) []) _ _ _
  obtain ⟨hp, g, dr, tk, os⟩ := s
  refine wpAny_call (made0_ok T I.ok.mod (fun b o q => I.bk b o q) (by have := hr.dp; omega) fun h' tk' e t1 old new hx => ?_)
  show MkP X pins σ Q (.ref e) ⟨h', g, dr, tk', os⟩
  have ne : hp.get? e = none := by
    cases z : hp.get? e with
    | none => rfl
    | some o => exact absurd (Heap.lt_size z) (Nat.not_lt.mpr new)
  exact ⟨e, _, _, ⟨hp, g, dr, tk, os⟩, H, .ref C, none, rfl, I, old, ne, hx, ⟨rfl, rfl⟩, rfl, rfl, I.hok.fresh new, rfl, I.bare, raises_own T.exC T.tyC, h⟩
end
end MP

/-! What the written part must say of an error class, for Ex0. -/
namespace MP
open PySem PySem.W PySem.Calls PyProof.Rows
section
variable {P : Program} {K : Frag} {C N fI cda cc : Addr} {nm q qual file : Str} {bs bm sub : List Value} {sn : List Str} {ab : Bool} {col : Option Bool} {dd : Option Addr} {k0 k1 k2 k3 k5 : Option Value}
  {oc ccl cl dV kV doc pm ct : Value} {od cdd cld an : Option Addr} {osl ccs csl : Array (Option Value)} {vs : Array Value} {tf : Tok} {args : Arguments} {body : List Stmt} {scope : Scope}
theorem ex0_of
    (xL : K.lookup C = some (excClassObj nm q C N bs bm true sn sub ab col dd k0 k1 k2 k3 k5 "ValueError.__new__"))
    (rf : (HandSPX.refsVE bm && excTail veL bm) = true)
    (e1 : subIn K (.ref C) (.type "BaseException") = some true) (e2 : subIn K (.ref C) (.type "ValueError") = some true) (ty : typeIn K (.ref C) = some (.type "type")) (kC : keepIn K (.ref C) = true)
    (su : ks_superIn K C C "__init__" = some (some (.builtin "ValueError.__init__"))) (ns : nsIn K mainGlobals "super" = some none) (na : nsIn K cStatics "thirdparty.any" = some none)
    (ht : (P.main.scope.names.lookup ("super" : Str)).isSome = false)
    (fi : findIn K (.ref C) "__init__" = some (some (.ref fI))) (tI : typeIn K (.ref fI) = some (.type "function"))
    (lf : K.lookup fI = some ⟨oc, od, .func (ksFn "__init__" qual args body scope dV kV doc pm an (.ref cda) ct cc), osl⟩) (cf : codeIn K (.ref cda) qual = true)
    (lc : K.lookup cda = some ⟨ccl, cdd, .fields vs, ccs⟩) (v2 : vs[2]? = some (.str file tf)) (fl : ((P.main.file : Str) == file) = true)
    (lx : K.lookup cc = some ⟨cl, cld, .cell (some (.ref C)), csl⟩) (b1 : (init0B body && init0A args && init0S scope) = true)
    (bn : ∀ (s : Shared) (u : Value), BindsTo s (ksFn "__init__" qual args body scope dV kV doc pm an (.ref cda) ct cc) ⟨[u], []⟩ [("self", u)]) : Ex0 P K C := by
  have hcl : clsIn K C = some { name := nm, bases := bs, mro := .ref C :: bm, ns := N, qualname := q, hasDict := true, slotNames := sn, subclasses := sub, abstract := ab, collection := col, hasDel := false } := by unfold clsIn; rw [xL] <;> rfl
  simp only [Bool.and_eq_true] at rf b1
  refine { cls := ⟨nm, q, N, bs, bm, sn, sub, ab, col, dd, k0, k1, k2, k3, k5, xL, rf.1⟩, exC := e1, veC := e2, tyC := ty, kC := kC, sup := su, mro := ?_, exi := ?_, nsup := ns, nany := na, htop := ht, fn := ⟨fI, cda, cc, oc, ccl, cl, dV, kV, doc, pm, ct, od, cdd, cld, an, osl, ccs, csl, vs, file, tf, qual, args, body, scope, fi, tI, lf, cf, lc, v2, fl, lx, b1.1.1, b1.1.2, b1.2, bn⟩ }
  · unfold mroIn
    rw [hcl]
    simp
  · unfold excInitIn
    rw [xL]
    show (C == C && "ValueError.__new__" == "ValueError.__new__" && !false && excTail veL bm) = true
    rw [rf.2]
    simp
end
end MP

/-! Which text an expression of the small language stands for. -/
namespace MP
open PySem PyProof.Rows L2 PySem.Spec

/-! ### a def's promise -/
structure FnG (P : Program) (w : World) (K : PySem.W.Frag) (mg : Str → Option Value) (base : Heap) (k : Nat) (f : Addr) (fd : FuncData) (ps : List Str) (sp : Sp) : Prop where
  len : ∀ vs H Q W, sp vs H Q W → vs.length = ps.length
  run : ∀ (A : Around) (outer : List PySem.Env) (s : Shared) (H : Hp) (args : Args) (us : List Value) (vs : List V) (Q : VK) (E : XK), A.guards = some [] → Room k A → Env0 P w K mg base A outer s H → BindsTo s fd args (ps.zip us) →
    Vals vs us → sp vs H Q E → codeAny (model P w) A (.call (.ref f) args) (CR (L2.CX P w) outer P w H s Q E) s
def spOf (K : PySem.W.Frag) (mg : Str → Option Value) (np : Nat) (sem : Fn) : Sp := fun vs H Q E =>
  ∃ g vals st, RVals K g H vs vals ∧ Ok K g H st ∧ vals.length = np ∧ Post K mg E (relE K false) g H (sem vals st) Q
/-- the name x stands for a def that reckons sem, at most lv calls deep -/
structure GlobFn (P : Program) (w : World) (K : PySem.W.Frag) (mg : Str → Option Value) (base : Heap) (lv : Nat) (x : Str) (sem : Fn) : Prop where
  ex : ∃ k f fd ps, k ≤ lv ∧ mg x = some (.ref f) ∧ PySem.W.keepIn K (.ref f) = true ∧ Binds K fd ps [] ∧ FnG P w K mg base k f fd ps (spOf K mg ps.length sem) ∧ ∀ vals st, vals.length ≠ ps.length → sem vals st = .no
def GlobCst (K : PySem.W.Frag) (mg : Str → Option Value) (x : Str) (d : D) : Prop := ∃ u v, mg x = some u ∧ RelV v u ∧ ∀ Z H, RD K Z H v d
inductive Req where
  | fn (x : Str) (sem : Fn)
  | cst (x : Str) (d : D)
  | non (x : Str)
  | bltin (x : Str) (u : Value)
  | exc (x : Str)
def ReqOk (P : Program) (w : World) (K : PySem.W.Frag) (mg : Str → Option Value) (base : Heap) (lv : Nat) : Req → Prop
  | .fn x sem => GlobFn P w K mg base lv x sem
  | .cst x d => GlobCst K mg x d
  | .non x => mg x = none
  | .bltin x u => mg x = some u
  | .exc x => 1 ≤ lv ∧ ∃ C : Addr, mg x = some (.ref C) ∧ Ex0 P K C ∧ PySem.W.exmOne K (.ref C) (.ref C) = some true
def Blt.req : Blt → Req
  | .gcd => .bltin "gcd" (.builtin "math.gcd")
  | f => .non f.name
section
variable {X : Cx} {W : WX} {N : List Str} {sc : Scope} {lv : Nat} {x : Str} {e : Expr} {es : List Expr} {σ : L2.St} {H : Hp} {Q : VK} {p pos : Pos}
theorem run_fnG {pins : List (Addr × Obj)} {s : Shared} {us : List Value} {vs : List V} {k : Nat} {f : Addr} {fd : FuncData} {ps : List Str} {sp : Sp} {E : XK} (F : FnG X.prog X.w X.K X.mg X.base k f fd ps sp) (hg : X.A.guards = some []) (hr : Room k X.A)
    (hb : Binds X.K fd ps []) (hx : PassesAt (L2.CX X.prog X.w) X σ E) (I : Inv X pins σ H s) (r : Vals vs us) (h : sp vs H Q E) : wpAny (model X.prog X.w) X.A (call (.ref f) us) (EP X pins σ Q) X.xe s := by
  have hl : us.length = ps.length := r.length.symm.trans (F.len _ _ _ _ h)
  have b := hb s us I.kIn (by simpa using hl)
  simp only [List.append_nil] at b
  refine wpAny_call (codeAny_mono (F.run X.A X.stack s H ⟨us, []⟩ us vs Q E hg hr I.env0 b r h) fun r s' hq => ?_)
  cases r with
  | error u => exact hx pins H s u s' I hq
  | ok fl =>
    cases fl with
    | ret u => exact I.after hq
    | next => exact hq.elim
    | brk => exact hq.elim
    | cont => exact hq.elim
/-- no item of a written list is starred -/
def notStar : Expr → Bool
  | .Starred _ _ => false
  | _ => true
theorem starEach_cons {env : PySem.Env} (h : notStar e = true) : starEach (e :: es) env = (false, eval e env) :: starEach es env := by
  cases e <;> first | rfl | cases h
theorem starEach_any {env : PySem.Env} : ∀ {es : List Expr}, (es.all notStar) = true → ((backTo pos (starEach es env)).any fun x => x.1) = false
  | [], _ => rfl
  | e :: es, h => by
    rw [List.all_cons, Bool.and_eq_true] at h
    rw [starEach_cons h.1]
    show (false || (backTo pos (starEach es env)).any fun x => x.1) = false
    rw [starEach_any h.2]
    rfl
theorem we_call {sem : Fn} (c : CtxOk X W N sc lv) (G : GlobFn X.prog X.w X.K X.mg X.base lv x sem) (hg : isGl sc x = true) (hn : okName x = true) (hs : (e :: es).all notStar = true)
    (h : WA X (e :: es) σ H fun vs H1 => ∃ g vals st, RVals X.K g H1 vs vals ∧ Ok X.K g H1 st ∧ Post X.K X.mg (fun cls d H' => W cls d σ H') (relE X.K false) g H1 (sem vals st) Q) : WE X (.Call (.Name x p) (e :: es) [] pos) σ H Q := by
  intro pins s I
  obtain ⟨k, f, fd, ps, hk, hm, kp, hb, F, hl⟩ := G.ex
  refine wpAny_Call_Name_kw (ld_glob I (c.gl hg) hm ?_ (okName_debug hn).1)
  rw [List.all_cons, Bool.and_eq_true] at hs
  refine PySem.W.callWith_K (h₀ := X.base) I.ok.mod.kin kp (thn (h pos pins s I) fun us s1 ⟨vs, H1, I1, r, g, vals, st, rv, ok, q⟩ => ⟨I1.kIn, ?_⟩) (starEach_cons hs.1) (starEach_any hs.2)
  refine run_fnG F c.guards (c.room.mono hk) hb (passAt c.takes σ) I1 r ⟨g, vals, st, rv, ok, ?_, q⟩
  by_cases hv : vals.length = ps.length
  · exact hv
  · rw [hl vals st hv] at q
    exact q.elim
theorem we_call0 {sem : Fn} (c : CtxOk X W N sc lv) (G : GlobFn X.prog X.w X.K X.mg X.base lv x sem) (hg : isGl sc x = true) (hn : okName x = true)
    (h : ∃ g st, Ok X.K g H st ∧ Post X.K X.mg (fun cls d H' => W cls d σ H') (relE X.K false) g H (sem [] st) Q) : WE X (.Call (.Name x p) [] [] pos) σ H Q := by
  intro pins s I
  obtain ⟨k, f, fd, ps, hk, hm, kp, hb, F, hl⟩ := G.ex
  refine wpAny_Call_Name_kw (ld_glob I (c.gl hg) hm ?_ (okName_debug hn).1)
  obtain ⟨g, st, ok, q⟩ := h
  refine PySem.W.callWith_K0 I.kIn kp (run_fnG (us := []) F c.guards (c.room.mono hk) hb (passAt c.takes σ) I .nil ⟨g, [], st, .nil, ok, ?_, q⟩)
  by_cases hv : ([] : List Val).length = ps.length
  · exact hv
  · rw [hl [] st hv] at q
    exact q.elim
theorem we_blt {f : Blt} (c : CtxOk X W N sc lv) (hm : ReqOk X.prog X.w X.K X.mg X.base lv f.req) (hg : isGl sc f.name = true) (hs : (e :: es).all notStar = true)
    (h : WA X (e :: es) σ H fun vs H1 => WC X (bltV f) vs H1 Q) : WE X (.Call (.Name f.name p) (e :: es) [] pos) σ H Q := by
  rw [List.all_cons, Bool.and_eq_true] at hs
  cases f
  case gcd => exact WE.of (pe_callBfun (r := wcr X (.builtin "math.gcd")) cr_wc (c.gl hg) hm pa_wa (by decide) (starEach_cons hs.1) (starEach_any hs.2)) h
  case len => exact WE.of (pe_callB (r := wcr X (.builtin "len")) cr_wc (c.gl hg) hm (by decide +kernel) pa_wa (by decide) (by decide) (starEach_cons hs.1) (starEach_any hs.2)) h
  case abs => exact WE.of (pe_callB (r := wcr X (.builtin "abs")) cr_wc (c.gl hg) hm (by decide +kernel) pa_wa (by decide) (by decide) (starEach_cons hs.1) (starEach_any hs.2)) h
  case int => exact WE.of (pe_callTy (r := wcr X (.type "int")) cr_wc (c.gl hg) hm (by decide +kernel) pa_wa (by decide) (by decide) (starEach_cons hs.1) (starEach_any hs.2)) h
  case tuple => exact WE.of (pe_callTy (r := wcr X (.type "tuple")) cr_wc (c.gl hg) hm (by decide +kernel) pa_wa (by decide) (by decide) (starEach_cons hs.1) (starEach_any hs.2)) h
  case list => exact WE.of (pe_callTy (r := wcr X (.type "list")) cr_wc (c.gl hg) hm (by decide +kernel) pa_wa (by decide) (by decide) (starEach_cons hs.1) (starEach_any hs.2)) h
  case sum => exact WE.of (pe_callB (r := wcr X (.builtin "sum")) cr_wc (c.gl hg) hm (by decide +kernel) pa_wa (by decide) (by decide) (starEach_cons hs.1) (starEach_any hs.2)) h
  case min => exact WE.of (pe_callB (r := wcr X (.builtin "min")) cr_wc (c.gl hg) hm (by decide +kernel) pa_wa (by decide) (by decide) (starEach_cons hs.1) (starEach_any hs.2)) h
  case max => exact WE.of (pe_callB (r := wcr X (.builtin "max")) cr_wc (c.gl hg) hm (by decide +kernel) pa_wa (by decide) (by decide) (starEach_cons hs.1) (starEach_any hs.2)) h
  case any => exact WE.of (pe_callB (r := wcr X (.builtin "any")) cr_wc (c.gl hg) hm (by decide +kernel) pa_wa (by decide) (by decide) (starEach_cons hs.1) (starEach_any hs.2)) h
  case all => exact WE.of (pe_callB (r := wcr X (.builtin "all")) cr_wc (c.gl hg) hm (by decide +kernel) pa_wa (by decide) (by decide) (starEach_cons hs.1) (starEach_any hs.2)) h
  case repr => exact WE.of (pe_callB (r := wcr X (.builtin "repr")) cr_wc (c.gl hg) hm (by decide +kernel) pa_wa (by decide) (by decide) (starEach_cons hs.1) (starEach_any hs.2)) h
  case sorted => exact WE.of (pe_callB (r := wcr X (.builtin "sorted")) cr_wc (c.gl hg) hm (by decide +kernel) pa_wa (by decide) (by decide) (starEach_cons hs.1) (starEach_any hs.2)) h
  case str => exact WE.of (pe_callTy (r := wcr X (.type "str")) cr_wc (c.gl hg) hm (by decide +kernel) pa_wa (by decide) (by decide) (starEach_cons hs.1) (starEach_any hs.2)) h
/-- a starred item of a display -/
theorem wa_star {Q : List V → Hp → Prop} (h : WE X e σ H fun x H1 => ∃ g d ds, RT X.K g H1 x d ∧ seqOf d = some ds ∧ (∀ vs', RDs X.K g.Z H1 vs' ds → WA X es σ H1 fun us H2 => Q (vs' ++ us) H2)) :
    WA X (.Starred e p :: es) σ H Q := by
  intro pos pins s I
  refine PySem.W.items_star (thn (h pins s I) fun v s1 ⟨x, H1, I1, r1, g, d, ds, rt, e1, q⟩ => ?_)
  obtain ⟨a, vs, rfl, sq, rv⟩ := rt.seq e1
  cases r1
  have fin : ∀ {T : String} {o : Obj} {its : List Value} {n : Nat}, (T = "list" ∨ T = "tuple") → s1.heap.get? a = some o → o.cls = .type T → o.data = .seq its.toArray n → its.length ≤ sizeLine → Vals vs its →
      wpAny (model X.prog X.w) X.A (collect (.ref a)) (fun here s₂ => wpAny (model X.prog X.w) X.A (spliced (backTo pos (starEach es X.env))) (fun us s₃ => AP X pins σ Q (here ++ us) s₃) X.xe s₂) X.xe s1 := by
    intro T o its n hT ho hc hd hz rr
    refine wpAny_collect_seq a hT ho hc hd (fun h' hk => ?_) (by simpa using hz)
    refine thn (q vs rv pos pins _ (I1.kept (t' := s1.toks) hk)) fun us s3 ⟨ws, H3, I3, r3, q3⟩ => ?_
    exact ⟨vs ++ ws, H3, I3, by simpa using rr.append r3, q3⟩
  unfold PySem.W.StarOf
  unfold notIterableAtAll
  rcases sq with sq | sq
  · obtain ⟨its, rr, ⟨o, n, ho, hc, _, hd⟩, hz⟩ := I1.list sq
    have hl := rr.length
    exact wpAny_bind (wpAny_specialOf ⟨o, ho, hc⟩ PySem.F.slot_list_iter.lookup (wpAny_pure ⟨rfl, fin (.inl rfl) ho hc hd (by omega) rr⟩))
  · obtain ⟨its, rr, ⟨o, ho, hc, n, hd⟩, hz⟩ := I1.tuple sq
    have hl := rr.length
    exact wpAny_bind (wpAny_specialOf ⟨o, ho, hc⟩ PySem.F.slot_tuple_iter.lookup (wpAny_pure ⟨rfl, fin (.inr rfl) ho hc hd (by omega) rr⟩))
end
end MP

/-! The text of an expression, and that the model does what is reckoned. -/
namespace MP
open PySem PyProof.Rows L2 PySem.Spec

def mLit : Lit → Const → Bool
  | .none, .none => true
  | .bool b, .bool c => decide (b = c)
  | .int i, .int j => decide (i = j)
  | .str x, .str y => decide (x = y)
  | _, _ => false
def plainIx : Expr → Bool
  | .Slice _ _ _ _ => false
  | _ => true
def notSet : Expr → Bool
  | .Set _ _ _ => false
  | _ => true
mutual
def mTg (N : List Str) : Tg → Scope → Expr → Bool
  | .nm i, sc, e => match e with
    | .Name x _ => decide (N[i]? = some x) && isLoc sc x && okName x
    | _ => false
  | .tup ts, sc, e => match e with
    | .Tuple es _ _ => mTgs N ts sc es
    | _ => false
def mTgs (N : List Str) : Tgs → Scope → List Expr → Bool
  | .nil, _, es => match es with
    | [] => true
    | _ => false
  | .cons t ts, sc, es => match es with
    | e :: r => mTg N t sc e && mTgs N ts sc r
    | [] => false
end
def tyName (t : String) : Bool := t == "int" || t == "bool" || t == "str" || t == "tuple" || t == "list" || t == "dict"
def mTyName (t : String) (sc : Scope) : Expr → Bool
  | .Name x _ => decide (x = Str.ofString t) && isGl sc x && okName x && tyName t && decide (bootBuiltins x = some (.type t))
  | _ => false
def mTyNames : List String → Scope → List Expr → Bool
  | [], _, [] => true
  | t :: ts, sc, e :: es => mTyName t sc e && mTyNames ts sc es
  | _, _, _ => false
def mKeys : List Str → List (Option Expr) → Bool
  | [], [] => true
  | k :: ks, some (.Constant (.str x) _ _) :: r => decide (k = x) && mKeys ks r
  | _, _ => false
def isTupE : Expr → Bool
  | .Tuple _ _ _ => true
  | _ => false
def plainTest : Expr → Bool
  | .UnaryOp _ _ _ => false
  | .BoolOp _ _ _ => false
  | .IfExp _ _ _ _ => false
  | .Compare _ _ _ _ => false
  | _ => true
/-- no call stands where a method's own object is told -/
def notSuper : Expr → Bool
  | .Call _ _ _ _ => false
  | _ => true
mutual
def mE (N : List Str) : Ex → Scope → Expr → Bool
  | .var i, sc, e => match e with
    | .Name x _ => decide (N[i]? = some x) && isVis sc x && okName x
    | _ => false
  | .cst c, _, e => match e with
    | .Constant k _ _ => mLit c k
    | _ => false
  | .glob y _, sc, e => match e with
    | .Name x _ => decide (y = x) && isGl sc x && okName x
    | _ => false
  | .neg a, sc, e => match e with
    | .UnaryOp o b _ => decide (o = .USub) && mE N a sc b
    | _ => false
  | .not a, sc, e => match e with
    | .UnaryOp o b _ => decide (o = .Not) && mE N a sc b
    | _ => false
  | .bin o a b, sc, e => match e with
    | .BinOp a' o' b' _ => decide (opS o = o') && mE N a sc a' && mE N b sc b'
    | _ => false
  | .cmp o a b, sc, e => match e with
    | .Compare a' os bs _ => (match os, bs with
      | [o'], [b'] => decide (cpS o = o') && mE N a sc a' && mE N b sc b' && notSet b'
      | _, _ => false)
    | _ => false
  | .chain o1 o2 a b c, sc, e => match e with
    | .Compare a' os bs _ => (match os, bs with
      | [p1, p2], [b', c'] => decide (cpS o1 = p1) && decide (cpS o2 = p2) && mE N a sc a' && mE N b sc b' && mE N c sc c' && notSet c'
      | _, _ => false)
    | _ => false
  | .and a b, sc, e => match e with
    | .BoolOp o vs pos => decide (o = .And) && (match vs with
      | [a', b'] => mE N a sc a' && mE N b sc b'
      | a' :: b' :: c' :: r => mE N a sc a' && mE N b sc (.BoolOp .And (b' :: c' :: r) pos)
      | _ => false)
    | _ => false
  | .or a b, sc, e => match e with
    | .BoolOp o vs pos => decide (o = .Or) && (match vs with
      | [a', b'] => mE N a sc a' && mE N b sc b'
      | a' :: b' :: c' :: r => mE N a sc a' && mE N b sc (.BoolOp .Or (b' :: c' :: r) pos)
      | _ => false)
    | _ => false
  | .ite c a b, sc, e => match e with
    | .IfExp c' a' b' _ => mE N c sc c' && mE N a sc a' && mE N b sc b'
    | _ => false
  | .tup es, sc, e => match e with
    | .Tuple es' _ _ => mEs N es sc es'
    | _ => false
  | .lst es, sc, e => match e with
    | .List es' _ => mEs N es sc es'
    | _ => false
  | .ix a b, sc, e => match e with
    | .Subscript a' b' _ => plainIx b' && mE N a sc a' && mE N b sc b'
    | _ => false
  | .slice a lo hi, sc, e => match e with
    | .Subscript a' s _ => (match s with
      | .Slice l h none _ => mE N a sc a' && mO N lo sc l && mO N hi sc h
      | _ => false)
    | _ => false
  | .rev a, sc, e => match e with
    | .Subscript a' (.Slice none none (some (.UnaryOp .USub (.Constant (.int i) _ _) _)) _) _ => decide (i = 1) && mE N a sc a'
    | _ => false
  | .call x _ es, sc, e => match e with
    | .Call f args kws _ => (match f, kws with
      | .Name y _, [] => decide (x = y) && isGl sc x && okName x && args.all notStar && mEs N es sc args
      | _, _ => false)
    | _ => false
  | .blt f es, sc, e => match e with
    | .Call g args kws _ => (match g, kws with
      | .Name y _, [] => decide (f.name = y) && isGl sc y && !args.isEmpty && args.all notStar && mEs N es sc args
      | _, _ => false)
    | _ => false
  | .isi a ts, sc, e => match e with
    | .Call g args kws _ => (match g, kws, args with
      | .Name y _, [], [a', t'] => decide (y = "isinstance") && isGl sc y && mE N a sc a' && notStar a' && (match ts with
        | [t] => mTyName t sc t'
        | _ => false)
      | _, _, _ => false)
    | _ => false
  | .comp elt own tg it ifs, sc, e => match e with
    | .ListComp elt' gs scope _ => (match gs with
      | [⟨tg', it', ifs', n⟩] => decide (n = 0) && blkC N sc scope own && mTg N tg scope tg' && notSet it' && mI N it sc tg' it' && mC N ifs scope ifs' && mE N elt scope elt' && tgIn tg (own.map (·.2))
      | _ => false)
    | _ => false
  | .comp2 _ _ _ _ _ _ _ _, _, _ => false
  | .dicl ks es, sc, e => match e with
    | .Dict keys values _ => mKeys ks keys && decide (ks.length = values.length) && decide (ks.length ≤ 15) && !ks.isEmpty && decide ks.Nodup && mEs N es sc values
    | _ => false
  | .dic0, _, e => match e with
    | .Dict keys values _ => keys.isEmpty && values.isEmpty
    | _ => false
  | .toloc a, sc, e => plainTest e && mE N a sc e
  | .popl a, sc, e => match e with
    | .Call f args kws pos => (match f, args, kws with
      | .Attribute a' x ap, [], [] => decide (x = "pop") && decide (ap.endLine = pos.line) && notSuper a' && mE N a sc a'
      | _, _, _ => false)
    | _ => false
  | .lenl a, sc, e => match e with
    | .Call f args kws _ => (match f, args, kws with
      | .Name y _, [a'], [] => decide (y = "len") && isGl sc y && notStar a' && mE N a sc a'
      | _, _, _ => false)
    | _ => false
def mEs (N : List Str) : Exs → Scope → List Expr → Bool
  | .nil, _, es => match es with
    | [] => true
    | _ => false
  | .cons e r, sc, es => match es with
    | e' :: r' => notStar e' && mE N e sc e' && mEs N r sc r'
    | [] => false
  | .star e r, sc, es => match es with
    | .Starred e' _ :: r' => mE N e sc e' && mEs N r sc r'
    | _ => false
def mO (N : List Str) : Opt → Scope → Option Expr → Bool
  | .non, _, o => match o with
    | none => true
    | some _ => false
  | .som e, sc, o => match o with
    | some e' => mE N e sc e'
    | none => false
def mC (N : List Str) : Opt → Scope → List Expr → Bool
  | .non, _, o => match o with
    | [] => true
    | _ :: _ => false
  | .som e, sc, o => match o with
    | [e'] => mE N e sc e'
    | _ => false
def mI (N : List Str) : It → Scope → Expr → Expr → Bool
  | .seq e, sc, _, e' => mE N e sc e'
  | .rng1 a, sc, _, e' => match e' with
    | .Call g args kws _ => (match g, kws, args with
      | .Name y _, [], [a'] => decide (y = "range") && isGl sc y && notStar a' && mE N a sc a'
      | _, _, _ => false)
    | _ => false
  | .rng2 a b, sc, _, e' => match e' with
    | .Call g args kws _ => (match g, kws, args with
      | .Name y _, [], [a', b'] => decide (y = "range") && isGl sc y && notStar a' && notStar b' && mE N a sc a' && mE N b sc b'
      | _, _, _ => false)
    | _ => false
  | .rng3 a b c, sc, _, e' => match e' with
    | .Call g args kws _ => (match g, kws, args with
      | .Name y _, [], [a', b', c'] => decide (y = "range") && isGl sc y && notStar a' && notStar b' && notStar c' && mE N a sc a' && mE N b sc b' && mE N c sc c'
      | _, _, _ => false)
    | _ => false
  | .enum a, sc, tg, e' => isTupE tg && (match e' with
    | .Call g args kws _ => (match g, kws, args with
      | .Name y _, [], [a'] => decide (y = "enumerate") && isGl sc y && notStar a' && mE N a sc a'
      | _, _, _ => false)
    | _ => false)
  | .zip a b, sc, tg, e' => isTupE tg && (match e' with
    | .Call g args kws _ => (match g, kws, args with
      | .Name y _, [], [a', b'] => decide (y = "zip") && isGl sc y && notStar a' && notStar b' && mE N a sc a' && mE N b sc b'
      | _, _, _ => false)
    | _ => false)
/-- all slots that a target stores are among some -/
def tgIn : Tg → List Nat → Bool
  | .nm i, vs => vs.contains i
  | .tup ts, vs => tgsIn ts vs
def tgsIn : Tgs → List Nat → Bool
  | .nil, _ => true
  | .cons t ts, vs => tgIn t vs && tgsIn ts vs
end
mutual
/-- what an expression asks of the module's names -/
def rqE : Ex → List Req
  | .var _ => []
  | .cst _ => []
  | .glob x d => [.cst x d]
  | .neg a => rqE a
  | .not a => rqE a
  | .bin _ a b => rqE a ++ rqE b
  | .cmp _ a b => rqE a ++ rqE b
  | .chain _ _ a b c => rqE a ++ rqE b ++ rqE c
  | .and a b => rqE a ++ rqE b
  | .or a b => rqE a ++ rqE b
  | .ite c a b => rqE c ++ rqE a ++ rqE b
  | .tup es => rqEs es
  | .lst es => rqEs es
  | .ix a b => rqE a ++ rqE b
  | .slice a lo hi => rqE a ++ rqO lo ++ rqO hi
  | .rev a => rqE a
  | .call x s es => .fn x s :: rqEs es
  | .blt f es => f.req :: rqEs es
  | .isi a ts => .non "isinstance" :: ts.map (fun t => .non (Str.ofString t)) ++ rqE a
  | .comp e _ _ it ifs => rqI it ++ rqO ifs ++ rqE e
  | .comp2 e _ _ it ifs _ it1 ifs1 => rqI it ++ rqO ifs ++ rqI it1 ++ rqO ifs1 ++ rqE e
  | .dicl _ es => rqEs es
  | .dic0 => []
  | .toloc a => rqE a
  | .popl a => rqE a
  | .lenl a => .non "len" :: rqE a
def rqEs : Exs → List Req
  | .nil => []
  | .cons e r => rqE e ++ rqEs r
  | .star e r => rqE e ++ rqEs r
def rqO : Opt → List Req
  | .non => []
  | .som e => rqE e
def rqI : It → List Req
  | .seq e => rqE e
  | .rng1 a => .non "range" :: rqE a
  | .rng2 a b => .non "range" :: (rqE a ++ rqE b)
  | .rng3 a b c => .non "range" :: (rqE a ++ rqE b ++ rqE c)
  | .enum e => .non "enumerate" :: rqE e
  | .zip a b => .non "zip" :: (rqE a ++ rqE b)
end
end MP

/-! t[::-1] of a tuple; isinstance of data. -/
namespace MP
open PySem PyProof.Rows L2 PySem.Spec
section
variable {prog : Program} {w : World} {s : Shared} {A : Around} {E : Value → Shared → Prop}
theorem rev_applied {sl : Addr} {vs : Value} {n : Nat} {Q : Int × Int × Nat → Shared → Prop} (hs : s.heap.IsSliceOf sl .none .none vs) (ps : IsPart vs (some (-1))) (h : Q ((n : Int) - 1, -1, n) s) :
    wpAny (model prog w) A (Builtin.Slice.sliceApplied (.ref sl) (pure (Int.ofNat n))) Q E s := by
  obtain ⟨ob, h1, h2, h3⟩ := hs
  unfold Builtin.Slice.sliceApplied
  unfold Builtin.Slice.sliceFields
  refine wpAny_bind (wpAny_bind (wpAny_field h1 h3 (x := .none) rfl (wpAny_bind (wpAny_field h1 h3 (x := .none) rfl (wpAny_bind (wpAny_field h1 h3 (x := vs) rfl (wpAny_pure ?_)))))))
  refine wpAny_bind (HT.slicePart_ ps ?_)
  show wpAny _ _ (if ((-1 : Int) == 0) = true then _ else _) _ _ s
  rw [if_neg (show ¬ ((-1 : Int) == 0) = true by decide)]
  refine wpAny_bind (HT.slicePart_ .none (wpAny_bind (HT.slicePart_ .none (wpAny_bind (wpAny_pure ?_)))))
  show wpAny _ _ (pure ((n : Int) - 1, (-1 : Int), Builtin.Slice.slicePlaces ((n : Int) - 1) (-1) (-1))) _ _ s
  have e : Builtin.Slice.slicePlaces ((n : Int) - 1) (-1) (-1) = n := by
    rw [Builtin.Slice.slicePlaces, if_neg (show ¬ ((-1 : Int) > 0) by decide)]
    by_cases hn : n = 0
    · rw [if_neg (show ¬ ((n : Int) - 1 > -1) by omega)]
      omega
    · rw [if_pos (show (n : Int) - 1 > -1 by omega), show (- -1 : Int) = 1 by decide, Int.ediv_one]
      omega
  rw [e]
  exact wpAny_pure h
theorem fm_congr {α β : Type} {f g : α → Option β} : ∀ (l : List α), (∀ a ∈ l, f a = g a) → l.filterMap f = l.filterMap g
  | [], _ => rfl
  | a :: l, h => by
    rw [List.filterMap_cons, List.filterMap_cons, h a List.mem_cons_self, fm_congr l fun b hb => h b (List.mem_cons_of_mem _ hb)]
theorem rev_pick (xs : Array Value) : ((List.range xs.size).filterMap fun (k : Nat) => xs[((xs.size : Int) - 1 + (k : Int) * (-1)).toNat]?).toArray = xs.toList.reverse.toArray := by
  have h := PySem.W.krv_pick xs
  rw [← h]
  unfold slicePick
  rw [PySem.W.krv_bounds]
  show _ = ((sliceRange ((xs.size : Int) - 1) (-1) (-1)).filterMap (xs[·]?)).toArray
  rw [PySem.W.krv_sliceRange, List.filterMap_map]
  congr 1
  refine fm_congr _ fun k hk => ?_
  have hk := List.mem_range.mp hk
  show xs[((xs.size : Int) - 1 + (k : Int) * (-1)).toNat]? = xs[xs.size - 1 - k]?
  rw [show ((xs.size : Int) - 1 + (k : Int) * (-1)).toNat = xs.size - 1 - k by omega]
theorem rev_tuple {t sl : Addr} {items : Array Value} {vs : Value} {Q : Value → Shared → Prop} (ht : IsTup s.heap t items) (hs : s.heap.IsSliceOf sl .none .none vs) (ps : IsPart vs (some (-1))) (hz : items.size ≤ sizeLine)
    (h : Q (.ref s.heap.objs.size) { s with heap := s.heap.push { cls := .type "tuple", data := .seq items.toList.reverse.toArray } }) : wpAny (model prog w) A (getItem (.ref t) (.ref sl)) Q E s := by
  have fit : sizeOk (.seq items.toList.reverse.toArray) := by
    show items.toList.reverse.toArray.size ≤ sizeLine
    simpa using hz
  obtain ⟨ob, h1, h2, h3⟩ := id hs
  have hT : s.TypeIs (.ref sl) "slice" := ⟨ob, h1, h2⟩
  unfold getItem
  refine wpAny_holding ?_
  refine wpAny_bind (wpAny_sequenceKey ht.typeIs (by decide) (wpAny_bind ?_))
  refine (wpAny_callSpecial?_slot (name := Str.ofString "__getitem__") ht.typeIs PyProof.Rows.slot_tuple_getitem (wpAny_call_entry PyProof.Rows.slot_tuple_getitem ht.typeIs entry_tuple_getitem ?_ (args_tuple_getitem _ _)))
  change wpAny _ _ (Builtin.Tuple.tupleItemsOf (.ref t) >>= _) _ _ s
  refine wpAny_bind (tupleItemsOf_ ht (wpAny_bind (wpAny_typeOf hT ?_)))
  rw [if_pos (show (Value.type "slice" == Value.type "slice") = true by decide)]
  refine wpAny_bind (rev_applied hs ps ?_)
  show wpAny _ _ (if (((items.size : Int) - 1) == 0 && (-1 : Int) == 1 && items.size == items.size) = true then _ else _) _ _ s
  rw [if_neg (show ¬ (((items.size : Int) - 1) == 0 && (-1 : Int) == 1 && items.size == items.size) = true by simp), rev_pick]
  first
    | exact wpAny_bind (m := Builtin.Tuple.tupleExact _) (wpAny_newObj_type (wpAny_pure ⟨_, rfl, wpAny_pure h⟩) fit)
    | exact wpAny_bind (m := Builtin.Tuple.tupleExact _) (wpAny_newObj_type (wpAny_bind (wpAny_pure (wpAny_pure ⟨_, rfl, wpAny_pure h⟩))) fit)
    | exact wpAny_bind (wpAny_bind (m := Builtin.Tuple.tupleExact _) (wpAny_newObj_type (wpAny_pure (wpAny_pure ⟨_, rfl, wpAny_pure h⟩)) fit))
end
section
variable {X : Cx}
def tRevT (K : PySem.W.Frag) (te : TE) : TE := fun σ H Q => te σ H fun x H1 => ∃ a xs, x = .ref a ∧ SqT K H1 a xs ∧ ∀ p, H1 p = none → Q (.ref p) (upd H1 p (.tup xs.reverse))
theorem pe_revT {e : Expr} {te : TE} {k : Nat} {p1 p2 p3 pos : Pos} (he : PE X e te) : PE X (.Subscript e (.Slice none none (some (.UnaryOp .USub (.Constant (.int 1) k p1) p2)) p3) pos) (tRevT X.K te) := by
  refine ⟨fun pins s σ H Q I h => Subscript_ (thn (he.run pins s σ H _ I h) fun v s1 ⟨x, H1, I1, r1, a, xs, ex, hx, q⟩ => ?_)⟩
  subst ex
  cases r1
  have nn : ∀ (s : Shared) (R : Value → Shared → Prop), R .none s → wpAny (model X.prog X.w) X.A (evalPart none X.env) R X.xe s := fun s R h => by
    rw [evalPart_none]
    exact wpAny_pure h
  refine wpAny_Slice (nn s1 _ (nn s1 _ (thn ((po_some (pe_un un_neg pe_int)).run pins s1 σ H1 (fun j G => j = some (-1) ∧ G = H1) I1 ⟨1, rfl, -1, rfl, rfl, rfl⟩) fun vs s4 ⟨j, H4, I4, ps, ej, eG⟩ => ?_)))
  subst ej eG
  have I5 : Inv X pins σ H4 { s4 with heap := s4.heap.push { cls := .type "slice", data := .fields #[.none, .none, vs] } } := I4.kept (t' := s4.toks) fun b ob q => Heap.get?_push_of_some _ q
  obtain ⟨its, r, ht, hz⟩ := I5.tuple hx
  have hlen := r.length
  show wpAny (model X.prog X.w) X.A (subscriptTail e (.Slice none none (some (.UnaryOp .USub (.Constant (.int 1) k p1) p2)) p3) (.ref a) (.ref s4.heap.objs.size)) (EP X pins σ Q) X.xe _
  refine tail_any (ops := [.ref a, .ref s4.heap.objs.size]) ht.typeIs PyProof.Rows.slot_tuple_getitem.lookup ?_ (by with_unfolding_all rfl)
  refine rev_tuple ht (Heap.IsSliceOf.new _ .none .none vs) ps (by rw [List.size_toArray]; omega) ?_
  refine ⟨.ref _, _, I5.laid (t' := s4.toks) (o := .tup xs.reverse) (fun b ob q => Heap.get?_push_of_some _ q) (Nat.le_refl _) ?_, rfl, q _ (I5.hok.fresh (Nat.le_refl _))⟩
  exact ⟨by rw [List.length_reverse]; exact hz, _, r.reverse, ⟨_, Heap.get?_push_size _ rfl, rfl, _, rfl⟩⟩
theorem wc_isi {K : PySem.W.Frag} {g : G} {H : Hp} {x : V} {d : D} {t : String} {Q : VK} (hx : RT K g H x d) (eK : X.K = K) (ht : tyName t = true) (q : Q (.bl (isA d t)) H) : WC X (.builtin "isinstance") [x, .ty t] H Q := by
  subst eK
  have fin : ∀ (T : String), TyX X.K H x (.type T) → kitB T t = some (isA d t) → WC X (.builtin "isinstance") [x, .ty t] H Q := fun T h1 h2 =>
    WC.of call_isi ⟨x, .ty t, .type T, .type t, isA d t, rfl, .ty t, h1, kit_ty h2, q⟩
  have ht : t = "int" ∨ t = "bool" ∨ t = "str" ∨ t = "tuple" ∨ t = "list" ∨ t = "dict" := by
    simp only [tyName, Bool.or_eq_true, beq_iff_eq] at ht
    rcases ht with ((((h | h) | h) | h) | h) | h <;> simp [h]
  cases d with
  | none =>
    have e := hx.none
    subst e
    refine fin "NoneType" (.base .non) ?_
    rcases ht with rfl | rfl | rfl | rfl | rfl | rfl <;> rfl
  | bool b =>
    have e := hx.bool
    subst e
    refine fin "bool" (.base (.bl _)) ?_
    rcases ht with rfl | rfl | rfl | rfl | rfl | rfl <;> rfl
  | int b =>
    have e := hx.int
    subst e
    refine fin "int" (.base (.int _)) ?_
    rcases ht with rfl | rfl | rfl | rfl | rfl | rfl <;> rfl
  | str b =>
    have e := hx.str
    subst e
    refine fin "str" (.base (.str _)) ?_
    rcases ht with rfl | rfl | rfl | rfl | rfl | rfl <;> rfl
  | list ds =>
    obtain ⟨a, vs, rfl, s, _⟩ := hx.list
    refine fin "list" ?_ ?_
    · rcases s with (s | ⟨o, s⟩) | ⟨o, its, n, h1, h2, _⟩
      · exact .base (.lst s)
      · exact .base (.frz s)
      · exact .kList h1 h2
    · rcases ht with rfl | rfl | rfl | rfl | rfl | rfl <;> rfl
  | tuple ds =>
    obtain ⟨a, vs, rfl, s, _⟩ := hx.tuple
    refine fin "tuple" ?_ ?_
    · rcases s with (s | ⟨o, s⟩) | ⟨o, its, n, h1, h2, _⟩
      · exact .base (.tup s)
      · exact .fTuple s
      · exact .kTuple h1 h2
    · rcases ht with rfl | rfl | rfl | rfl | rfl | rfl <;> rfl
  | dict ds =>
    rcases hx with hx | ⟨a, rfl, hx⟩
    · cases hx with
      | dict z s r =>
        refine fin "dict" ?_ ?_
        · rcases s with s | ⟨o, s⟩
          · exact .base (.dK s)
          · exact .fDict s
        · rcases ht with rfl | rfl | rfl | rfl | rfl | rfl <;> rfl
    · exact hx.elim
end
end MP

/-! Expressions: the model does what is reckoned. -/
namespace MP
open PySem PyProof.Rows L2 PySem.Spec

def Rqs (X : Cx) (lv : Nat) (l : List Req) : Prop := ∀ r ∈ l, ReqOk X.prog X.w X.K X.mg X.base lv r
theorem Rqs.left {X : Cx} {lv : Nat} {a b : List Req} (h : Rqs X lv (a ++ b)) : Rqs X lv a := fun r hr => h r (List.mem_append_left _ hr)
theorem Rqs.right {X : Cx} {lv : Nat} {a b : List Req} (h : Rqs X lv (a ++ b)) : Rqs X lv b := fun r hr => h r (List.mem_append_right _ hr)
theorem Rqs.tail {X : Cx} {lv : Nat} {a : Req} {b : List Req} (h : Rqs X lv (a :: b)) : Rqs X lv b := fun r hr => h r (List.mem_cons_of_mem _ hr)
theorem Rqs.head {X : Cx} {lv : Nat} {a : Req} {b : List Req} (h : Rqs X lv (a :: b)) : ReqOk X.prog X.w X.K X.mg X.base lv a := h a List.mem_cons_self
/-- where an expression is met -/
structure At (X : Cx) (W : WX) (N : List Str) (sc : Scope) (lv : Nat) (g : G) (H : Hp) (σ : L2.St) (env : Env) (st : Store) : Prop where
  c : CtxOk X W N sc lv
  ok : Ok X.K g H st
  en : EnvOk X.K g H σ env
theorem At.on {X : Cx} {W : WX} {N : List Str} {sc : Scope} {lv : Nat} {g g1 : G} {H H1 : Hp} {σ : L2.St} {env : Env} {st st1 : Store} (a : At X W N sc lv g H σ env st) (s : Step g H g1 H1) (ok : Ok X.K g1 H1 st1) : At X W N sc lv g1 H1 σ env st1 :=
  ⟨a.c, ok, a.en.step s a.ok⟩
abbrev WS_ (W : WX) (σ : L2.St) : Value → Option Addr → Hp → Prop := fun cls d H' => W cls d σ H'
def SimE (m : Ex) : Prop := ∀ {X : Cx} {W : WX} {N : List Str} {sc : Scope} {lv : Nat} {g : G} {H : Hp} {σ : L2.St} {env : Env} {st : Store} (e : Expr) (pk : Bool) (Q : VK), At X W N sc lv g H σ env st → mE N m sc e = true → Rqs X lv (rqE m) →
  Post X.K X.mg (WS_ W σ) (relE X.K pk) g H (evE m pk env st) Q → WE X e σ H Q
def SimT (m : Ex) : Prop := ∀ {X : Cx} {W : WX} {N : List Str} {sc : Scope} {lv : Nat} {g : G} {H : Hp} {σ : L2.St} {env : Env} {st : Store} (e : Expr) (Q : Bool → Hp → Prop), At X W N sc lv g H σ env st → mE N m sc e = true → Rqs X lv (rqE m) →
  Post X.K X.mg (WS_ W σ) relEq g H ((evE m true env st).bind fun x st => boolOf x st) Q → WT X e σ H Q ∧ ((∃ o vs p, e = .BoolOp o vs p) → WW X e σ H Q)
def SimV (m : Exs) : Prop := ∀ {X : Cx} {W : WX} {N : List Str} {sc : Scope} {lv : Nat} {g : G} {H : Hp} {σ : L2.St} {env : Env} {st : Store} (es : List Expr) (Q : List V → Hp → Prop), At X W N sc lv g H σ env st → mEs N m sc es = true → Rqs X lv (rqEs m) →
  Post X.K X.mg (WS_ W σ) (relV X.K) g H (evV m env st) Q → WA X es σ H Q
def SimA (m : Exs) : Prop := ∀ {X : Cx} {W : WX} {N : List Str} {sc : Scope} {lv : Nat} {g : G} {H : Hp} {σ : L2.St} {env : Env} {st : Store} (es : List Expr) (Q : List V → Hp → Prop), At X W N sc lv g H σ env st → mEs N m sc es = true → Rqs X lv (rqEs m) →
  Post X.K X.mg (WS_ W σ) (relD X.K) g H (evA m env st) Q → WA X es σ H Q
def SimP (m : Exs) : Prop := ∀ {X : Cx} {W : WX} {N : List Str} {sc : Scope} {lv : Nat} {g : G} {H : Hp} {σ : L2.St} {env : Env} {st : Store} (es : List Expr) (Q : List V → Hp → Prop), At X W N sc lv g H σ env st → mEs N m sc es = true → Rqs X lv (rqEs m) →
  Post X.K X.mg (WS_ W σ) (relT X.K) g H (evP m env st) Q → WA X es σ H Q
def SimO (m : Opt) : Prop := ∀ {X : Cx} {W : WX} {N : List Str} {sc : Scope} {lv : Nat} {g : G} {H : Hp} {σ : L2.St} {env : Env} {st : Store} (e : Option Expr) (Q : Option Int → Hp → Prop), At X W N sc lv g H σ env st → mO N m sc e = true → Rqs X lv (rqO m) →
  Post X.K X.mg (WS_ W σ) relEq g H (evO m env st) Q → WP X e σ H Q

theorem cond_true {a b : Bool} (h : (a && b) = true) : a = true ∧ b = true := Bool.and_eq_true_iff.mp h
theorem no_false {p : Prop} (h : false = true) : p := by cases h

theorem sim_var {i : Nat} : SimE (.var i) := by
  intro X W N sc lv g H σ env st e pk Q a hm hr h
  cases e <;> try exact no_false hm
  rename_i x pos
  obtain ⟨hm, h3⟩ := cond_true hm
  obtain ⟨h1, h2⟩ := cond_true hm
  have h1 : N[i]? = some x := of_decide_eq_true h1
  have hd := okName_debug h3
  simp only [evE] at h
  cases hs : env[i]? with
  | none => rw [hs] at h; exact h.elim
  | some s =>
    rw [hs] at h
    obtain ⟨y, hy, so⟩ := a.en.slot hs
    cases s with
    | un => exact h.elim
    | val v =>
      obtain ⟨w, rfl, r⟩ := so
      refine WE.of (pe_var (by rw [a.c.eN]; exact h1) (a.c.vis h2) hd.1 hd.2.1) ⟨w, hy, ?_⟩
      refine h g w H .refl a.ok ?_
      cases v with
      | loc n => exact r
      | dat d =>
        cases pk with
        | true => exact .inl r
        | false => exact r
    | own d =>
      obtain ⟨b, rfl, r⟩ := so
      cases pk with
      | false => exact h.elim
      | true =>
        refine WE.of (pe_var (by rw [a.c.eN]; exact h1) (a.c.vis h2) hd.1 hd.2.1) ⟨_, hy, ?_⟩
        exact h g _ H .refl a.ok (.inr ⟨b, rfl, r⟩)
theorem sim_cst {k : Lit} : SimE (.cst k) := by
  intro X W N sc lv g H σ env st e pk Q a hm hr h
  cases e <;> try exact no_false hm
  rename_i v j pos
  have h : Fin X.K pk g H st (plain k.d) Q := h
  cases k <;> cases v <;> try exact no_false hm
  · exact WE.of pe_non (h.plain a.ok .none)
  · cases of_decide_eq_true (show decide (_ = _) = true from hm)
    exact WE.of pe_bl (h.plain a.ok (.bool _))
  · cases of_decide_eq_true (show decide (_ = _) = true from hm)
    exact WE.of pe_int (h.plain a.ok (.int _))
  · cases of_decide_eq_true (show decide (_ = _) = true from hm)
    exact WE.of pe_str (h.plain a.ok (.str _))
theorem sim_glob {x : Str} {d : D} : SimE (.glob x d) := by
  intro X W N sc lv g H σ env st e pk Q a hm hr h
  cases e <;> try exact no_false hm
  rename_i y pos
  obtain ⟨hm, h3⟩ := cond_true hm
  obtain ⟨h1, h2⟩ := cond_true hm
  have h1 : x = y := of_decide_eq_true h1
  subst h1
  obtain ⟨u, v, hu, rv, rd⟩ := hr.head
  have h : Fin X.K pk g H st (plain d) Q := h
  exact WE.of (pe_glob (a.c.gl h2) hu rv (okName_debug h3).1) (h.plain a.ok (rd _ _))
theorem sim_neg {a : Ex} (ha : SimE a) : SimE (.neg a) := by
  intro X W N sc lv g H σ env st e pk Q at_ hm hr h
  cases e <;> try exact no_false hm
  rename_i o b pos
  obtain ⟨h1, h2⟩ := cond_true hm
  have h1 : o = .USub := of_decide_eq_true h1
  subst h1
  refine WE.of (pe_un un_neg pe_we) (ha b true _ at_ h2 hr (h.bind based_e fun x st1 g1 v H1 s1 o1 r1 h1 => ?_))
  obtain ⟨i, ei, h1⟩ := h1.int
  have e2 := (r1.rt ei).int
  subst e2
  have h1 : Fin X.K pk g1 H1 st1 (plain (.int (-i))) Q := h1
  exact ⟨i, rfl, h1.plain o1 (.int _)⟩
theorem sim_not {a : Ex} (ha : SimE a) : SimE (.not a) := by
  intro X W N sc lv g H σ env st e pk Q at_ hm hr h
  cases e <;> try exact no_false hm
  rename_i o b pos
  obtain ⟨h1, h2⟩ := cond_true hm
  have h1 : o = .Not := of_decide_eq_true h1
  subst h1
  refine WE.of (pe_not pe_we) (ha b true _ at_ h2 hr (h.bind based_e fun x st1 g1 v H1 s1 o1 r1 h1 => ?_))
  obtain ⟨i, ei, h1⟩ := h1.bool
  have e2 := (r1.rt ei).bool
  subst e2
  have h1 : Fin X.K pk g1 H1 st1 (plain (.bool (!i))) Q := h1
  exact ⟨i, rfl, h1.plain o1 (.bool _)⟩
theorem sim_bin {o : Op2} {a b : Ex} (ha : SimE a) (hb : SimE b) : SimE (.bin o a b) := by
  intro X W N sc lv g H σ env st e pk Q at_ hm hr h
  cases e <;> try exact no_false hm
  rename_i a' o' b' pos
  obtain ⟨hm, h3⟩ := cond_true hm
  obtain ⟨h1, h2⟩ := cond_true hm
  have h1 : opS o = o' := of_decide_eq_true h1
  subst h1
  refine WE.of (pe_op op_wo pe_we pe_we) (ha a' true _ at_ h2 hr.left (h.bind based_e fun x st1 g1 v H1 s1 o1 r1 h1 => ?_))
  obtain ⟨d, ed, h1⟩ := h1.dat
  refine hb b' true _ (at_.on s1 o1) h3 hr.right (h1.bind based_e fun y st2 g2 v2 H2 s2 o2 r2 h2 => ?_)
  obtain ⟨d2, ed2, h2⟩ := h2.dat
  obtain ⟨fr, r, er, h2⟩ := h2.bd
  exact bin_ok ((r1.rt ed).step s2 o1) (r2.rt ed2) rfl o2 er h2
theorem room_u {lv : Nat} {A : Around} (r : Room lv A) : A.units + 150 < cLine := by
  have := r.un
  omega
theorem sim_cmp {o : Cp} {a b : Ex} (ha : SimE a) (hb : SimE b) : SimE (.cmp o a b) := by
  intro X W N sc lv g H σ env st e pk Q at_ hm hr h
  cases e <;> try exact no_false hm
  rename_i a' os bs pos
  rcases os with _ | ⟨o', _ | ⟨_, _⟩⟩ <;> try exact no_false hm
  rcases bs with _ | ⟨b', _ | ⟨_, _⟩⟩ <;> try exact no_false hm
  obtain ⟨hm, h4⟩ := cond_true hm
  obtain ⟨hm, h3⟩ := cond_true hm
  obtain ⟨h1, h2⟩ := cond_true hm
  have h1 : cpS o = o' := of_decide_eq_true h1
  subst h1
  have hb4 : behindInMarks (cpS o) b' = false := by
    cases b' <;> first | rfl | exact no_false h4
  refine WE.of (pe_cmpR op_wo pe_we pe_we hb4) (ha a' true _ at_ h2 hr.left (h.bind based_e fun x st1 g1 v H1 s1 o1 r1 h1 => ?_))
  obtain ⟨d, ed, h1⟩ := h1.dat
  refine hb b' true _ (at_.on s1 o1) h3 hr.right (h1.bind based_e fun y st2 g2 v2 H2 s2 o2 r2 h2 => ?_)
  obtain ⟨d2, ed2, h2⟩ := h2.dat
  obtain ⟨b, eb, h2⟩ := h2.bb
  refine cmp_ok ((r1.rt ed).step s2 o1) (r2.rt ed2) rfl ?_ o2 eb (h2.plain o2 (.bool _))
  have := room_u at_.c.room
  omega
theorem sim_chain {o1 o2 : Cp} {a b k : Ex} (ha : SimE a) (hb : SimE b) (hk : SimE k) : SimE (.chain o1 o2 a b k) := by
  intro X W N sc lv g H σ env st e pk Q at_ hm hr h
  cases e <;> try exact no_false hm
  rename_i a' os bs pos
  rcases os with _ | ⟨p1, _ | ⟨p2, _ | ⟨_, _⟩⟩⟩ <;> try exact no_false hm
  rcases bs with _ | ⟨b', _ | ⟨c', _ | ⟨_, _⟩⟩⟩ <;> try exact no_false hm
  obtain ⟨hm, h6⟩ := cond_true hm
  obtain ⟨hm, h5⟩ := cond_true hm
  obtain ⟨hm, h4⟩ := cond_true hm
  obtain ⟨hm, h3⟩ := cond_true hm
  obtain ⟨h1, h2⟩ := cond_true hm
  have h1 : cpS o1 = p1 := of_decide_eq_true h1
  have h2 : cpS o2 = p2 := of_decide_eq_true h2
  subst h1 h2
  have hb4 : lastMarks [cpS o1, cpS o2] [b', c'] = false := by
    show behindInMarks (cpS o2) c' = false
    cases c' <;> first | rfl | exact no_false h6
  have hu := room_u at_.c.room
  refine WE.of (pe_chain op_wo op_wo pe_we pe_we pe_we hb4) (ha a' true _ at_ h3 hr.left.left (h.bind based_e fun x st1 g1 v H1 s1 o1 r1 h1 => ?_))
  obtain ⟨d, ed, h1⟩ := h1.dat
  refine hb b' true _ (at_.on s1 o1) h4 hr.left.right (h1.bind based_e fun y st2 g2 v2 H2 s2 o2 r2 h2 => ?_)
  obtain ⟨d2, ed2, h2⟩ := h2.dat
  obtain ⟨b, eb, h2⟩ := h2.opt
  refine cmp_ok ((r1.rt ed).step s2 o1) (r2.rt ed2) rfl (by omega) o2 eb ⟨b, rfl, ?_⟩
  cases b with
  | false =>
    have h2 : Fin X.K pk g2 H2 st2 (plain (.bool false)) Q := h2
    exact h2.plain o2 (.bool _)
  | true =>
    rw [if_pos rfl]
    refine hk c' true _ ((at_.on s1 o1).on s2 o2) h5 hr.right (Post.bind based_e h2 fun z st3 g3 v3 H3 s3 o3 r3 h3 => ?_)
    obtain ⟨d3, ed3, h3⟩ := h3.dat
    obtain ⟨b, eb, h3⟩ := h3.bb
    exact cmp_ok ((r2.rt ed2).step s3 o2) (r3.rt ed3) rfl (by omega) o3 eb (h3.plain o3 (.bool _))

theorem sim_and {a b : Ex} (ha : SimE a) (hb : SimE b) : SimE (.and a b) := by
  intro X W N sc lv g H σ env st e pk Q at_ hm hr h
  cases e <;> try exact no_false hm
  rename_i o vs pos
  obtain ⟨h1, hm⟩ := cond_true hm
  have h1 : o = .And := of_decide_eq_true h1
  subst h1
  have main : ∀ (a' b' : Expr) (r : List Expr), mE N a sc a' = true → (∀ {g1 : G} {H1 : Hp} {st1 : Store} (Q : VK), At X W N sc lv g1 H1 σ env st1 → Post X.K X.mg (WS_ W σ) (relE X.K true) g1 H1 (evE b true env st1) Q → WE X (.BoolOp .And (b' :: r) pos) σ H1 Q) →
      WE X (.BoolOp .And (a' :: b' :: r) pos) σ H Q := by
    intro a' b' r hma hbb
    refine WE.of (pe_and pe_we pe_we) (ha a' true _ at_ hma hr.left (h.bind based_e fun x st1 g1 v H1 s1 o1 r1 h1 => ?_))
    obtain ⟨i, ei, h1⟩ := h1.bool
    have e2 := (r1.rt ei).bool
    subst e2
    refine ⟨i, rfl, ?_⟩
    cases i with
    | false =>
      have h1 : Fin X.K pk g1 H1 st1 (plain (.bool false)) Q := h1
      exact h1.plain o1 (.bool _)
    | true =>
      rw [if_pos rfl]
      refine hbb Q (at_.on s1 o1) (Post.bind based_e h1 fun y st2 g2 v2 H2 s2 o2 r2 h2 => ?_)
      obtain ⟨k, ek, h2⟩ := h2.bool
      have e3 := (r2.rt ek).bool
      subst e3
      have h2 : Fin X.K pk g2 H2 st2 (plain (.bool k)) Q := h2
      exact h2.plain o2 (.bool _)
  rcases vs with _ | ⟨a', _ | ⟨b', _ | ⟨c', r⟩⟩⟩ <;> try exact no_false hm
  · obtain ⟨h2, h3⟩ := cond_true hm
    exact main a' b' [] h2 fun Q at1 h => WE.of (pe_one pe_we) (hb b' true _ at1 h3 hr.right h)
  · obtain ⟨h2, h3⟩ := cond_true hm
    exact main a' b' (c' :: r) h2 fun Q at1 h => hb _ true _ at1 h3 hr.right h
theorem sim_or {a b : Ex} (ha : SimE a) (hb : SimE b) : SimE (.or a b) := by
  intro X W N sc lv g H σ env st e pk Q at_ hm hr h
  cases e <;> try exact no_false hm
  rename_i o vs pos
  obtain ⟨h1, hm⟩ := cond_true hm
  have h1 : o = .Or := of_decide_eq_true h1
  subst h1
  have main : ∀ (a' b' : Expr) (r : List Expr), mE N a sc a' = true → (∀ {g1 : G} {H1 : Hp} {st1 : Store} (Q : VK), At X W N sc lv g1 H1 σ env st1 → Post X.K X.mg (WS_ W σ) (relE X.K true) g1 H1 (evE b true env st1) Q → WE X (.BoolOp .Or (b' :: r) pos) σ H1 Q) →
      WE X (.BoolOp .Or (a' :: b' :: r) pos) σ H Q := by
    intro a' b' r hma hbb
    refine WE.of (pe_or pe_we pe_we) (ha a' true _ at_ hma hr.left (h.bind based_e fun x st1 g1 v H1 s1 o1 r1 h1 => ?_))
    obtain ⟨i, ei, h1⟩ := h1.bool
    have e2 := (r1.rt ei).bool
    subst e2
    refine ⟨i, rfl, ?_⟩
    cases i with
    | true =>
      have h1 : Fin X.K pk g1 H1 st1 (plain (.bool true)) Q := h1
      exact h1.plain o1 (.bool _)
    | false =>
      simp only [if_neg Bool.false_ne_true]
      refine hbb Q (at_.on s1 o1) (Post.bind based_e h1 fun y st2 g2 v2 H2 s2 o2 r2 h2 => ?_)
      obtain ⟨k, ek, h2⟩ := h2.bool
      have e3 := (r2.rt ek).bool
      subst e3
      have h2 : Fin X.K pk g2 H2 st2 (plain (.bool k)) Q := h2
      exact h2.plain o2 (.bool _)
  rcases vs with _ | ⟨a', _ | ⟨b', _ | ⟨c', r⟩⟩⟩ <;> try exact no_false hm
  · obtain ⟨h2, h3⟩ := cond_true hm
    exact main a' b' [] h2 fun Q at1 h => WE.of (pe_one pe_we) (hb b' true _ at1 h3 hr.right h)
  · obtain ⟨h2, h3⟩ := cond_true hm
    exact main a' b' (c' :: r) h2 fun Q at1 h => hb _ true _ at1 h3 hr.right h
theorem sim_ite {c a b : Ex} (hc : SimT c) (ha : SimE a) (hb : SimE b) : SimE (.ite c a b) := by
  intro X W N sc lv g H σ env st e pk Q at_ hm hr h
  cases e <;> try exact no_false hm
  rename_i c' a' b' pos
  obtain ⟨hm, h3⟩ := cond_true hm
  obtain ⟨h1, h2⟩ := cond_true hm
  have h : Post X.K X.mg (WS_ W σ) (relE X.K pk) g H (((evE c true env st).bind fun x st => boolOf x st).bind fun k st => bif k then evE a pk env st else evE b pk env st) Q := by
    have e : evE (.ite c a b) pk env st = (((evE c true env st).bind fun x st => boolOf x st).bind fun k st => bif k then evE a pk env st else evE b pk env st) := by
      simp only [evE]
      cases evE c true env st <;> rfl
    rw [← e]
    exact h
  refine WE.of (pe_ifExp pt_wt pe_we pe_we) ((hc c' _ at_ h1 hr.left.left (Post.bind based_e h fun k st1 g1 v H1 s1 o1 r1 h1 => ?_)).1)
  have r1 : v = k := r1
  subst r1
  cases v with
  | true =>
    rw [if_pos rfl]
    exact ha a' pk _ (at_.on s1 o1) h2 hr.left.right h1
  | false =>
    simp only [if_neg Bool.false_ne_true]
    exact hb b' pk _ (at_.on s1 o1) h3 hr.right h1
theorem sim_tup {es : Exs} (hs : SimA es) : SimE (.tup es) := by
  intro X W N sc lv g H σ env st e pk Q at_ hm hr h
  cases e <;> try exact no_false hm
  rename_i es' k pos
  refine WE.of (pe_tup pa_wa) (hs es' _ at_ hm hr (Post.bind based_e h fun ds st1 g1 vs H1 s1 o1 r1 h1 => ?_))
  obtain ⟨hz, h1⟩ := h1.cond
  have h1 : Fin X.K pk g1 H1 st1 (plain (.tuple ds)) Q := h1
  exact ⟨by rw [r1.length]; exact of_decide_eq_true hz, fun p n => h1.tup o1 r1 n⟩
theorem sim_lst {es : Exs} (hs : SimA es) : SimE (.lst es) := by
  intro X W N sc lv g H σ env st e pk Q at_ hm hr h
  cases e <;> try exact no_false hm
  rename_i es' pos
  refine WE.of (pe_lst pa_wa) (hs es' _ at_ hm hr (Post.bind based_e h fun ds st1 g1 vs H1 s1 o1 r1 h1 => ?_))
  obtain ⟨hz, h1⟩ := h1.cond
  have h1 : Fin X.K pk g1 H1 st1 (fresh (.list ds)) Q := h1
  exact ⟨by rw [r1.length]; exact of_decide_eq_true hz, fun p n => h1.lst o1 r1 n⟩
theorem plainIx_ok {e : Expr} (h : plainIx e = true) : PlainIx e ∧ NoSl e := by
  cases e <;> first | exact no_false h | exact ⟨fun _ _ => rfl, fun _ _ => rfl⟩
theorem RKV.get {K : PySem.W.Frag} {g : G} {H : Hp} {s : Str} {x : Val} : ∀ {kv : List (Key × V)} {kvs : List (Str × Val)}, RKV K g H kv kvs → kvs.lookup s = some x → ∃ v, valV kv (.inr s) = some v ∧ RVal K g H v x
  | _, _, .nil, e => by simp at e
  | _, _, .cons (k := k) (v := v) r t, e => by
    by_cases hk : s = k
    · subst hk
      rw [List.lookup_cons_self] at e
      cases e
      exact ⟨v, valV_pos rfl, r⟩
    · rw [List.lookup_cons, show (s == k) = false from beq_eq_false_iff_ne.mpr hk] at e
      obtain ⟨w, h1, h2⟩ := t.get e
      exact ⟨w, by rw [valV_neg (fun q => hk (Sum.inr.inj q).symm)]; exact h1, h2⟩
theorem sim_ix {a b : Ex} (ha : SimE a) (hb : SimE b) : SimE (.ix a b) := by
  intro X W N sc lv g H σ env st e pk Q at_ hm hr h
  cases e <;> try exact no_false hm
  rename_i a' b' pos
  obtain ⟨hm, h3⟩ := cond_true hm
  obtain ⟨h1, h2⟩ := cond_true hm
  have hp := plainIx_ok h1
  have hu := room_u at_.c.room
  have h : Post X.K X.mg (WS_ W σ) (relE X.K pk) g H ((evE a true env st).bind fun x st => (evE b true env st).bind fun y st => ixV x y st) Q := h
  cases ea : evE a true env st with
  | no =>
    rw [ea] at h
    exact h.elim
  | exc c ds st1 =>
    rw [ea] at h
    refine WE.of (pe_ix ix_seq pe_we pe_we hp.1) (ha a' true _ at_ h2 hr.left ?_)
    rw [ea]
    exact h
  | ok x st1 =>
    rw [ea] at h
    have h : Post X.K X.mg (WS_ W σ) (relE X.K pk) g H ((evE b true env st1).bind fun y st => ixV x y st) Q := h
    obtain ⟨fx, x⟩ := x
    cases x with
    | dat d =>
      refine WE.of (pe_ix ix_seq pe_we pe_we hp.1) (ha a' true _ at_ h2 hr.left ?_)
      rw [ea]
      intro g1 v H1 s1 o1 r1
      refine hb b' true _ (at_.on s1 o1) h3 hr.right (Post.bind based_e (h.later based_e s1) fun y st2 g2 v2 H2 s2 o2 r2 h2 => ?_)
      have rx := (r1.rt rfl).step s2 o1
      obtain ⟨fy, y⟩ := y
      cases y with
      | loc n => cases d <;> exact h2.elim
      | dat e =>
        have re := r2.rt rfl
        have seq : ∀ {ds : List D} {k : Int}, seqOf d = some ds → e = .int k → Post X.K X.mg (WS_ W σ) (relE X.K pk) g2 H2 (match ixD ds k with | some d => .ok (plain d) st2 | none => .no) Q → rIx X.K v v2 H2 Q := by
          intro ds k e1 e2 h3
          subst e2
          have e3 := re.int
          subst e3
          cases hd : ixD ds k with
          | none =>
            rw [hd] at h3
            exact h3.elim
          | some r =>
            rw [hd] at h3
            exact ix_rd rx e1 hd rfl o2 h3
        cases d <;> cases e <;> first | exact h2.elim | exact seq rfl rfl h2
    | loc n =>
      refine WE.of (pe_dget (by omega) pe_we pe_we hp.2) (ha a' true _ at_ h2 hr.left ?_)
      rw [ea]
      intro g1 v H1 s1 o1 r1
      refine hb b' true _ (at_.on s1 o1) h3 hr.right (Post.bind based_e (h.later based_e s1) fun y st2 g2 v2 H2 s2 o2 r2 h2 => ?_)
      have rv : RVal X.K g1 H1 v (.loc n) := by cases fx <;> exact r1
      obtain ⟨p, hp1, rfl⟩ := rv.step s2 o1
      obtain ⟨fy, y⟩ := y
      cases y with
      | loc n => exact h2.elim
      | dat e =>
        cases e <;> try exact h2.elim
        rename_i z
        have e2 := (r2.rt rfl).str
        subst e2
        have h2 : Post X.K X.mg (WS_ W σ) (relE X.K pk) g2 H2 (match st2[n]? with
          | some (.dic kvs) => (match kvs.lookup z with | some v => .ok ⟨false, v⟩ st2 | none => .no)
          | _ => .no) Q := h2
        cases hn : st2[n]? with
        | none =>
          rw [hn] at h2
          exact h2.elim
        | some c =>
          rw [hn] at h2
          cases c with
          | lst xs => exact h2.elim
          | dic kvs =>
            obtain ⟨kv, ek, rk⟩ := o2.cell n p _ hp1 hn
            have h2 : Post X.K X.mg (WS_ W σ) (relE X.K pk) g2 H2 (match kvs.lookup z with | some v => .ok ⟨false, v⟩ st2 | none => .no) Q := h2
            cases hl : kvs.lookup z with
            | none =>
              rw [hl] at h2
              exact h2.elim
            | some y =>
              rw [hl] at h2
              obtain ⟨w, e1, rw1⟩ := rk.get hl
              refine ⟨p, w, rfl, ?_, h2 g2 w H2 .refl o2 ?_⟩
              · have q := DGet.k (k := .inr z) ek
                rw [e1] at q
                exact q
              · cases y with
                | loc n => exact rw1
                | dat d =>
                  cases pk with
                  | true => exact .inl rw1
                  | false => exact rw1
theorem sim_slice {a : Ex} {lo hi : Opt} (ha : SimE a) (hl : SimO lo) (hh : SimO hi) : SimE (.slice a lo hi) := by
  intro X W N sc lv g H σ env st e pk Q at_ hm hr h
  cases e <;> try exact no_false hm
  rename_i a' s pos
  cases s <;> try exact no_false hm
  rename_i l u z p2
  cases z <;> try exact no_false hm
  obtain ⟨hm, h3⟩ := cond_true hm
  obtain ⟨h1, h2⟩ := cond_true hm
  refine WE.of (pe_slice sl_data pe_we po_wp po_wp) (ha a' true _ at_ h1 hr.left.left (h.bind based_e fun x st1 g1 v H1 s1 o1 r1 h1 => ?_))
  obtain ⟨d, ed, h1⟩ := h1.dat
  refine hl l _ (at_.on s1 o1) h2 hr.left.right (Post.bind based_e h1 fun l st2 g2 v2 H2 s2 o2 r2 h2 => ?_)
  have r2 : v2 = l := r2
  subst r2
  refine hh u _ ((at_.on s1 o1).on s2 o2) h3 hr.right (Post.bind based_e h2 fun u st3 g3 v3 H3 s3 o3 r3 h3 => ?_)
  have r3 : v3 = u := r3
  subst r3
  obtain ⟨fr, r, er, h3⟩ := h3.bd
  exact slice_rd (((r1.rt ed).step s2 o1).step s3 o2) er rfl o3 h3
theorem Fin.later {K : PySem.W.Frag} {pk : Bool} {g g1 : G} {H H1 : Hp} {st : Store} {x : RV} {Q : VK} (h : Fin K pk g H st x Q) (s : Step g H g1 H1) : Fin K pk g1 H1 st x Q := fun g' v H' s' o q => h g' v H' (s.trans s') o (based_e _ _ _ _ _ _ s.gone q)
theorem sim_rev {a : Ex} (ha : SimE a) : SimE (.rev a) := by
  intro X W N sc lv g H σ env st e pk Q at_ hm hr h
  cases e <;> try exact no_false hm
  rename_i a' s pos
  cases s <;> try exact no_false hm
  rename_i l u z p2
  cases l <;> cases u <;> cases z <;> try exact no_false hm
  rename_i z
  cases z <;> try exact no_false hm
  rename_i o z p3
  cases o <;> cases z <;> try exact no_false hm
  rename_i k j p4
  cases k <;> try exact no_false hm
  rename_i i
  obtain ⟨h1, h2⟩ := cond_true hm
  have h1 : i = 1 := of_decide_eq_true h1
  subst h1
  have h : Post X.K X.mg (WS_ W σ) (relE X.K pk) g H ((evE a true env st).bind fun x st => (datOf x st).bind fun x st => ofBD (revD x) st) Q := h
  cases ea : evE a true env st with
  | no =>
    rw [ea] at h
    exact h.elim
  | exc c ds st1 =>
    rw [ea] at h
    refine WE.of (pe_revL pe_we) (ha a' true _ at_ h2 hr ?_)
    rw [ea]
    exact h
  | ok x st1 =>
    rw [ea] at h
    obtain ⟨d, ed, h⟩ := Post.dat (x := x) (st := st1) h
    obtain ⟨fr, r, er, h⟩ := h.bd
    cases d <;> simp only [revD] at er <;> try cases er
    · refine WE.of (pe_revL pe_we) (ha a' true _ at_ h2 hr ?_)
      rw [ea]
      intro g1 v H1 s1 o1 r1
      obtain ⟨b, vs, rfl, sq, rd⟩ := (r1.rt ed).list
      have h := h.later s1
      exact ⟨b, vs, rfl, sq, fun p n => h.lst o1 rd.reverse n⟩
    · refine WE.of (pe_revT pe_we) (ha a' true _ at_ h2 hr ?_)
      rw [ea]
      intro g1 v H1 s1 o1 r1
      obtain ⟨b, vs, rfl, sq, rd, _⟩ := (r1.rt ed).tuple
      have h := h.later s1
      exact ⟨b, vs, rfl, sq, fun p n => h.tup o1 rd.reverse n⟩
theorem sim_call {x : Str} {sem : Fn} {es : Exs} (hs : SimV es) : SimE (.call x sem es) := by
  intro X W N sc lv g H σ env st e pk Q at_ hm hr h
  cases e <;> try exact no_false hm
  rename_i f args kws pos
  cases f <;> cases kws <;> try exact no_false hm
  rename_i y p
  obtain ⟨hm, h5⟩ := cond_true hm
  obtain ⟨hm, h4⟩ := cond_true hm
  obtain ⟨hm, h3⟩ := cond_true hm
  obtain ⟨h1, h2⟩ := cond_true hm
  have h1 : x = y := of_decide_eq_true h1
  subst h1
  have h : Post X.K X.mg (WS_ W σ) (relE X.K pk) g H ((evV es env st).bind fun vs st => sem vs st) Q := h
  have to : ∀ {g1 : G} {H1 : Hp} {r : R RV}, Post X.K X.mg (WS_ W σ) (relE X.K pk) g1 H1 r Q → Post X.K X.mg (WS_ W σ) (relE X.K false) g1 H1 r Q := by
    intro g1 H1 r q
    cases r with
    | no => exact q
    | exc c ds st => exact q
    | ok x st =>
      intro g' v H' s o w
      refine q g' v H' s o ?_
      cases pk with
      | false => exact w
      | true =>
        obtain ⟨fr, y⟩ := x
        cases y with
        | loc n => cases fr <;> exact w
        | dat d =>
          cases fr with
          | true => exact w
          | false => exact .inl w
  cases args with
  | nil =>
    cases es <;> try exact no_false h5
    exact we_call0 at_.c hr.head h2 h3 ⟨g, st, at_.ok, to h⟩
  | cons e1 r =>
    refine we_call at_.c hr.head h2 h3 h4 (hs _ _ at_ h5 hr.tail (Post.bind based_e h fun vals st1 g1 vs H1 s1 o1 r1 h1 => ⟨g1, vals, st1, r1, o1, to h1⟩))
theorem sim_blt {f : Blt} {es : Exs} (hs : SimP es) : SimE (.blt f es) := by
  intro X W N sc lv g H σ env st e pk Q at_ hm hr h
  cases e <;> try exact no_false hm
  rename_i z args kws pos
  cases z <;> cases kws <;> try exact no_false hm
  rename_i y p
  obtain ⟨hm, h5⟩ := cond_true hm
  obtain ⟨hm, h4⟩ := cond_true hm
  obtain ⟨hm, h3⟩ := cond_true hm
  obtain ⟨h1, h2⟩ := cond_true hm
  have h1 : f.name = y := of_decide_eq_true h1
  subst h1
  cases args with
  | nil => exact no_false h3
  | cons e1 r =>
    refine we_blt at_.c hr.head h2 h4 (hs _ _ at_ h5 hr.tail (Post.bind based_e h fun ds st1 g1 vs H1 s1 o1 r1 h1 => ?_))
    obtain ⟨fr, r, er, h1⟩ := h1.bd
    exact blt_ok at_.c.guards (room_u at_.c.room) at_.c.calm r1 rfl o1 er h1
theorem sim_isi {a : Ex} {ts : List String} (ha : SimE a) : SimE (.isi a ts) := by
  intro X W N sc lv g H σ env st e pk Q at_ hm hr h
  cases e <;> try exact no_false hm
  rename_i z args kws pos
  cases z <;> cases kws <;> try exact no_false hm
  rename_i y p
  rcases args with _ | ⟨a', _ | ⟨t', _ | ⟨_, _⟩⟩⟩ <;> try exact no_false hm
  obtain ⟨hm, h5⟩ := cond_true hm
  obtain ⟨hm, h4⟩ := cond_true hm
  obtain ⟨hm, h3⟩ := cond_true hm
  obtain ⟨h1, h2⟩ := cond_true hm
  have h1 : y = "isinstance" := of_decide_eq_true h1
  subst h1
  rcases ts with _ | ⟨t, _ | ⟨_, _⟩⟩ <;> try exact no_false h5
  cases t' <;> try exact no_false h5
  rename_i z q
  obtain ⟨h5, h9⟩ := cond_true h5
  obtain ⟨h5, h8⟩ := cond_true h5
  obtain ⟨h5, h7⟩ := cond_true h5
  obtain ⟨h5, h6⟩ := cond_true h5
  have h5 : z = Str.ofString t := of_decide_eq_true h5
  subst h5
  have hd := okName_debug h7
  have hmt : X.mg (Str.ofString t) = none := hr.tail.left.head
  have rest : PA X [Expr.Name (Str.ofString t) q] (tCons (tC (.ty t)) tNil) := pa_cons (pe_bltn (at_.c.gl h6) hmt (of_decide_eq_true h9) (v := .ty t) rfl hd.2.2 hd.1) pa_nil
  refine WE.of (pe_callB (r := wcr X (.builtin "isinstance")) cr_wc (at_.c.gl h2) hr.head (by decide +kernel) (pa_cons (pe_we (e := a')) rest (starEach_cons h4)) (by decide) (by decide) (starEach_cons h4) (by rfl)) ?_
  refine ha a' true _ at_ h3 (fun r hr' => hr r ?_) (Post.bind based_e h fun x st1 g1 v H1 s1 o1 r1 h1 => ?_)
  · exact List.mem_append_right _ hr'
  · obtain ⟨d, ed, h1⟩ := h1.dat
    have h1 : Fin X.K pk g1 H1 st1 (plain (.bool ([t].any (isA d)))) Q := h1
    refine wc_isi (r1.rt ed) rfl h8 ?_
    have q := h1.plain o1 (.bool _)
    simpa using q
end MP

/-! Arguments, parts, tests. -/
namespace MP
open PySem PyProof.Rows L2 PySem.Spec
section
variable {K : PySem.W.Frag} {mg : Str → Option Value} {W : Value → Option Addr → Hp → Prop} {g g1 : G} {H H1 H2 : Hp} {st st1 : Store}
variable {α β γ δ : Type} {Rl : Hp → G → Hp → β → α → Prop} {Rm : Hp → G → Hp → δ → γ → Prop}
theorem Post.bindF {r : R α} {f : α → Store → R γ} {Q : δ → Hp → Prop} {Q1 : β → Hp → Prop} (b : Based Rm) (h : Post K mg W Rm g H (r.bind f) Q)
    (k : ∀ x st g1 v H1, Step g H g1 H1 → Ok K g1 H1 st → Rl H g1 H1 v x → (∀ g' H', Step g H g' H' → Post K mg W Rm g' H' (f x st) Q) → Q1 v H1) : Post K mg W Rl g H r Q1 := by
  cases r with
  | ok x st => exact fun g' v H' s o q => k x st g' v H' s o q fun g2 H2 s2 => h.later b s2
  | exc c ds st => exact h
  | no => exact h
end
theorem simV_nil : SimV .nil := by
  intro X W N sc lv g H σ env st es Q at_ hm hr h
  cases es <;> try exact no_false hm
  exact WA.of pa_nil (h g [] H .refl at_.ok .nil)
theorem simA_nil : SimA .nil := by
  intro X W N sc lv g H σ env st es Q at_ hm hr h
  cases es <;> try exact no_false hm
  exact WA.of pa_nil (h g [] H .refl at_.ok .nil)
theorem simP_nil : SimP .nil := by
  intro X W N sc lv g H σ env st es Q at_ hm hr h
  cases es <;> try exact no_false hm
  exact WA.of pa_nil (h g [] H .refl at_.ok .nil)
theorem simV_cons {e : Ex} {es : Exs} (he : SimE e) (hs : SimV es) : SimV (.cons e es) := by
  intro X W N sc lv g H σ env st l Q at_ hm hr h
  cases l <;> try exact no_false hm
  rename_i e' r'
  obtain ⟨hm, h3⟩ := cond_true hm
  obtain ⟨h1, h2⟩ := cond_true hm
  refine WA.of (pa_cons pe_we pa_wa (starEach_cons h1)) (he e' false _ at_ h2 hr.left (Post.bindF based_v h fun x st1 g1 v H1 s1 o1 r1 h1 => ?_))
  obtain ⟨g2, s2, o2, r2⟩ := r1.frozenV s1 o1
  refine hs r' _ (at_.on s2 o2) h3 hr.right (Post.bind based_v (h1 g2 H1 s2) fun vs st3 g3 us H3 s3 o3 r3 h3 => ?_)
  exact h3 g3 (v :: us) H3 .refl o3 (.cons (r2.step s3 o2) r3)
theorem simA_cons {e : Ex} {es : Exs} (he : SimE e) (hs : SimA es) : SimA (.cons e es) := by
  intro X W N sc lv g H σ env st l Q at_ hm hr h
  cases l <;> try exact no_false hm
  rename_i e' r'
  obtain ⟨hm, h3⟩ := cond_true hm
  obtain ⟨h1, h2⟩ := cond_true hm
  refine WA.of (pa_cons pe_we pa_wa (starEach_cons h1)) (he e' false _ at_ h2 hr.left (Post.bindF based_d h fun x st1 g1 v H1 s1 o1 r1 h1 => ?_))
  obtain ⟨d, ed, _⟩ := Post.dat (h1 g1 H1 s1)
  obtain ⟨g2, s2, o2, r2, _⟩ := r1.frozen s1 o1 ed
  obtain ⟨d', ed', h1⟩ := Post.dat (h1 g2 H1 s2)
  cases ed.symm.trans ed'
  refine hs r' _ (at_.on s2 o2) h3 hr.right (Post.bind based_d h1 fun vs st3 g3 us H3 s3 o3 r3 h3 => ?_)
  exact h3 g3 (v :: us) H3 .refl o3 (.cons (RD.holds (s3.holds o2) r2) r3)
theorem RDs.step {K : PySem.W.Frag} {g g1 : G} {H H1 : Hp} {st : Store} {vs : List V} {ds : List D} (s : Step g H g1 H1) (o : Ok K g H st) (h : RDs K g.Z H vs ds) : RDs K g1.Z H1 vs ds := RDs.holds (s.holds o) h
theorem simA_star {e : Ex} {es : Exs} (he : SimE e) (hs : SimA es) : SimA (.star e es) := by
  intro X W N sc lv g H σ env st l Q at_ hm hr h
  cases l <;> try exact no_false hm
  rename_i e' r'
  cases e' <;> try exact no_false hm
  rename_i e' p
  obtain ⟨h1, h2⟩ := cond_true hm
  refine wa_star (he e' true _ at_ h1 hr.left (Post.bind based_d h fun x st1 g1 v H1 s1 o1 r1 h1 => ?_))
  obtain ⟨d, ed, h1⟩ := h1.dat
  obtain ⟨ds, es, h1⟩ := h1.opt
  refine ⟨g1, d, ds, r1.rt ed, es, fun vs rv => ?_⟩
  refine hs r' _ (at_.on s1 o1) h2 hr.right (Post.bind based_d h1 fun vs2 st3 g3 us H3 s3 o3 r3 h3 => ?_)
  exact h3 g3 (vs ++ us) H3 .refl o3 ((RDs.step s3 o1 rv).append r3)
theorem simV_star {e : Ex} {es : Exs} : SimV (.star e es) := by
  intro X W N sc lv g H σ env st l Q at_ hm hr h
  exact h.elim
theorem simP_star {e : Ex} {es : Exs} : SimP (.star e es) := by
  intro X W N sc lv g H σ env st l Q at_ hm hr h
  exact h.elim
theorem simP_cons {e : Ex} {es : Exs} (he : SimE e) (hs : SimP es) : SimP (.cons e es) := by
  intro X W N sc lv g H σ env st l Q at_ hm hr h
  cases l <;> try exact no_false hm
  rename_i e' r'
  obtain ⟨hm, h3⟩ := cond_true hm
  obtain ⟨h1, h2⟩ := cond_true hm
  refine WA.of (pa_cons pe_we pa_wa (starEach_cons h1)) (he e' true _ at_ h2 hr.left (Post.bind based_t h fun x st1 g1 v H1 s1 o1 r1 h1 => ?_))
  obtain ⟨d, ed, h1⟩ := h1.dat
  refine hs r' _ (at_.on s1 o1) h3 hr.right (Post.bind based_t h1 fun vs st3 g3 us H3 s3 o3 r3 h3 => ?_)
  exact h3 g3 (v :: us) H3 .refl o3 (.cons ((r1.rt ed).step s3 o1) r3)
theorem simO_non : SimO .non := by
  intro X W N sc lv g H σ env st e Q at_ hm hr h
  cases e <;> try exact no_false hm
  exact WP.of po_none (h g _ H .refl at_.ok rfl)
theorem simO_som {e : Ex} (he : SimE e) : SimO (.som e) := by
  intro X W N sc lv g H σ env st l Q at_ hm hr h
  cases l <;> try exact no_false hm
  rename_i e'
  refine WP.of (po_some pe_we) (he e' true _ at_ hm hr (Post.bind based_eq h fun x st1 g1 v H1 s1 o1 r1 h1 => ?_))
  obtain ⟨i, ei, h1⟩ := h1.int
  have e2 := (r1.rt ei).int
  subst e2
  exact ⟨i, rfl, h1 g1 _ H1 .refl o1 rfl⟩

/-! ### tests -/
/-- a test by its value -/
theorem simT_val {m : Ex} (he : SimE m) {X : Cx} {W : WX} {N : List Str} {sc : Scope} {lv : Nat} {g : G} {H : Hp} {σ : L2.St} {env : Env} {st : Store} {e : Expr} {Q : Bool → Hp → Prop} (at_ : At X W N sc lv g H σ env st) (hm : mE N m sc e = true) (hr : Rqs X lv (rqE m))
    (h : Post X.K X.mg (WS_ W σ) relEq g H ((evE m true env st).bind fun x st => boolOf x st) Q)
    (hw : ∀ whole : Sem Value, PySem.isTrue e X.env whole = (do let v ← whole; standAt e.pos; holding [v] (truthy v))) : WT X e σ H Q := by
  refine WT.of (pt_val pe_we hw) (he e true _ at_ hm hr (Post.bind based_eq h fun x st1 g1 v H1 s1 o1 r1 h1 => ?_))
  have h1 : Post X.K X.mg (WS_ W σ) relEq g1 H1 ((boolOf x st1).bind fun b st => .ok b st) Q := by
    obtain ⟨fr, y⟩ := x
    cases y with
    | loc n => exact h1
    | dat d => cases d <;> exact h1
  obtain ⟨i, ei, h1⟩ := h1.bool
  have e2 := (r1.rt ei).bool
  subst e2
  exact ⟨i, rfl, h1 g1 _ H1 .refl o1 rfl⟩
theorem notBool {e : Expr} {P : Prop} (h : ∀ o vs p, e ≠ .BoolOp o vs p) : (∃ o vs p, e = .BoolOp o vs p) → P := fun ⟨o, vs, p, q⟩ => (h o vs p q).elim
/-- for the forms that have no tests of their own -/
theorem simT_of {m : Ex} (he : SimE m) (hf : ∀ {N : List Str} {sc : Scope} {e : Expr} (env : PySem.Env), mE N m sc e = true → (∀ o vs p, e ≠ .BoolOp o vs p) ∧ ∀ whole : Sem Value, PySem.isTrue e env whole = (do let v ← whole; standAt e.pos; holding [v] (truthy v))) : SimT m := by
  intro X W N sc lv g H σ env st e Q at_ hm hr h
  exact ⟨simT_val he at_ hm hr h (hf X.env hm).2, notBool (hf X.env hm).1⟩
theorem simT_cmp {o : Cp} {a b : Ex} (ha : SimE a) (hb : SimE b) : SimT (.cmp o a b) := by
  intro X W N sc lv g H σ env st e Q at_ hm hr h
  cases e <;> try exact no_false hm
  rename_i a' os bs pos
  refine ⟨?_, notBool fun _ _ _ q => by cases q⟩
  rcases os with _ | ⟨o', _ | ⟨_, _⟩⟩ <;> try exact no_false hm
  rcases bs with _ | ⟨b', _ | ⟨_, _⟩⟩ <;> try exact no_false hm
  obtain ⟨hm, h4⟩ := cond_true hm
  obtain ⟨hm, h3⟩ := cond_true hm
  obtain ⟨h1, h2⟩ := cond_true hm
  have h1 : cpS o = o' := of_decide_eq_true h1
  subst h1
  have hb4 : behindInMarks (cpS o) b' = false := by
    cases b' <;> first | rfl | exact no_false h4
  have h : Post X.K X.mg (WS_ W σ) relEq g H ((evE a true env st).bind fun x st => (datOf x st).bind fun x st => (evE b true env st).bind fun y st => (datOf y st).bind fun y st => (ofB (cmpD o x y) st).bind fun x st => boolOf x st) Q := by
    have e : ((evE (.cmp o a b) true env st).bind fun x st => boolOf x st) = ((evE a true env st).bind fun x st => (datOf x st).bind fun x st => (evE b true env st).bind fun y st => (datOf y st).bind fun y st => (ofB (cmpD o x y) st).bind fun x st => boolOf x st) := by
      simp only [evE]
      cases evE a true env st <;> try rfl
      rename_i x s1
      show ((datOf x s1).bind _).bind _ = (datOf x s1).bind _
      cases datOf x s1 <;> try rfl
      rename_i x s1
      show ((evE b true env s1).bind _).bind _ = (evE b true env s1).bind _
      cases evE b true env s1 <;> try rfl
      rename_i x s1
      show ((datOf x s1).bind _).bind _ = (datOf x s1).bind _
      cases datOf x s1 <;> rfl
    rw [← e]
    exact h
  refine WT.of (pt_cmpR op_wo pe_we pe_we hb4) (ha a' true _ at_ h2 hr.left (h.bind based_eq fun x st1 g1 v H1 s1 o1 r1 h1 => ?_))
  obtain ⟨d, ed, h1⟩ := h1.dat
  refine hb b' true _ (at_.on s1 o1) h3 hr.right (h1.bind based_eq fun y st2 g2 v2 H2 s2 o2 r2 h2 => ?_)
  obtain ⟨d2, ed2, h2⟩ := h2.dat
  cases eb : cmpD o d d2 with
  | none =>
    rw [eb] at h2
    exact h2.elim
  | some b =>
    rw [eb] at h2
    refine cmp_ok ((r1.rt ed).step s2 o1) (r2.rt ed2) rfl ?_ o2 eb ⟨b, rfl, h2 g2 b H2 .refl o2 rfl⟩
    have := room_u at_.c.room
    omega
theorem simT_not {a : Ex} (ha : SimT a) : SimT (.not a) := by
  intro X W N sc lv g H σ env st e Q at_ hm hr h
  cases e <;> try exact no_false hm
  rename_i o b pos
  obtain ⟨h1, h2⟩ := cond_true hm
  have h1 : o = .Not := of_decide_eq_true h1
  subst h1
  have e : ((evE (.not a) true env st).bind fun x st => boolOf x st) = (((evE a true env st).bind fun x st => boolOf x st).bind fun k st => .ok (!k) st) := by
    simp only [evE]
    cases evE a true env st <;> try rfl
    rename_i x s1
    show ((boolOf x s1).bind _).bind _ = (boolOf x s1).bind _
    cases boolOf x s1 <;> rfl
  rw [e] at h
  refine ⟨WT.of (pt_not pt_wt) ((ha b _ at_ h2 hr (Post.bind based_eq h fun k st1 g1 v H1 s1 o1 r1 h1 => ?_)).1), notBool fun _ _ _ q => by cases q⟩
  have r1 : v = k := r1
  subst r1
  exact h1 g1 _ H1 .refl o1 rfl
theorem and_test {a b : Ex} {env : Env} {st : Store} : ((evE (.and a b) true env st).bind fun x st => boolOf x st) =
    (((evE a true env st).bind fun x st => boolOf x st).bind fun k st => bif k then ((evE b true env st).bind fun x st => boolOf x st) else .ok false st) := by
  simp only [evE]
  cases evE a true env st <;> try rfl
  rename_i x s1
  show ((boolOf x s1).bind _).bind _ = (boolOf x s1).bind _
  cases boolOf x s1 <;> try rfl
  rename_i k s1
  cases k with
  | false => rfl
  | true =>
    show ((evE b true env s1).bind _).bind _ = (evE b true env s1).bind _
    cases evE b true env s1 <;> try rfl
    rename_i x s1
    show ((boolOf x s1).bind _).bind _ = boolOf x s1
    cases boolOf x s1 <;> rfl
theorem or_test {a b : Ex} {env : Env} {st : Store} : ((evE (.or a b) true env st).bind fun x st => boolOf x st) =
    (((evE a true env st).bind fun x st => boolOf x st).bind fun k st => bif k then .ok true st else ((evE b true env st).bind fun x st => boolOf x st)) := by
  simp only [evE]
  cases evE a true env st <;> try rfl
  rename_i x s1
  show ((boolOf x s1).bind _).bind _ = (boolOf x s1).bind _
  cases boolOf x s1 <;> try rfl
  rename_i k s1
  cases k with
  | true => rfl
  | false =>
    show ((evE b true env s1).bind _).bind _ = (evE b true env s1).bind _
    cases evE b true env s1 <;> try rfl
    rename_i x s1
    show ((boolOf x s1).bind _).bind _ = boolOf x s1
    cases boolOf x s1 <;> rfl
theorem simT_and {a b : Ex} (ha : SimT a) (hb : SimT b) : SimT (.and a b) := by
  intro X W N sc lv g H σ env st e Q at_ hm hr h
  cases e <;> try exact no_false hm
  rename_i o vs pos
  obtain ⟨h1, hm⟩ := cond_true hm
  have h1 : o = .And := of_decide_eq_true h1
  subst h1
  rw [and_test] at h
  have main : ∀ (a' b' : Expr) (r : List Expr), mE N a sc a' = true → (∀ {g1 : G} {H1 : Hp} {st1 : Store} (Q : Bool → Hp → Prop), At X W N sc lv g1 H1 σ env st1 → Post X.K X.mg (WS_ W σ) relEq g1 H1 ((evE b true env st1).bind fun x st => boolOf x st) Q → WW X (.BoolOp .And (b' :: r) pos) σ H1 Q) →
      WW X (.BoolOp .And (a' :: b' :: r) pos) σ H Q := by
    intro a' b' r hma hbb
    refine WW.of (pw_and pt_wt pw_ww) ((ha a' _ at_ hma hr.left (Post.bind based_eq h fun k st1 g1 v H1 s1 o1 r1 h1 => ?_)).1)
    have r1 : v = k := r1
    subst r1
    cases v with
    | false => exact h1 g1 _ H1 .refl o1 rfl
    | true =>
      rw [if_pos rfl]
      exact hbb Q (at_.on s1 o1) h1
  have fin : WW X (.BoolOp .And vs pos) σ H Q := by
    rcases vs with _ | ⟨a', _ | ⟨b', _ | ⟨c', r⟩⟩⟩ <;> try exact no_false hm
    · obtain ⟨h2, h3⟩ := cond_true hm
      exact main a' b' [] h2 fun Q at1 h => WW.of (pw_and1 pt_wt) ((hb b' _ at1 h3 hr.right h).1)
    · obtain ⟨h2, h3⟩ := cond_true hm
      exact main a' b' (c' :: r) h2 fun Q at1 h => (hb _ _ at1 h3 hr.right h).2 ⟨_, _, _, rfl⟩
  exact ⟨WT.of pw_ww.pt fin, fun _ => fin⟩
theorem simT_or {a b : Ex} (ha : SimT a) (hb : SimT b) : SimT (.or a b) := by
  intro X W N sc lv g H σ env st e Q at_ hm hr h
  cases e <;> try exact no_false hm
  rename_i o vs pos
  obtain ⟨h1, hm⟩ := cond_true hm
  have h1 : o = .Or := of_decide_eq_true h1
  subst h1
  rw [or_test] at h
  have main : ∀ (a' b' : Expr) (r : List Expr), mE N a sc a' = true → (∀ {g1 : G} {H1 : Hp} {st1 : Store} (Q : Bool → Hp → Prop), At X W N sc lv g1 H1 σ env st1 → Post X.K X.mg (WS_ W σ) relEq g1 H1 ((evE b true env st1).bind fun x st => boolOf x st) Q → WW X (.BoolOp .Or (b' :: r) pos) σ H1 Q) →
      WW X (.BoolOp .Or (a' :: b' :: r) pos) σ H Q := by
    intro a' b' r hma hbb
    refine WW.of (pw_or pt_wt pw_ww) ((ha a' _ at_ hma hr.left (Post.bind based_eq h fun k st1 g1 v H1 s1 o1 r1 h1 => ?_)).1)
    have r1 : v = k := r1
    subst r1
    cases v with
    | true => exact h1 g1 _ H1 .refl o1 rfl
    | false =>
      simp only [if_neg Bool.false_ne_true]
      exact hbb Q (at_.on s1 o1) h1
  have fin : WW X (.BoolOp .Or vs pos) σ H Q := by
    rcases vs with _ | ⟨a', _ | ⟨b', _ | ⟨c', r⟩⟩⟩ <;> try exact no_false hm
    · obtain ⟨h2, h3⟩ := cond_true hm
      exact main a' b' [] h2 fun Q at1 h => WW.of (pw_or1 pt_wt) ((hb b' _ at1 h3 hr.right h).1)
    · obtain ⟨h2, h3⟩ := cond_true hm
      exact main a' b' (c' :: r) h2 fun Q at1 h => (hb _ _ at1 h3 hr.right h).2 ⟨_, _, _, rfl⟩
  exact ⟨WT.of pw_ww.pt fin, fun _ => fin⟩
/-- x if c else y as a test -/
theorem pt_iteX {X : Cx} {c a b : Expr} {tc ta tb : TT} {pos : Pos} (hc : PT X c tc) (ha : PT X a ta) (hb : PT X b tb) : PT X (.IfExp c a b pos) (fun σ H Q => tc σ H fun k H1 => if k = true then ta σ H1 Q else tb σ H1 Q) := by
  refine ⟨fun pn s σ H Q I h => ?_⟩
  show wpAny _ _ (isTrue c X.env (eval c X.env) >>= fun k => if k = true then isTrue a X.env (eval a X.env) else isTrue b X.env (eval b X.env)) _ _ s
  refine wpAny_bind (thn (hc.run pn s σ H _ I h) fun k s1 ⟨H1, I1, q⟩ => ?_)
  cases k with
  | true => exact ha.run pn s1 σ H1 Q I1 q
  | false => exact hb.run pn s1 σ H1 Q I1 q
theorem simT_ite {c a b : Ex} (hc : SimT c) (ha : SimT a) (hb : SimT b) : SimT (.ite c a b) := by
  intro X W N sc lv g H σ env st e Q at_ hm hr h
  cases e <;> try exact no_false hm
  rename_i c' a' b' pos
  obtain ⟨hm, h3⟩ := cond_true hm
  obtain ⟨h1, h2⟩ := cond_true hm
  have h : Post X.K X.mg (WS_ W σ) relEq g H (((evE c true env st).bind fun x st => boolOf x st).bind fun k st => bif k then ((evE a true env st).bind fun x st => boolOf x st) else ((evE b true env st).bind fun x st => boolOf x st)) Q := by
    have e : ((evE (.ite c a b) true env st).bind fun x st => boolOf x st) = (((evE c true env st).bind fun x st => boolOf x st).bind fun k st => bif k then ((evE a true env st).bind fun x st => boolOf x st) else ((evE b true env st).bind fun x st => boolOf x st)) := by
      simp only [evE]
      cases evE c true env st <;> try rfl
      rename_i x s1
      show ((boolOf x s1).bind _).bind _ = (boolOf x s1).bind _
      cases boolOf x s1 <;> try rfl
      rename_i k s1
      cases k <;> rfl
    rw [← e]
    exact h
  refine ⟨WT.of (pt_iteX pt_wt pt_wt pt_wt) ((hc c' _ at_ h1 hr.left.left (Post.bind based_eq h fun k st1 g1 v H1 s1 o1 r1 h1 => ?_)).1), notBool fun _ _ _ q => by cases q⟩
  have r1 : v = k := r1
  subst r1
  cases v with
  | true =>
    rw [if_pos rfl]
    exact (ha a' _ (at_.on s1 o1) h2 hr.left.right h1).1
  | false =>
    simp only [if_neg Bool.false_ne_true]
    exact (hb b' _ (at_.on s1 o1) h3 hr.right h1).1
theorem chain_test {o1 o2 : Cp} {a b c : Ex} {env : Env} {st : Store} : ((evE (.chain o1 o2 a b c) true env st).bind fun x st => boolOf x st) =
    ((evE a true env st).bind fun x st => (datOf x st).bind fun x st => (evE b true env st).bind fun y st => (datOf y st).bind fun y st => (rOpt (cmpD o1 x y) st).bind fun k st => bif k then (evE c true env st).bind fun z st => (datOf z st).bind fun z st => rOpt (cmpD o2 y z) st else .ok false st) := by
  simp only [evE]
  cases evE a true env st <;> try rfl
  rename_i x s1
  show ((datOf x s1).bind _).bind _ = (datOf x s1).bind _
  cases datOf x s1 <;> try rfl
  rename_i x s1
  show ((evE b true env s1).bind _).bind _ = (evE b true env s1).bind _
  cases evE b true env s1 <;> try rfl
  rename_i y s1
  show ((datOf y s1).bind _).bind _ = (datOf y s1).bind _
  cases datOf y s1 <;> try rfl
  rename_i y s1
  show ((rOpt (cmpD o1 x y) s1).bind _).bind _ = (rOpt (cmpD o1 x y) s1).bind _
  cases rOpt (cmpD o1 x y) s1 <;> try rfl
  rename_i k s1
  cases k with
  | false => rfl
  | true =>
    show ((evE c true env s1).bind _).bind _ = (evE c true env s1).bind _
    cases evE c true env s1 <;> try rfl
    rename_i z s1
    show ((datOf z s1).bind _).bind _ = (datOf z s1).bind _
    cases datOf z s1 <;> try rfl
    rename_i z s1
    show (ofB (cmpD o2 y z) s1).bind _ = rOpt (cmpD o2 y z) s1
    cases cmpD o2 y z <;> rfl
theorem simT_chain {o1 o2 : Cp} {a b k : Ex} (ha : SimE a) (hb : SimE b) (hk : SimE k) : SimT (.chain o1 o2 a b k) := by
  intro X W N sc lv g H σ env st e Q at_ hm hr h
  cases e <;> try exact no_false hm
  rename_i a' os bs pos
  refine ⟨?_, notBool fun _ _ _ q => by cases q⟩
  rcases os with _ | ⟨p1, _ | ⟨p2, _ | ⟨_, _⟩⟩⟩ <;> try exact no_false hm
  rcases bs with _ | ⟨b', _ | ⟨c', _ | ⟨_, _⟩⟩⟩ <;> try exact no_false hm
  obtain ⟨hm, h6⟩ := cond_true hm
  obtain ⟨hm, h5⟩ := cond_true hm
  obtain ⟨hm, h4⟩ := cond_true hm
  obtain ⟨hm, h3⟩ := cond_true hm
  obtain ⟨h1, h2⟩ := cond_true hm
  have h1 : cpS o1 = p1 := of_decide_eq_true h1
  have h2 : cpS o2 = p2 := of_decide_eq_true h2
  subst h1 h2
  have hb4 : lastMarks [cpS o1, cpS o2] [b', c'] = false := by
    show behindInMarks (cpS o2) c' = false
    cases c' <;> first | rfl | exact no_false h6
  have hu := room_u at_.c.room
  rw [chain_test] at h
  refine WT.of (pt_chain op_wo op_wo pe_we pe_we pe_we hb4) (ha a' true _ at_ h3 hr.left.left (h.bind based_eq fun x st1 g1 v H1 s1 o1 r1 h1 => ?_))
  obtain ⟨d, ed, h1⟩ := h1.dat
  refine hb b' true _ (at_.on s1 o1) h4 hr.left.right (h1.bind based_eq fun y st2 g2 v2 H2 s2 o2 r2 h2 => ?_)
  obtain ⟨d2, ed2, h2⟩ := h2.dat
  obtain ⟨b, eb, h2⟩ := h2.opt
  refine cmp_ok ((r1.rt ed).step s2 o1) (r2.rt ed2) rfl (by omega) o2 eb ⟨b, rfl, ?_⟩
  cases b with
  | false => exact ⟨false, rfl, h2 g2 _ H2 .refl o2 rfl⟩
  | true =>
    rw [if_pos rfl]
    refine hk c' true _ ((at_.on s1 o1).on s2 o2) h5 hr.right (Post.bind based_eq h2 fun z st3 g3 v3 H3 s3 o3 r3 h3 => ?_)
    obtain ⟨d3, ed3, h3⟩ := h3.dat
    obtain ⟨b, eb, h3⟩ := h3.opt'
    exact cmp_ok ((r2.rt ed2).step s3 o2) (r3.rt ed3) rfl (by omega) o3 eb ⟨b, rfl, h3 g3 _ H3 .refl o3 rfl⟩
end MP

/-! Targets, what is walked, comprehensions. -/
namespace MP
open PySem PyProof.Rows L2 PySem.Spec

theorem no_some {α : Type} {p : Prop} {x : α} (h : none = some x) : p := by cases h
/-! ### states that change -/
section
variable {K : PySem.W.Frag} {g g1 g2 : G} {H H1 H2 : Hp} {st st1 : Store} {a : Addr} {v : V} {d : D}
theorem Step.upd_new {u : HO} (s : Step g H g1 H1) (h : H a = none) : Step g H g1 (upd H1 a u) :=
  ⟨s.z, s.zn, s.r, fun b o e n => by rw [upd_ne (ne_of_none e h)]; exact s.keep b o e n, fun b e => by
    by_cases hb : b = a
    · exact hb ▸ h
    · rw [upd_ne hb] at e
      exact s.gone b e⟩
/-- an object of ours is changed -/
theorem holds_own {u : HO} {vs : List V} (ha : H a = some (.lst vs)) (nz : ¬ g.Z a) : Holds g.Z g.Z H (upd H a u) := by
  have ne : ∀ b w, Rd H b w → (b = a → w = .lst vs) := fun b w r e => by
    subst e
    rcases r with r | ⟨o, r⟩ <;> rw [ha] at r <;> cases r
    rfl
  have go : ∀ b w, b ≠ a → Rd H b w → Rd (upd H a u) b w := fun b w n r => by
    rcases r with r | ⟨o, r⟩
    · exact .inl (by rw [upd_ne n]; exact r)
    · exact .inr ⟨o, by rw [upd_ne n]; exact r⟩
  exact ⟨fun b xs r => go b _ (fun e => by cases ne b _ r e) r, fun _ h => h, fun b w z r => go b w (fun e => nz (e ▸ z)) r⟩
theorem RVal.holds {x : Val} (h : Holds g.Z g.Z H H1) (r : RVal K g H v x) : RVal K g H1 v x := by
  cases x with
  | dat d => exact RD.holds h r
  | loc n => exact r
theorem RKV.holds (h : Holds g.Z g.Z H H1) : ∀ {vs : List (Key × V)} {xs : List (Str × Val)}, RKV K g H vs xs → RKV K g H1 vs xs
  | _, _, .nil => .nil
  | _, _, .cons r t => .cons (r.holds h) (RKV.holds h t)
theorem Ok.own {u : HO} {vs : List V} (o : Ok K g H st) (ha : H a = Option.some (HO.lst vs)) (nz : ¬ g.Z a) (nr : a ∉ g.rho) : Ok K g (upd H a u) st := by
  have hh := holds_own (u := u) ha nz
  refine ⟨o.zr, fun b z e => ?_, o.len, o.nd, fun n b c e1 e2 => ?_⟩
  · by_cases hb : b = a
    · exact nz (hb ▸ z)
    · rw [upd_ne hb] at e
      exact o.zs b z e
  · have q := o.cell n b c e1 e2
    have nb : b ≠ a := fun e => nr (e ▸ List.mem_of_getElem? e1)
    cases c with
    | lst xs =>
      obtain ⟨vs, e, r⟩ := q
      exact ⟨vs, by rw [upd_ne nb]; exact e, RDs.holds hh r⟩
    | dic kvs =>
      obtain ⟨kv, e, r⟩ := q
      exact ⟨kv, by rw [upd_ne nb]; exact e, r.holds hh⟩
theorem Ok.zne (o : Ok K g H st) (h : H a = none) : ¬ g.Z a := fun z => o.zs a z h

/-! ### slots -/
theorem EnvOk.setVal {σ : L2.St} {env : Env} {x : Val} (i : Nat) (en : EnvOk K g H σ env) (r : RVal K g H v x) : EnvOk K g H (σ.set i (some v)) (List.set env i (.val x)) := by
  refine ⟨by rw [List.length_set, List.length_set]; exact en.len, fun j s y e1 e2 => ?_, fun j k d d' a e1 e2 e3 e4 => ?_⟩
  · by_cases hj : i = j
    · subst hj
      have hi : i < env.length := by
        have q := (List.getElem?_eq_some_iff.mp e1).1
        rwa [List.length_set] at q
      rw [List.getElem?_set_self hi] at e1
      rw [List.getElem?_set_self (by rw [← en.len]; exact hi)] at e2
      cases e1
      cases e2
      exact ⟨v, rfl, r⟩
    · rw [List.getElem?_set_ne hj] at e1 e2
      exact en.at_ j s y e1 e2
  · have other : ∀ {l : Nat} {d : D}, (List.set env i (.val x))[l]? = some (.own d) → env[l]? = some (.own d) ∧ i ≠ l := fun {l d} e => by
      by_cases hl : i = l
      · subst hl
        rw [List.getElem?_set] at e
        split at e
        · split at e <;> cases e
        · rename_i h
          exact absurd rfl h
      · rw [List.getElem?_set_ne hl] at e
        exact ⟨e, hl⟩
    obtain ⟨f1, n1⟩ := other e1
    obtain ⟨f2, n2⟩ := other e2
    rw [List.getElem?_set_ne n1] at e3
    rw [List.getElem?_set_ne n2] at e4
    exact en.apart j k d d' a f1 f2 e3 e4
theorem EnvOk.setUn {σ : L2.St} {env : Env} {x : Option V} (i : Nat) (en : EnvOk K g H σ env) : EnvOk K g H (σ.set i x) (List.set env i .un) := by
  refine ⟨by rw [List.length_set, List.length_set]; exact en.len, fun j s y e1 e2 => ?_, fun j k d d' a e1 e2 e3 e4 => ?_⟩
  · by_cases hj : i = j
    · subst hj
      rw [List.getElem?_set] at e1
      split at e1
      · split at e1 <;> cases e1
        trivial
      · rename_i h
        exact absurd rfl h
    · rw [List.getElem?_set_ne hj] at e1 e2
      exact en.at_ j s y e1 e2
  · have other : ∀ {l : Nat} {d : D}, (List.set env i .un)[l]? = some (.own d) → env[l]? = some (.own d) ∧ i ≠ l := fun {l d} e => by
      by_cases hl : i = l
      · subst hl
        rw [List.getElem?_set] at e
        split at e
        · split at e <;> cases e
        · rename_i h
          exact absurd rfl h
      · rw [List.getElem?_set_ne hl] at e
        exact ⟨e, hl⟩
    obtain ⟨f1, n1⟩ := other e1
    obtain ⟨f2, n2⟩ := other e2
    rw [List.getElem?_set_ne n1] at e3
    rw [List.getElem?_set_ne n2] at e4
    exact en.apart j k d d' a f1 f2 e3 e4
theorem EnvOk.wipe {σ : L2.St} {env : Env} (en : EnvOk K g H σ env) : ∀ vs : List Nat, EnvOk K g H (L2.wipe σ vs) (wipeE env vs)
  | [] => en
  | v :: vs => (EnvOk.wipe en vs).setUn v
theorem set_none_comm {σ : L2.St} {i j : Nat} : (σ.set i none).set j none = (σ.set j none).set i none := by
  by_cases h : i = j
  · rw [h]
  · exact List.set_comm _ _ h
theorem wipe_set_none {σ : L2.St} {i : Nat} : ∀ vs : List Nat, (L2.wipe σ vs).set i none = L2.wipe (σ.set i none) vs
  | [] => rfl
  | v :: vs => by
    show ((L2.wipe σ vs).set v none).set i none = (L2.wipe (σ.set i none) vs).set v none
    rw [set_none_comm, wipe_set_none vs]
theorem wipe_set {σ : L2.St} {i : Nat} {x : Option V} : ∀ {vs : List Nat}, i ∈ vs → L2.wipe (σ.set i x) vs = L2.wipe σ vs
  | v :: vs, h => by
    show (L2.wipe (σ.set i x) vs).set v none = (L2.wipe σ vs).set v none
    by_cases hv : i = v
    · subst hv
      rw [wipe_set_none, wipe_set_none, List.set_set]
    · rw [wipe_set (vs := vs) (by
        rcases List.mem_cons.mp h with z | z
        · exact (hv z).elim
        · exact z)]
end

/-! ### targets -/
def WG (X : Cx) (e : Expr) : TG := fun v σ H Q => ∀ (pins : List (Addr × Obj)) (s : Shared) (u : Value), Inv X pins σ H s → RelV v u → wpAny (model X.prog X.w) X.A (assign e X.env u) (fun _ s' => ∃ σ' H', Inv X pins σ' H' s' ∧ Q σ' H') X.xe s
def WGs (X : Cx) (es : List Expr) : L2.TGs := fun vs σ H Q => ∀ (pins : List (Addr × Obj)) (s : Shared) (us : List Value), Inv X pins σ H s → Vals vs us → wpAny (model X.prog X.w) X.A (assignInOrder ((assignEach es X.env).map (·.2)) us) (fun _ s' => ∃ σ' H', Inv X pins σ' H' s' ∧ Q σ' H') X.xe s
theorem pg_wg {X : Cx} {e : Expr} : PG X e (WG X e) := ⟨fun pins s σ H v u Q I r h => h pins s u I r⟩
theorem pgs_wgs {X : Cx} {es : List Expr} : PGs X es (WGs X es) := ⟨fun pins s σ H v u Q I r h => h pins s u I r⟩
theorem WG.of {X : Cx} {e : Expr} {t : TG} {v : V} {σ : L2.St} {H : Hp} {Q : L2.St → Hp → Prop} (h : PG X e t) (q : t v σ H Q) : WG X e v σ H Q := fun pins s u I r => h.run pins s σ H v u Q I r q
theorem WGs.of {X : Cx} {es : List Expr} {t : L2.TGs} {v : List V} {σ : L2.St} {H : Hp} {Q : L2.St → Hp → Prop} (h : PGs X es t) (q : t v σ H Q) : WGs X es v σ H Q := fun pins s u I r => h.run pins s σ H v u Q I r q
theorem mTgs_each {N : List Str} {sc : Scope} {env : PySem.Env} : ∀ {ts : Tgs} {es : List Expr}, mTgs N ts sc es = true → assignEach es env = es.map fun e => (false, assign e env)
  | .nil, es, h => by
    cases es <;> first | rfl | exact no_false h
  | .cons t ts, es, h => by
    cases es with
    | nil => rfl
    | cons e r =>
      obtain ⟨h1, h2⟩ := cond_true (show (mTg N t sc e && mTgs N ts sc r) = true from h)
      have ih := mTgs_each (env := env) h2
      have hd : assignEach (e :: r) env = (false, assign e env) :: assignEach r env := by
        cases t <;> cases e <;> first | rfl | exact no_false h1
      rw [hd, ih]
      rfl
theorem each_find {env : PySem.Env} : ∀ es : List Expr, List.findIdx? (fun x => x.1) (es.map fun e => (false, assign e env)) = none
  | [] => rfl
  | e :: es => by
    rw [List.map_cons, List.findIdx?_cons, each_find es]
    rfl
section
variable {X : Cx} {W : WX} {N : List Str} {sc : Scope} {lv : Nat} {g : G} {H : Hp} {st : Store}
/-- what a target's store leaves: the slots, up to those that it stores -/
def Stored (K : PySem.W.Frag) (g : G) (H : Hp) (env' : Env) (P : L2.St → Prop) (Q : L2.St → Hp → Prop) : Prop := ∀ σ', EnvOk K g H σ' env' → P σ' → Q σ' H
mutual
theorem tg_ok (c : CtxOk X W N sc lv) (vs0 : List Nat) : ∀ (t : Tg) {e : Expr} {v : V} {d : D} {σ : L2.St} {env env' : Env} {Q : L2.St → Hp → Prop}, mTg N t sc e = true → EnvOk X.K g H σ env → RD X.K g.Z H v d → bindTg t d env = some env' →
    Stored X.K g H env' (fun σ' => tgIn t vs0 = true → L2.wipe σ' vs0 = L2.wipe σ vs0) Q → WG X e v σ H Q
  | .nm i, e, v, d, σ, env, env', Q, hm, en, r, hb, q => by
    cases e <;> try exact no_false hm
    rename_i x pos
    obtain ⟨hm, h3⟩ := cond_true (show (decide (N[i]? = some x) && isLoc sc x && okName x) = true from hm)
    obtain ⟨h1, h2⟩ := cond_true hm
    have h1 : N[i]? = some x := of_decide_eq_true h1
    have hl := c.loc h2
    refine WG.of (pg_name (i := i) (by rw [c.eN]; exact c.nd) (by rw [c.eN]; exact h1) hl.1 hl.2) ?_
    have hb : some (List.set env i (.val (.dat d))) = some env' := hb
    cases hb
    refine q _ (en.setVal (x := .dat d) i r) fun hi => wipe_set ?_
    exact List.contains_iff_mem.mp (show vs0.contains i = true from hi)
  | .tup ts, e, v, d, σ, env, env', Q, hm, en, r, hb, q => by
    cases e <;> try exact no_false hm
    rename_i es k pos
    have hm : mTgs N ts sc es = true := hm
    have he := mTgs_each (env := X.env) hm
    have hlen : (assignEach es X.env).length = es.length := by rw [he, List.length_map]
    have hfi : List.findIdx? (fun x => x.1) (assignEach es X.env) = none := by rw [he]; exact each_find es
    have hn : ∀ {ds : List D}, bindTgs ts ds env = some env' → ds.length = es.length := fun {ds} h => tgs_len ts hm h
    cases d <;> try exact no_some hb
    · cases r with
      | list s w =>
        refine WG.of (pg_lst c.calm pgs_wgs hlen hfi) ⟨_, _, rfl, s.seq, by rw [w.length]; exact hn hb, ?_⟩
        exact tgs_ok c vs0 ts hm en w hb q
    · cases r with
      | tuple s w =>
        refine WG.of (pg_tup c.calm pgs_wgs hlen hfi) ⟨_, _, rfl, s, by rw [w.length]; exact hn hb, ?_⟩
        exact tgs_ok c vs0 ts hm en w hb q
theorem tgs_ok (c : CtxOk X W N sc lv) (vs0 : List Nat) : ∀ (t : Tgs) {es : List Expr} {v : List V} {d : List D} {σ : L2.St} {env env' : Env} {Q : L2.St → Hp → Prop}, mTgs N t sc es = true → EnvOk X.K g H σ env → RDs X.K g.Z H v d → bindTgs t d env = some env' →
    Stored X.K g H env' (fun σ' => tgsIn t vs0 = true → L2.wipe σ' vs0 = L2.wipe σ vs0) Q → WGs X es v σ H Q
  | .nil, es, v, d, σ, env, env', Q, hm, en, r, hb, q => by
    cases es <;> try exact no_false hm
    cases d <;> try exact no_some hb
    cases r
    have hb : some env = some env' := hb
    cases hb
    exact WGs.of pgs_nil ⟨rfl, q σ en fun _ => rfl⟩
  | .cons t ts, es, v, d, σ, env, env', Q, hm, en, r, hb, q => by
    cases es <;> try exact no_false hm
    rename_i e es
    obtain ⟨h1, h2⟩ := cond_true (show (mTg N t sc e && mTgs N ts sc es) = true from hm)
    cases d <;> try exact no_some hb
    rename_i d ds
    cases r with
    | cons r1 r2 =>
      have hb : (match bindTg t d env with | some env' => bindTgs ts ds env' | none => none) = some env' := hb
      cases hb1 : bindTg t d env with
      | none =>
        rw [hb1] at hb
        exact no_some hb
      | some env1 =>
        rw [hb1] at hb
        have hd : assignEach (e :: es) X.env = (false, assign e X.env) :: assignEach es X.env := by
          cases t <;> cases e <;> first | rfl | exact no_false h1
        refine WGs.of (pgs_cons pg_wg pgs_wgs (by rw [hd]; rfl)) ⟨_, _, rfl, tg_ok c vs0 t h1 en r1 hb1 fun σ1 en1 w1 => ?_⟩
        refine tgs_ok c vs0 ts h2 en1 r2 hb fun σ2 en2 w2 => ?_
        refine q σ2 en2 fun hi => ?_
        obtain ⟨i1, i2⟩ := cond_true (show (tgIn t vs0 && tgsIn ts vs0) = true from hi)
        exact (w2 i2).trans (w1 i1)
theorem tgs_len : ∀ (t : Tgs) {es : List Expr} {d : List D} {env env' : Env}, mTgs N t sc es = true → bindTgs t d env = some env' → d.length = es.length
  | .nil, es, d, env, env', hm, hb => by
    cases es <;> try exact no_false hm
    cases d <;> try exact no_some hb
    rfl
  | .cons t ts, es, d, env, env', hm, hb => by
    cases es <;> try exact no_false hm
    rename_i e es
    obtain ⟨h1, h2⟩ := cond_true (show (mTg N t sc e && mTgs N ts sc es) = true from hm)
    cases d <;> try exact no_some hb
    rename_i d ds
    have hb : (match bindTg t d env with | some env' => bindTgs ts ds env' | none => none) = some env' := hb
    cases hb1 : bindTg t d env with
    | none =>
      rw [hb1] at hb
      exact nomatch hb
    | some env1 =>
      rw [hb1] at hb
      exact congrArg Nat.succ (tgs_len ts h2 hb)
end
end
end MP

/-! What is walked; comprehensions. -/
namespace MP
open PySem PyProof.Rows L2 PySem.Spec RZ

/-- an iterator of the layer brings some items, one by one -/
structure Pres (K : PySem.W.Frag) (g : G) (H : Hp) (J : L2.It) (items : List D) : Prop where
  go : ∀ (g' : G) (H' : Hp) (i : Nat), Holds g.Z g'.Z H H' → i < items.length → J.go i H'
  yld : ∀ (g' : G) (H' : Hp) (st' : Store) (i : Nat) (x : V) (H'' : Hp), Holds g.Z g'.Z H H' → Ok K g' H' st' → J.yld i H' x H'' → i < items.length → ∃ d, items[i]? = some d ∧ Step g' H' g' H'' ∧ Ok K g' H'' st' ∧ RD K g'.Z H'' x d
  stop : ∀ (g' : G) (H' : Hp), Holds g.Z g'.Z H H' → J.stop items.length H'
abbrev relI (K : PySem.W.Frag) : Hp → G → Hp → L2.It → List D → Prop := fun _ g H J items => Pres K g H J items
theorem based_i {K : PySem.W.Frag} : Based (relI K) := fun _ _ _ _ _ _ _ r => r
theorem Holds.refl {Z : Addr → Prop} {H : Hp} : Holds Z Z H H := ⟨fun _ _ h => h, fun _ h => h, fun _ _ _ h => h⟩
theorem Holds.trans {Z Z1 Z2 : Addr → Prop} {H H1 H2 : Hp} (a : Holds Z Z1 H H1) (b : Holds Z1 Z2 H1 H2) : Holds Z Z2 H H2 :=
  ⟨fun c xs h => b.tup c xs (a.tup c xs h), fun c h => b.z c (a.z c h), fun c u z h => b.obj c u (a.z c z) (a.obj c u z h)⟩
theorem SqZ.holds {K : PySem.W.Frag} {Z Z' : Addr → Prop} {H H' : Hp} {a : Addr} {vs : List V} (h : Holds Z Z' H H') (s : SqZ K Z H a vs) : SqZ K Z' H' a vs := s.imp (fun ⟨z, q⟩ => ⟨h.z _ z, h.obj _ _ z q⟩) id
theorem pres_list {K : PySem.W.Frag} {g : G} {H : Hp} {a : Addr} {vs : List V} {ds : List D} (s : SqZ K g.Z H a vs) (r : RDs K g.Z H vs ds) : Pres K g H (Itl K a) ds where
  go := fun g' H' i h hi => by
    obtain ⟨v, hv, _⟩ := r.get (List.getElem?_eq_getElem hi)
    exact ⟨vs, v, (s.holds h).seq, hv⟩
  yld := fun g' H' st' i x H'' h ok q hi => by
    obtain ⟨e, f⟩ := q
    subst e
    have hv := f vs (s.holds h).seq
    obtain ⟨d, hd, rd⟩ := r.getV hv
    exact ⟨d, hd, .refl, ok, RD.holds h rd⟩
  stop := fun g' H' h => ⟨vs, (s.holds h).seq, Nat.le_of_eq r.length⟩
theorem holds_seqT {K : PySem.W.Frag} {Z Z' : Addr → Prop} {H H' : Hp} {a : Addr} {vs : List V} (h : Holds Z Z' H H') (s : SqT K H a vs) : SqT K H' a vs := s.elim (fun q => .inl (h.tup _ _ q)) .inr
theorem pres_tuple {K : PySem.W.Frag} {g : G} {H : Hp} {a : Addr} {vs : List V} {ds : List D} (s : SqT K H a vs) (r : RDs K g.Z H vs ds) : Pres K g H (Itt K a) ds where
  go := fun g' H' i h hi => by
    obtain ⟨v, hv, _⟩ := r.get (List.getElem?_eq_getElem hi)
    exact ⟨vs, v, holds_seqT h s, hv⟩
  yld := fun g' H' st' i x H'' h ok q hi => by
    obtain ⟨e, f⟩ := q
    subst e
    have hv := f vs (holds_seqT h s)
    obtain ⟨d, hd, rd⟩ := r.getV hv
    exact ⟨d, hd, .refl, ok, RD.holds h rd⟩
  stop := fun g' H' h => ⟨vs, holds_seqT h s, Nat.le_of_eq r.length⟩
theorem pres_range {K : PySem.W.Frag} {g : G} {H : Hp} {i j : Int} : Pres K g H (Itr i (j - i).toNat) (rangeUp i j) where
  go := fun g' H' k h hk => by
    unfold rangeUp at hk
    simp only [List.length_map, List.length_range] at hk
    exact hk
  yld := fun g' H' st' k x H'' h ok q hk => by
    obtain ⟨e, f⟩ := q
    subst e
    unfold rangeUp at hk ⊢
    simp only [List.length_map, List.length_range] at hk
    refine ⟨.int (i + k), ?_, .refl, ok, ?_⟩
    · rw [List.getElem?_map, List.getElem?_range hk]
      rfl
    · rw [f]
      exact .int _
  stop := fun g' H' h => by
    unfold rangeUp
    simp only [List.length_map, List.length_range]
    exact Nat.le_refl _
def SimI (m : It) : Prop := ∀ {X : Cx} {W : WX} {N : List Str} {sc : Scope} {lv : Nat} {g : G} {H : Hp} {σ : L2.St} {env : Env} {st : Store} (tg e : Expr) (R : L2.It → Hp → Prop), At X W N sc lv g H σ env st → mI N m sc tg e = true → Rqs X lv (rqI m) →
  Post X.K X.mg (WS_ W σ) (relI X.K) g H (evI m env st) R → WI X tg e σ H R
def SimC (m : Opt) : Prop := ∀ {X : Cx} {W : WX} {N : List Str} {sc : Scope} {lv : Nat} {g : G} {H : Hp} {σ : L2.St} {env : Env} {st : Store} (e : Expr) (Q : Bool → Hp → Prop), At X W N sc lv g H σ env st → mC N m sc [e] = true → Rqs X lv (rqO m) →
  Post X.K X.mg (WS_ W σ) relEq g H (evC m env st) Q → WT X e σ H Q
theorem simC_non : SimC .non := by
  intro X W N sc lv g H σ env st e Q at_ hm hr h
  exact no_false hm
theorem simC_som {e : Ex} (he : SimT e) : SimC (.som e) := by
  intro X W N sc lv g H σ env st e' Q at_ hm hr h
  exact (he e' Q at_ hm hr h).1
theorem simI_seq {e : Ex} (he : SimE e) : SimI (.seq e) := by
  intro X W N sc lv g H σ env st tg e' R at_ hm hr h
  have hm : mE N e sc e' = true := hm
  have h : Post X.K X.mg (WS_ W σ) (relI X.K) g H ((evE e false env st).bind fun x st => (datOf x st).bind fun d st => rOpt (seqOf d) st) R := h
  cases ea : evE e false env st with
  | no =>
    rw [ea] at h
    exact h.elim
  | exc c ds st1 =>
    rw [ea] at h
    refine WI.of (pi_list pe_we) (he e' false _ at_ hm hr ?_)
    rw [ea]
    exact h
  | ok x st1 =>
    rw [ea] at h
    obtain ⟨d, ed, h⟩ := Post.dat (x := x) (st := st1) h
    obtain ⟨ds, es, h⟩ := h.opt'
    cases d <;> simp only [seqOf] at es <;> cases es
    · refine WI.of (pi_list pe_we) (he e' false _ at_ hm hr ?_)
      rw [ea]
      intro g1 v H1 s1 o1 r1
      obtain ⟨g2, s2, o2, r2, _⟩ := r1.frozen s1 o1 ed
      cases r2 with
      | list s r => exact ⟨_, rfl, ⟨_, s.seq⟩, h g2 _ H1 s2 o2 (pres_list s r)⟩
    · refine WI.of (pi_tup pe_we) (he e' false _ at_ hm hr ?_)
      rw [ea]
      intro g1 v H1 s1 o1 r1
      obtain ⟨g2, s2, o2, r2, _⟩ := r1.frozen s1 o1 ed
      cases r2 with
      | tuple s r => exact ⟨_, rfl, ⟨_, s⟩, h g2 _ H1 s2 o2 (pres_tuple s r)⟩
theorem simI_rng1 {a : Ex} (ha : SimE a) : SimI (.rng1 a) := by
  intro X W N sc lv g H σ env st tg e R at_ hm hr h
  cases e <;> try exact no_false hm
  rename_i f args kws pos
  cases f <;> cases kws <;> try exact no_false hm
  rename_i y p
  rcases args with _ | ⟨a', _ | ⟨_, _⟩⟩ <;> try exact no_false hm
  obtain ⟨hm, h4⟩ := cond_true hm
  obtain ⟨hm, h3⟩ := cond_true hm
  obtain ⟨h1, h2⟩ := cond_true hm
  have h1 : y = "range" := of_decide_eq_true h1
  subst h1
  refine WI.of (pi_range1 (at_.c.gl h2) hr.head (pa_cons pe_we pa_nil (starEach_cons h3)) (starEach_cons h3)) (ha a' true _ at_ h4 hr.tail (Post.bind based_i h fun x st1 g1 v H1 s1 o1 r1 h1 => ?_))
  obtain ⟨i, ei, h1⟩ := h1.int
  have e2 := (r1.rt ei).int
  subst e2
  obtain ⟨hb, h1⟩ := h1.cond
  simp only [rngOk, Bool.and_eq_true, decide_eq_true_eq] at hb
  refine ⟨i, rfl, hb.1, hb.2, ?_⟩
  have q := h1 g1 (Itr 0 (i - 0).toNat) H1 .refl o1 pres_range
  rw [Int.sub_zero] at q
  exact q
theorem simI_rng2 {a b : Ex} (ha : SimE a) (hb : SimE b) : SimI (.rng2 a b) := by
  intro X W N sc lv g H σ env st tg e R at_ hm hr h
  cases e <;> try exact no_false hm
  rename_i f args kws pos
  cases f <;> cases kws <;> try exact no_false hm
  rename_i y p
  rcases args with _ | ⟨a', _ | ⟨b', _ | ⟨_, _⟩⟩⟩ <;> try exact no_false hm
  obtain ⟨hm, h6⟩ := cond_true hm
  obtain ⟨hm, h5⟩ := cond_true hm
  obtain ⟨hm, h4⟩ := cond_true hm
  obtain ⟨hm, h3⟩ := cond_true hm
  obtain ⟨h1, h2⟩ := cond_true hm
  have h1 : y = "range" := of_decide_eq_true h1
  subst h1
  refine WI.of (pi_range2 (at_.c.gl h2) hr.head (pa_cons pe_we (pa_cons pe_we pa_nil (starEach_cons h4)) (starEach_cons h3)) (by rw [starEach_cons h3, starEach_cons h4]; rfl) (starEach_cons h4))
    (ha a' true _ at_ h5 hr.tail.left (Post.bind based_i h fun x st1 g1 v H1 s1 o1 r1 h1 => ?_))
  obtain ⟨i, ei, h1⟩ := h1.int
  have e2 := (r1.rt ei).int
  subst e2
  refine hb b' true _ (at_.on s1 o1) h6 hr.tail.right (Post.bind based_i h1 fun y st2 g2 v2 H2 s2 o2 r2 h2 => ?_)
  obtain ⟨j, ej, h2⟩ := h2.int
  have e3 := (r2.rt ej).int
  subst e3
  obtain ⟨hb, h2⟩ := h2.cond
  simp only [rngOk, Bool.and_eq_true, decide_eq_true_eq] at hb
  exact ⟨i, j, rfl, ⟨hb.1.1, hb.1.2, hb.2.1, hb.2.2⟩, h2 g2 _ H2 .refl o2 pres_range⟩
theorem pres_down {K : PySem.W.Frag} {g : G} {H : Hp} {i j : Int} : Pres K g H (Itc i (-1) (i - j).toNat) (rangeDn i j) where
  go := fun g' H' k h hk => by
    unfold rangeDn at hk
    simp only [List.length_map, List.length_range] at hk
    exact hk
  yld := fun g' H' st' k x H'' h ok q hk => by
    obtain ⟨e, f⟩ := q
    subst e
    unfold rangeDn at hk ⊢
    simp only [List.length_map, List.length_range] at hk
    refine ⟨.int (i + k * (-1)), ?_, .refl, ok, ?_⟩
    · rw [List.getElem?_map, List.getElem?_range hk]
      rfl
    · rw [f]
      exact .int _
  stop := fun g' H' h => by
    unfold rangeDn
    simp only [List.length_map, List.length_range]
    exact Nat.le_refl _
theorem enumL_len : ∀ (n : Nat) (xs : List D), (enumL n xs).length = xs.length
  | _, [] => rfl
  | n, x :: xs => congrArg Nat.succ (enumL_len (n + 1) xs)
theorem enumL_get : ∀ (n : Nat) (xs : List D) (i : Nat) (d : D), xs[i]? = some d → (enumL n xs)[i]? = some (.tuple [.int ((n + i : Nat) : Int), d])
  | _, [], _, _, h => by simp at h
  | n, x :: xs, 0, d, h => by
    simp at h
    subst h
    rfl
  | n, x :: xs, i + 1, d, h => by
    have := enumL_get (n + 1) xs i d (by simpa using h)
    rw [show n + (i + 1) = n + 1 + i by omega]
    exact this
theorem zipL_len : ∀ (xs ys : List D), (zipL xs ys).length = min xs.length ys.length
  | [], ys => by simp [zipL]
  | x :: xs, [] => by simp [zipL]
  | x :: xs, y :: ys => by
    show (zipL xs ys).length + 1 = _
    rw [zipL_len xs ys]
    simp only [List.length_cons]
    omega
theorem zipL_get : ∀ (xs ys : List D) (i : Nat) (d e : D), xs[i]? = some d → ys[i]? = some e → (zipL xs ys)[i]? = some (.tuple [d, e])
  | [], _, _, _, _, h, _ => by simp at h
  | _ :: _, [], _, _, _, _, h => by simp at h
  | x :: xs, y :: ys, 0, d, e, h, k => by
    simp at h k
    subst h k
    rfl
  | x :: xs, y :: ys, i + 1, d, e, h, k => zipL_get xs ys i d e (by simpa using h) (by simpa using k)
theorem pres_enum {K : PySem.W.Frag} {g : G} {H : Hp} {a : Addr} {vs : List V} {ds : List D} (s : SqZ K g.Z H a vs) (r : RDs K g.Z H vs ds) : Pres K g H (Ite K a) (enumL 0 ds) where
  go := fun g' H' i h hi => by
    rw [enumL_len] at hi
    obtain ⟨v, hv, _⟩ := r.get (List.getElem?_eq_getElem hi)
    exact ⟨vs, v, (s.holds h).seq, hv⟩
  yld := fun g' H' st' i x H'' h ok q hi => by
    obtain ⟨T, v, rfl, hT, rfl, f⟩ := q
    have hv := f vs (s.holds h).seq
    obtain ⟨d, hd, rd⟩ := r.getV hv
    refine ⟨_, enumL_get 0 ds i d hd, .new hT, ok.new hT, ?_⟩
    rw [Nat.zero_add]
    exact RD.new_tup ok hT (.cons (.int _) (.cons (RD.holds h rd) .nil))
  stop := fun g' H' h => ⟨vs, (s.holds h).seq, Nat.le_of_eq (by rw [enumL_len]; exact r.length)⟩
theorem pres_zip {K : PySem.W.Frag} {g : G} {H : Hp} {a b : Addr} {vs us : List V} {ds es : List D} (s : SqZ K g.Z H a vs) (r : RDs K g.Z H vs ds) (s2 : SqZ K g.Z H b us) (r2 : RDs K g.Z H us es) : Pres K g H (Itz K a b) (zipL ds es) where
  go := fun g' H' i h hi => by
    rw [zipL_len] at hi
    obtain ⟨v, hv, _⟩ := r.get (List.getElem?_eq_getElem (show i < ds.length by omega))
    obtain ⟨u, hu, _⟩ := r2.get (List.getElem?_eq_getElem (show i < es.length by omega))
    exact ⟨vs, us, v, u, (s.holds h).seq, (s2.holds h).seq, hv, hu⟩
  yld := fun g' H' st' i x H'' h ok q hi => by
    obtain ⟨T, v, u, rfl, hT, rfl, f, f2⟩ := q
    obtain ⟨d, hd, rd⟩ := r.getV (f vs (s.holds h).seq)
    obtain ⟨e, he, re⟩ := r2.getV (f2 us (s2.holds h).seq)
    exact ⟨_, zipL_get ds es i d e hd he, .new hT, ok.new hT, RD.new_tup ok hT (.cons (RD.holds h rd) (.cons (RD.holds h re) .nil))⟩
  stop := fun g' H' h => ⟨vs, us, (s.holds h).seq, (s2.holds h).seq, by
    rw [zipL_len, r.length, r2.length]
    omega⟩
theorem pres_zipT {K : PySem.W.Frag} {g : G} {H : Hp} {a b : Addr} {vs us : List V} {ds es : List D} (s : SqT K H a vs) (r : RDs K g.Z H vs ds) (s2 : SqT K H b us) (r2 : RDs K g.Z H us es) : Pres K g H (ItzT K a b) (zipL ds es) where
  go := fun g' H' i h hi => by
    rw [zipL_len] at hi
    obtain ⟨v, hv, _⟩ := r.get (List.getElem?_eq_getElem (show i < ds.length by omega))
    obtain ⟨u, hu, _⟩ := r2.get (List.getElem?_eq_getElem (show i < es.length by omega))
    exact ⟨vs, us, v, u, holds_seqT h s, holds_seqT h s2, hv, hu⟩
  yld := fun g' H' st' i x H'' h ok q hi => by
    obtain ⟨T, v, u, rfl, hT, rfl, f, f2⟩ := q
    obtain ⟨d, hd, rd⟩ := r.getV (f vs (holds_seqT h s))
    obtain ⟨e, he, re⟩ := r2.getV (f2 us (holds_seqT h s2))
    exact ⟨_, zipL_get ds es i d e hd he, .new hT, ok.new hT, RD.new_tup ok hT (.cons (RD.holds h rd) (.cons (RD.holds h re) .nil))⟩
  stop := fun g' H' h => ⟨vs, us, holds_seqT h s, holds_seqT h s2, by
    rw [zipL_len, r.length, r2.length]
    omega⟩
theorem simI_rng3 {a b c : Ex} (ha : SimE a) (hb : SimE b) (hc : SimE c) : SimI (.rng3 a b c) := by
  intro X W N sc lv g H σ env st tg e R at_ hm hr h
  cases e <;> try exact no_false hm
  rename_i f args kws pos
  cases f <;> cases kws <;> try exact no_false hm
  rename_i y p
  rcases args with _ | ⟨a', _ | ⟨b', _ | ⟨c', _ | ⟨_, _⟩⟩⟩⟩ <;> try exact no_false hm
  obtain ⟨hm, h8⟩ := cond_true hm
  obtain ⟨hm, h7⟩ := cond_true hm
  obtain ⟨hm, h6⟩ := cond_true hm
  obtain ⟨hm, h5⟩ := cond_true hm
  obtain ⟨hm, h4⟩ := cond_true hm
  obtain ⟨hm, h3⟩ := cond_true hm
  obtain ⟨h1, h2⟩ := cond_true hm
  have h1 : y = "range" := of_decide_eq_true h1
  subst h1
  refine WI.of (pi_range3 (at_.c.gl h2) hr.head (pa_cons pe_we (pa_cons pe_we (pa_cons pe_we pa_nil (starEach_cons h5)) (starEach_cons h4)) (starEach_cons h3)) (starEach_cons h3) (by rw [starEach_cons h4, starEach_cons h5]; rfl))
    (ha a' true _ at_ h6 hr.tail.left.left (Post.bind based_i h fun x st1 g1 v H1 s1 o1 r1 h1 => ?_))
  obtain ⟨i, ei, h1⟩ := h1.int
  have e2 := (r1.rt ei).int
  subst e2
  refine hb b' true _ (at_.on s1 o1) h7 hr.tail.left.right (Post.bind based_i h1 fun y st2 g2 v2 H2 s2 o2 r2 h2 => ?_)
  obtain ⟨j, ej, h2⟩ := h2.int
  have e3 := (r2.rt ej).int
  subst e3
  refine hc c' true _ ((at_.on s1 o1).on s2 o2) h8 hr.tail.right (Post.bind based_i h2 fun z st3 g3 v3 H3 s3 o3 r3 h3 => ?_)
  obtain ⟨k, ek, h3⟩ := h3.int
  have e4 := (r3.rt ek).int
  subst e4
  obtain ⟨hb, h9⟩ := h3.cond
  clear h3
  simp only [rngOk, Bool.and_eq_true, decide_eq_true_eq] at hb
  obtain ⟨⟨⟨b1, b2⟩, b3, b4⟩, b5⟩ := hb
  subst b5
  exact ⟨i, j, -1, _, rfl, RgC.neg b1 b2 b3 b4, h9 g3 _ H3 .refl o3 pres_down⟩
theorem simI_enum {a : Ex} (ha : SimE a) : SimI (.enum a) := by
  intro X W N sc lv g H σ env st tg e R at_ hm hr h
  have ht := (cond_true hm).1
  have hm2 := (cond_true hm).2
  clear hm
  have hm := hm2
  clear hm2
  cases tg <;> try exact no_false ht
  cases e <;> try exact no_false hm
  rename_i f args kws pos
  cases f <;> cases kws <;> try exact no_false hm
  rename_i y p
  rcases args with _ | ⟨a', _ | ⟨_, _⟩⟩ <;> try exact no_false hm
  obtain ⟨hm, h4⟩ := cond_true hm
  obtain ⟨hm, h3⟩ := cond_true hm
  obtain ⟨h1, h2⟩ := cond_true hm
  have h1 : y = "enumerate" := of_decide_eq_true h1
  subst h1
  refine WI.of (pi_enum (at_.c.gl h2) hr.head (pa_cons pe_we pa_nil (starEach_cons h3)) (starEach_cons h3)) (ha a' false _ at_ h4 hr.tail (Post.bindF based_i h fun x st1 g1 v H1 s1 o1 r1 h1 => ?_))
  obtain ⟨d, ed, _⟩ := Post.dat (h1 g1 H1 s1)
  obtain ⟨g2, s2, o2, r2, _⟩ := r1.frozen s1 o1 ed
  obtain ⟨d', ed', k1⟩ := Post.dat (h1 g2 H1 s2)
  cases ed.symm.trans ed'
  obtain ⟨ds, es, k1⟩ := k1.opt
  cases d <;> simp only [listOf] at es <;> cases es
  cases r2 with
  | list s r => exact ⟨_, _, rfl, s.seq, k1 g2 _ H1 .refl o2 (pres_enum s r)⟩
theorem simI_zip {a b : Ex} (ha : SimE a) (hb : SimE b) : SimI (.zip a b) := by
  intro X W N sc lv g H σ env st tg e R at_ hm hr h
  have ht := (cond_true hm).1
  have hm2 := (cond_true hm).2
  clear hm
  have hm := hm2
  clear hm2
  cases tg <;> try exact no_false ht
  cases e <;> try exact no_false hm
  rename_i f args kws pos
  cases f <;> cases kws <;> try exact no_false hm
  rename_i y p
  rcases args with _ | ⟨a', _ | ⟨b', _ | ⟨_, _⟩⟩⟩ <;> try exact no_false hm
  obtain ⟨hm, h6⟩ := cond_true hm
  obtain ⟨hm, h5⟩ := cond_true hm
  obtain ⟨hm, h4⟩ := cond_true hm
  obtain ⟨hm, h3⟩ := cond_true hm
  obtain ⟨h1, h2⟩ := cond_true hm
  have h1 : y = "zip" := of_decide_eq_true h1
  subst h1
  refine WI.of (pi_zipA (at_.c.gl h2) hr.head (pa_cons pe_we (pa_cons pe_we pa_nil (starEach_cons h4)) (starEach_cons h3)) (starEach_cons h3) (by rw [starEach_cons h4]; rfl))
    (ha a' false _ at_ h5 hr.tail.left (Post.bindF based_i h fun x st1 g1 v H1 s1 o1 r1 h1 => ?_))
  obtain ⟨d, ed, _⟩ := Post.dat (h1 g1 H1 s1)
  obtain ⟨g2, s2, o2, r2, _⟩ := r1.frozen s1 o1 ed
  obtain ⟨d', ed', k1⟩ := Post.dat (h1 g2 H1 s2)
  cases ed.symm.trans ed'
  refine hb b' false _ (at_.on s2 o2) h6 hr.tail.right (Post.bindF based_i k1 fun z st3 g3 u H3 s3 o3 r3 h3 => ?_)
  obtain ⟨e, ee, _⟩ := Post.dat (h3 g3 H3 s3)
  obtain ⟨g4, s4, o4, r4, _⟩ := r3.frozen s3 o3 ee
  obtain ⟨e', ee', k3⟩ := Post.dat (h3 g4 H3 s4)
  cases ee.symm.trans ee'
  have r5 := RD.holds (s4.holds o2) r2
  obtain ⟨ds, es, k3⟩ := k3.opt'
  cases d <;> cases e <;> simp only [zipD] at es <;> cases es
  · cases r5 with
    | list sa ra => cases r4 with
      | list sb rb => exact ⟨_, _, _, _, rfl, .inl ⟨sa.seq, sb.seq, k3 g4 _ H3 .refl o4 (pres_zip sa ra sb rb)⟩⟩
  · cases r5 with
    | tuple sa ra => cases r4 with
      | tuple sb rb => exact ⟨_, _, _, _, rfl, .inr ⟨sa, sb, k3 g4 _ H3 .refl o4 (pres_zipT sa ra sb rb)⟩⟩
theorem simI_no {m : It} (h : ∀ N sc tg e, mI N m sc tg e = false) : SimI m := by
  intro X W N sc lv g H σ env st tg e R at_ hm hr _
  rw [h] at hm
  cases hm

/-! ### comprehensions -/
theorem wipe_sub {σ : L2.St} {vs : List Nat} : ∀ {us : List Nat}, (∀ u ∈ us, u ∈ vs) → L2.wipe (L2.wipe σ us) vs = L2.wipe σ vs
  | [], _ => rfl
  | u :: us, h => by
    show L2.wipe ((L2.wipe σ us).set u none) vs = _
    rw [wipe_set (h u List.mem_cons_self), wipe_sub fun u hu => h u (List.mem_cons_of_mem _ hu)]
theorem ctx_blk {X : Cx} {W : WX} {N : List Str} {sc scope : Scope} {lv : Nat} (c : CtxOk X W N sc lv) (hk : scope.kind = .function) (s : Shared) (H : Hp) (C : Addr) (cl : List (Str × Addr)) (fp : List Addr) :
    CtxOk (X.blk s H scope (compEnvC scope cl C X.env) fp) (fun _ _ _ _ => False) N scope lv where
  eN := c.eN
  nd := c.nd
  kind := hk
  calm := c.calm
  guards := c.guards
  room := c.room
  takes := fun u s' x => by
    obtain ⟨_, _, _, _, _, _, _, _, _, _, _, _, _, _, _, _, no⟩ := x
    exact no.elim
  passes := fun _ _ h => h.elim
  look := fun x k h => lookup_relabel (env := X.env) h
  fn := fun x h => by
    show (scope.names.lookup x == some .cell) = true
    rw [h]
    rfl
theorem blk_ok {X : Cx} {W : WX} {N : List Str} {sc scope : Scope} {lv : Nat} {own : List (Str × Nat)} (c : CtxOk X W N sc lv) (h : blkC N sc scope own = true) : BlkOk X.N X.env.scope scope own := by
  have b := blkOk_by h
  refine ⟨b.kind, b.uniq, by rw [c.eN]; exact b.ix, fun y hy e => ?_, by rw [c.eN]; exact b.own⟩
  rcases b.free y hy e with q | q
  · rcases c.look _ _ q with r | ⟨r, _⟩
    · exact .inl r
    · cases r
  · rcases c.look _ _ q with r | ⟨_, r⟩
    · exact .inr r
    · exact .inl r
/-- the tests of a clause, at any block -/
def WCs (X : Cx) (ifs : List Expr) : TT := fun σ H Q => match ifs with
  | [] => Q true H
  | e :: _ => WT X e σ H Q
theorem pts_wcs {X : Cx} {N : List Str} {sc : Scope} {m : Opt} {ifs : List Expr} (h : mC N m sc ifs = true) : PTs X ifs (WCs X ifs) := by
  cases m with
  | non =>
    cases ifs with
    | nil => exact pts_nil
    | cons a r => exact no_false h
  | som e =>
    rcases ifs with _ | ⟨a, _ | ⟨_, _⟩⟩ <;> try exact no_false h
    exact pts_one pt_wt
theorem wcs_ok {m : Opt} (hc : SimC m) {X : Cx} {W : WX} {N : List Str} {sc : Scope} {lv : Nat} {g : G} {H : Hp} {σ : L2.St} {env : Env} {st : Store} {ifs : List Expr} {Q : Bool → Hp → Prop} (at_ : At X W N sc lv g H σ env st) (hm : mC N m sc ifs = true) (hr : Rqs X lv (rqO m))
    (h : Post X.K X.mg (WS_ W σ) relEq g H (evC m env st) Q) : WCs X ifs σ H Q := by
  cases m with
  | non =>
    cases ifs with
    | nil => exact h g true H .refl at_.ok rfl
    | cons a r => exact no_false hm
  | som e =>
    rcases ifs with _ | ⟨a, _ | ⟨_, _⟩⟩ <;> try exact no_false hm
    exact hc a Q at_ hm hr h
/-- what one turn of a comprehension reckons -/
def compF (elt : Ex) (own : List (Str × Nat)) (tg : Tg) (ifs : Opt) (env : Env) : D → Store → R (Option D) := fun d st => match bindTg tg d (wipeE env (own.map (·.2))) with
  | none => .no
  | some env' => (evC ifs env' st).bind fun k st => bif k then (evE elt false env' st).bind fun y st => (datOf y st).bind fun y st => .ok (some y) st else .ok none st
theorem Rqs.blk {X : Cx} {lv : Nat} {l : List Req} (h : Rqs X lv l) (s : Shared) (H : Hp) (scope : Scope) (cenv : PySem.Env) (fp : List Addr) : Rqs (X.blk s H scope cenv fp) lv l := h
abbrev gB (X : Cx) (scope : Scope) (tg' : Expr) : TG := fun v σ H Q => ∀ s H0 C cl fp, WG (X.blk s H0 scope (compEnvC scope cl C X.env) fp) tg' v σ H Q
abbrev tB (X : Cx) (scope : Scope) (ifs' : List Expr) : TT := fun σ H Q => ∀ s H0 C cl fp, WCs (X.blk s H0 scope (compEnvC scope cl C X.env) fp) ifs' σ H Q
abbrev eB (X : Cx) (scope : Scope) (elt' : Expr) : TE := fun σ H Q => ∀ s H0 C cl fp, WE (X.blk s H0 scope (compEnvC scope cl C X.env) fp) elt' σ H Q
theorem pg_gB {X : Cx} {scope : Scope} {tg' : Expr} (s : Shared) (H0 : Hp) (C : Addr) (cl : List (Str × Addr)) (fp : List Addr) : PG (X.blk s H0 scope (compEnvC scope cl C X.env) fp) tg' (gB X scope tg') := ⟨fun pins s1 σ H v u Q I r q => q s H0 C cl fp pins s1 u I r⟩
theorem pt_tB {X : Cx} {N : List Str} {sc scope : Scope} {m : Opt} {ifs' : List Expr} (h : mC N m sc ifs' = true) (s : Shared) (H0 : Hp) (C : Addr) (cl : List (Str × Addr)) (fp : List Addr) : PTs (X.blk s H0 scope (compEnvC scope cl C X.env) fp) ifs' (tB X scope ifs') :=
  ⟨fun pins s1 σ H Q I q => (pts_wcs h).run pins s1 σ H Q I (q s H0 C cl fp)⟩
theorem pe_eB {X : Cx} {scope : Scope} {elt' : Expr} (s : Shared) (H0 : Hp) (C : Addr) (cl : List (Str × Addr)) (fp : List Addr) : PE (X.blk s H0 scope (compEnvC scope cl C X.env) fp) elt' (eB X scope elt') := ⟨fun pins s1 σ H Q I q => q s H0 C cl fp pins s1 I⟩
theorem lc_ok {elt : Ex} {own : List (Str × Nat)} {tg : Tg} {it : It} {ifs : Opt} (he : SimE elt) (hi : SimI it) (hc : SimC ifs) {X : Cx} {W : WX} {N : List Str} {sc scope : Scope} {lv : Nat} {g : G} {H : Hp} {σ : L2.St} {env : Env} {st : Store}
    {elt' tg' it' : Expr} {ifs' : List Expr} (pk : Bool) (Q : VK) (at_ : At X W N sc lv g H σ env st) (h2 : blkC N sc scope own = true) (h3 : mTg N tg scope tg' = true) (h5 : mI N it sc tg' it' = true) (h6 : mC N ifs scope ifs' = true) (h7 : mE N elt scope elt' = true)
    (h8 : tgIn tg (own.map (·.2)) = true) (hr : Rqs X lv (rqI it ++ rqO ifs ++ rqE elt))
    (h : Post X.K X.mg (WS_ W σ) (relE X.K pk) g H ((evI it env st).bind fun items st => (compL (compF elt own tg ifs env) items [] st).bind fun ys st => .ok (fresh (.list ys)) st) Q) :
    tLc (WI X tg' it') (gB X scope tg') (tB X scope ifs') (eB X scope elt') (own.map (·.2)) σ H Q := by
  have hk : scope.kind = .function := (blkOk_by h2).kind
  refine hi tg' it' _ at_ h5 hr.left.left (Post.bind based_e h fun items st1 g1 J H1 s1 o1 pres h1 => ?_)
  intro D hD
  have en1 := at_.en.step s1 at_.ok
  refine ⟨fun i m H' => ∃ g' st' acc vs, Step g1 H1 g' H' ∧ Ok X.K g' H' st' ∧ H' D = some (.lst vs) ∧ RDs X.K g'.Z H' vs acc ∧ ¬ g'.Z D ∧ D ∉ g'.rho ∧ i + m = items.length ∧
    Post X.K X.mg (WS_ W σ) (relE X.K pk) g1 H1 ((compL (compF elt own tg ifs env) (items.drop i) acc st').bind fun ys st => .ok (fresh (.list ys)) st) Q, ?_, ?_⟩
  · exact ⟨items.length, g1, st1, [], [], .new hD, o1.new hD, upd_same, .nil, o1.zne hD, o1.notIn hD, Nat.zero_add _, by rw [List.drop_zero]; exact h1⟩
  · rintro i m H' ⟨g', st', acc, vs, s', o', eD, rD, nz, nr, him, hp⟩
    by_cases hlt : i < items.length
    · refine .inr ⟨pres.go g' H' i (s'.holds o1) hlt, fun H2 => ∃ m', m' < m ∧ ∃ g2 st2 acc2 vs2, Step g1 H1 g2 H2 ∧ Ok X.K g2 H2 st2 ∧ H2 D = some (.lst vs2) ∧ RDs X.K g2.Z H2 vs2 acc2 ∧ ¬ g2.Z D ∧ D ∉ g2.rho ∧ (i + 1) + m' = items.length ∧
        Post X.K X.mg (WS_ W σ) (relE X.K pk) g1 H1 ((compL (compF elt own tg ifs env) (items.drop (i + 1)) acc2 st2).bind fun ys st => .ok (fresh (.list ys)) st) Q, fun H2 q => q, fun x H2 hy => ?_⟩
      obtain ⟨d, hd, sy, oy, rx⟩ := pres.yld g' H' st' i x H2 (s'.holds o1) o' hy hlt
      have hdrop : items.drop i = d :: items.drop (i + 1) := by
        have e := List.drop_eq_getElem_cons hlt
        rw [List.getElem?_eq_getElem hlt] at hd
        rw [e, Option.some.inj hd]
      rw [hdrop] at hp
      have s2 := s'.trans sy
      have eD2 : H2 D = some (.lst vs) := sy.keep _ _ eD nr
      have rD2 := RDs.step sy o' rD
      have en2 := (en1.step s2 o1).wipe (own.map (·.2))
      -- the turn
      have hp : Post X.K X.mg (WS_ W σ) (relE X.K pk) g1 H1 ((match compF elt own tg ifs env d st' with
        | .ok (some y) st1 => bif fitsS acc.length then compL (compF elt own tg ifs env) (items.drop (i + 1)) (acc ++ [y]) st1 else .no
        | .ok none st1 => compL (compF elt own tg ifs env) (items.drop (i + 1)) acc st1
        | _ => .no).bind fun ys st => .ok (fresh (.list ys)) st) Q := hp
      cases hb : bindTg tg d (wipeE env (own.map (·.2))) with
      | none =>
        have ef : compF elt own tg ifs env d st' = .no := by
          unfold compF
          rw [hb]
        rw [ef] at hp
        exact hp.elim
      | some env' =>
        have ef : compF elt own tg ifs env d st' = ((evC ifs env' st').bind fun k st => bif k then (evE elt false env' st).bind fun y st => (datOf y st).bind fun y st => .ok (some y) st else .ok none st) := by
          unfold compF
          rw [hb]
        rw [ef] at hp
        intro s H0 C cl fp
        have cb := ctx_blk at_.c hk s H0 C cl fp
        refine tg_ok cb (own.map (·.2)) tg h3 en2 rx hb fun σ2 en2 w2 => ⟨(w2 h8).trans (wipe_sub fun _ h => h), fun s H0 C cl fp => ?_⟩
        have cb := ctx_blk at_.c hk s H0 C cl fp
        have at2 : At (X.blk s H0 scope (compEnvC scope cl C X.env) fp) (fun _ _ _ _ => False) N scope lv g' H2 σ2 env' st' := ⟨cb, oy, en2⟩
        refine wcs_ok hc at2 h6 (Rqs.blk hr.left.right _ _ _ _ _) ?_
        cases hcv : evC ifs env' st' with
        | no =>
          rw [hcv] at hp
          exact hp.elim
        | exc c ds st3 =>
          rw [hcv] at hp
          exact hp.elim
        | ok k st3 =>
          rw [hcv] at hp
          intro g3 k' H3 s3 o3 r3
          have r3 : k' = k := r3
          subst r3
          have hp : Post X.K X.mg (WS_ W σ) (relE X.K pk) g1 H1 ((match (bif k' then (evE elt false env' st3).bind fun y st => (datOf y st).bind fun y st => .ok (some y) st else .ok none st3 : R (Option MP.D)) with
            | .ok (some y) st1 => bif fitsS acc.length then compL (compF elt own tg ifs env) (items.drop (i + 1)) (acc ++ [y]) st1 else .no
            | .ok none st1 => compL (compF elt own tg ifs env) (items.drop (i + 1)) acc st1
            | _ => .no).bind fun ys st => .ok (fresh (.list ys)) st) Q := hp
          have eD3 : H3 D = some (.lst vs) := s3.keep _ _ eD2 nr
          have rD3 := RDs.step s3 oy rD2
          have nz3 : ¬ g3.Z D := s3.nz nz (by rw [eD2]; exact fun q => by cases q)
          have nr3 : D ∉ g3.rho := s3.nr nr (by rw [eD2]; exact fun q => by cases q)
          cases k' with
          | false =>
            simp only [if_neg Bool.false_ne_true]
            exact ⟨m - 1, by omega, g3, st3, acc, vs, s2.trans s3, o3, eD3, rD3, nz3, nr3, by omega, hp⟩
          | true =>
            rw [if_pos rfl]
            intro s H0 C cl fp
            have cb := ctx_blk at_.c hk s H0 C cl fp
            have at3 : At (X.blk s H0 scope (compEnvC scope cl C X.env) fp) (fun _ _ _ _ => False) N scope lv g3 H3 σ2 env' st3 := ⟨cb, o3, en2.step s3 oy⟩
            refine he elt' false _ at3 h7 (Rqs.blk hr.right _ _ _ _ _) ?_
            cases hev : evE elt false env' st3 with
            | no =>
              rw [hev] at hp
              exact hp.elim
            | exc c ds st4 =>
              rw [hev] at hp
              exact hp.elim
            | ok y st4 =>
              rw [hev] at hp
              intro g4 v H4 s4 o4 r4
              obtain ⟨fr, y⟩ := y
              cases y with
              | loc n => exact hp.elim
              | dat y =>
                have hp : Post X.K X.mg (WS_ W σ) (relE X.K pk) g1 H1 ((bif fitsS acc.length then compL (compF elt own tg ifs env) (items.drop (i + 1)) (acc ++ [y]) st4 else .no).bind fun ys st => .ok (fresh (.list ys)) st) Q := hp
                have eD4 : H4 D = some (.lst vs) := s4.keep _ _ eD3 nr3
                have s24 := (s2.trans s3).trans s4
                obtain ⟨g5, s5, o5, r5, hh, er⟩ := ROut.frozen (g0 := g3) s4 o4 r4 rfl
                have nz5 : ¬ g5.Z D := s5.nz nz3 (by rw [eD3]; exact fun q => by cases q)
                have nr5 : D ∉ g5.rho := s5.nr nr3 (by rw [eD3]; exact fun q => by cases q)
                have s15 : Step g1 H1 g5 H4 := (s2.trans s3).trans s5
                cases hz : fitsS acc.length with
                | false =>
                  rw [hz] at hp
                  exact hp.elim
                | true =>
                  rw [hz] at hp
                  have rD5 : RDs X.K g5.Z H4 vs acc := RDs.holds (s5.holds o3) rD3
                  have ho := holds_own (g := g5) (u := .lst (vs ++ [v])) eD4 nz5
                  refine ⟨vs, eD4, by rw [rD5.length]; exact of_decide_eq_true hz, m - 1, by omega, g5, st4, acc ++ [y], vs ++ [v], s15.upd_new hD, o5.own eD4 nz5 nr5, upd_same, RDs.holds ho (rD5.append (.cons r5 .nil)), nz5, nr5, by omega, hp⟩
    · refine .inl ⟨?_, ?_⟩
      · have e : i = items.length := by omega
        subst e
        exact pres.stop g' H' (s'.holds o1)
      · have e : items.drop i = [] := List.drop_eq_nil_of_le (by omega)
        rw [e] at hp
        have hp : Post X.K X.mg (WS_ W σ) (relE X.K pk) g1 H1 (.ok (fresh (.list acc)) st') Q := hp
        exact hp g' (.ref D) H' s' o' ⟨D, rfl, hD, vs, eD, rD, nz, nr⟩
theorem sim_comp {elt : Ex} {own : List (Str × Nat)} {tg : Tg} {it : It} {ifs : Opt} (he : SimE elt) (hi : SimI it) (hc : SimC ifs) : SimE (.comp elt own tg it ifs) := by
  intro X W N sc lv g H σ env st e pk Q at_ hm hr h
  cases e <;> try exact no_false hm
  rename_i elt' gs scope pos
  rcases gs with _ | ⟨⟨tg', it', ifs', n⟩, _ | ⟨_, _⟩⟩ <;> try exact no_false hm
  obtain ⟨hm, h8⟩ := cond_true hm
  obtain ⟨hm, h7⟩ := cond_true hm
  obtain ⟨hm, h6⟩ := cond_true hm
  obtain ⟨hm, h5⟩ := cond_true hm
  obtain ⟨hm, h4⟩ := cond_true hm
  obtain ⟨hm, h3⟩ := cond_true hm
  obtain ⟨h1, h2⟩ := cond_true hm
  have h1 : n = 0 := of_decide_eq_true h1
  subst h1
  have hfold : ∀ x, foldedSetIterable it' X.env x = pure x := by
    intro x
    cases it' <;> first | rfl | exact no_false h4
  have h : Post X.K X.mg (WS_ W σ) (relE X.K pk) g H ((evI it env st).bind fun items st => (compL (compF elt own tg ifs env) items [] st).bind fun ys st => .ok (fresh (.list ys)) st) Q := h
  exact WE.of (pe_lc at_.c.calm (by rw [at_.c.eN]; exact at_.c.nd) pi_wi (blk_ok at_.c h2) pg_gB (pt_tB h6) pe_eB hfold) (lc_ok he hi hc pk Q at_ h2 h3 h5 h6 h7 h8 hr h)
end MP

/-! Cells: dicts and lists that many share. All expressions. -/
namespace MP
open PySem PyProof.Rows L2 PySem.Spec

def trsOf (X : Cx) : List Str → List Expr → List (TE × TE)
  | k :: ks, e :: es => (tC (.str k), WE X e) :: trsOf X ks es
  | _, _ => []
theorem pps_of {X : Cx} {pos : Pos} : ∀ {ks : List Str} {keys : List (Option Expr)} {es : List Expr}, mKeys ks keys = true → ks.length = es.length → PPs X pos keys es (trsOf X ks es)
  | [], keys, es, h, hl => by
    cases keys <;> try exact no_false h
    cases es <;> first | exact pps_nil | cases hl
  | k :: ks, keys, es, h, hl => by
    cases keys <;> try exact no_false h
    rename_i k' r
    cases es <;> try cases hl
    rename_i e es
    cases k' <;> try exact no_false h
    rename_i k'
    cases k' <;> try exact no_false h
    rename_i c j p
    cases c <;> try exact no_false h
    obtain ⟨h1, h2⟩ := cond_true h
    cases of_decide_eq_true h1
    exact pps_cons pe_str pe_we (pps_of h2 (Nat.succ.inj hl))
def SimK (m : Exs) : Prop := ∀ {X : Cx} {W : WX} {N : List Str} {sc : Scope} {lv : Nat} {g : G} {H : Hp} {σ : L2.St} {env : Env} {st : Store} (ks : List Str) (es : List Expr) (Q : List V → Hp → Prop), At X W N sc lv g H σ env st → mEs N m sc es = true → ks.length = es.length → Rqs X lv (rqEs m) →
  Post X.K X.mg (WS_ W σ) (relV X.K) g H (evV m env st) Q → tPairs (trsOf X ks es) σ H fun ps H' => ps.map (·.1) = ks.map V.str ∧ Q (ps.map (·.2)) H'
theorem simK_nil : SimK .nil := by
  intro X W N sc lv g H σ env st ks es Q at_ hm hl hr h
  cases es <;> try exact no_false hm
  cases ks <;> try cases hl
  exact ⟨rfl, h g [] H .refl at_.ok .nil⟩
theorem simK_cons {e : Ex} {es : Exs} (he : SimE e) (hs : SimK es) : SimK (.cons e es) := by
  intro X W N sc lv g H σ env st ks l Q at_ hm hl hr h
  cases l <;> try exact no_false hm
  rename_i e' r'
  cases ks <;> try cases hl
  rename_i k ks
  obtain ⟨hm, h3⟩ := cond_true hm
  obtain ⟨h1, h2⟩ := cond_true hm
  show WE X e' σ H _
  refine he e' false _ at_ h2 hr.left (Post.bindF based_v h fun x st1 g1 v H1 s1 o1 r1 h1 => ?_)
  obtain ⟨g2, s2, o2, r2⟩ := r1.frozenV s1 o1
  have q := hs ks r' (fun us H' => Q (v :: us) H') (at_.on s2 o2) h3 (Nat.succ.inj hl) hr.right (Post.bind based_v (h1 g2 H1 s2) fun vs st3 g3 us H3 s3 o3 r3 h3 => h3 g3 (v :: us) H3 .refl o3 (.cons (r2.step s3 o2) r3))
  have mono : ∀ {trs : List (TE × TE)} {H : Hp} {Q Q' : List (V × V) → Hp → Prop}, (∀ p ∈ trs, ∀ {H : Hp} {Q Q' : VK}, (∀ v H, Q v H → Q' v H) → p.1 σ H Q → p.1 σ H Q') → (∀ p ∈ trs, ∀ {H : Hp} {Q Q' : VK}, (∀ v H, Q v H → Q' v H) → p.2 σ H Q → p.2 σ H Q') →
      (∀ ps H, Q ps H → Q' ps H) → tPairs trs σ H Q → tPairs trs σ H Q' := by
    intro trs
    induction trs with
    | nil => exact fun _ _ w q => w _ _ q
    | cons p r ih =>
      intro H Q Q' m1 m2 w q
      exact m1 p List.mem_cons_self (fun x H1 q1 => m2 p List.mem_cons_self (fun y H2 q2 => ih (fun p hp => m1 p (List.mem_cons_of_mem _ hp)) (fun p hp => m2 p (List.mem_cons_of_mem _ hp)) (fun ps H3 q3 => w _ _ q3) q2) q1) q
  have hm1 : ∀ (ks : List Str) (es : List Expr) p, p ∈ trsOf X ks es → (∃ k, p.1 = tC (.str k)) ∧ ∃ e, p.2 = WE X e := by
    intro ks
    induction ks with
    | nil => intro es p hp; exact (List.not_mem_nil hp).elim
    | cons k ks ih =>
      intro es p hp
      cases es with
      | nil => exact (List.not_mem_nil hp).elim
      | cons e es =>
        rcases List.mem_cons.mp hp with q | q
        · subst q
          exact ⟨⟨k, rfl⟩, ⟨e, rfl⟩⟩
        · exact ih es p q
  refine mono (fun p hp => ?_) (fun p hp => ?_) (fun ps H q => ⟨?_, q.2⟩) q
  · obtain ⟨⟨k, e⟩, _⟩ := hm1 _ _ p hp
    rw [e]
    exact fun w q => w _ _ q
  · obtain ⟨_, ⟨e, he⟩⟩ := hm1 _ _ p hp
    rw [he]
    exact fun w q => q.mono w
  · show V.str k :: ps.map (·.1) = V.str k :: ks.map V.str
    rw [q.1]
theorem simK_star {e : Ex} {es : Exs} : SimK (.star e es) := by
  intro X W N sc lv g H σ env st ks l Q at_ hm hl hr h
  exact h.elim
theorem merge_nodup : ∀ (more kvs : List (Key × V)), ((kvs ++ more).map (·.1)).Nodup → mergeK kvs more = kvs ++ more
  | [], kvs, _ => by
    rw [List.append_nil]
    rfl
  | (k, v) :: more, kvs, h => by
    have hn : (kvs.any fun kv => decide (kv.1 = k)) = false := by
      rw [List.any_eq_false]
      intro p hp hk
      have hk : p.1 = k := of_decide_eq_true hk
      rw [List.map_append, List.nodup_append] at h
      exact h.2.2 p.1 (List.mem_map_of_mem hp) k (by simp) hk
    show mergeK (putK kvs k v) more = _
    unfold putK
    rw [hn]
    show mergeK (kvs ++ [(k, v)]) more = _
    rw [merge_nodup more (kvs ++ [(k, v)]) (by rw [List.append_assoc]; exact h), List.append_assoc]
    rfl
theorem rkv_of {K : PySem.W.Frag} {g : G} {H : Hp} : ∀ {ks : List Str} {ps : List (V × V)} {xs : List Val}, ps.map (·.1) = ks.map V.str → RVals K g H (ps.map (·.2)) xs → ks.length = xs.length →
    RKV K g H ((ks.zip (ps.map (·.2))).map fun p => ((Sum.inr p.1 : Key), p.2)) (ks.zip xs) ∧ ps = ((ks.zip (ps.map (·.2))).map fun p => ((Sum.inr p.1 : Key), p.2)).map fun kv => (kV kv.1, kv.2)
  | [], ps, xs, e, r, hl => by
    cases ps with
    | nil => exact ⟨.nil, rfl⟩
    | cons p r => cases e
  | k :: ks, ps, xs, e, r, hl => by
    cases ps with
    | nil => cases e
    | cons p ps =>
      cases xs with
      | nil => cases hl
      | cons x xs =>
        cases r with
        | cons r1 r2 =>
          obtain ⟨e1, e2⟩ := List.cons.inj e
          obtain ⟨h1, h2⟩ := rkv_of (K := K) (g := g) (H := H) e2 r2 (Nat.succ.inj hl)
          refine ⟨.cons r1 h1, ?_⟩
          show p :: ps = (V.str k, p.2) :: _
          rw [show p = (V.str k, p.2) from Prod.ext e1 rfl]
          exact congrArg _ h2
/-- a new cell -/
theorem cell_new {K : PySem.W.Frag} {g g1 : G} {H H1 : Hp} {st : Store} {a : Addr} {c : Cell} (s : Step g H g1 H1) (o : Ok K g1 H1 st) (hn : H a = none) (ha : CellIs K ⟨g1.Z, g1.rho ++ [a]⟩ H1 a c) (nz : ¬ g1.Z a) (nr : a ∉ g1.rho) :
    Step g H ⟨g1.Z, g1.rho ++ [a]⟩ H1 ∧ Ok K ⟨g1.Z, g1.rho ++ [a]⟩ H1 (st ++ [c]) := by
  obtain ⟨m, em, fm⟩ := s.r
  have lift : ∀ {v : V} {x : Val}, RVal K g1 H1 v x → RVal K ⟨g1.Z, g1.rho ++ [a]⟩ H1 v x := fun {v x} r => by
    cases x with
    | dat d => exact r
    | loc n =>
      obtain ⟨b, e, q⟩ := r
      exact ⟨b, by rw [List.getElem?_append_left (List.getElem?_eq_some_iff.mp e).1]; exact e, q⟩
  have liftK : ∀ {vs : List (Key × V)} {xs : List (Str × Val)}, RKV K g1 H1 vs xs → RKV K ⟨g1.Z, g1.rho ++ [a]⟩ H1 vs xs := by
    intro vs xs r
    induction r with
    | nil => exact .nil
    | cons r t ih => exact .cons (lift r) ih
  refine ⟨⟨s.z, s.zn, ⟨m ++ [a], by rw [em, List.append_assoc], fun b hb => ?_⟩, s.keep, s.gone⟩, ⟨fun b z hb => ?_, o.zs, by rw [List.length_append, List.length_append, o.len]; rfl, ?_, fun n b c' e1 e2 => ?_⟩⟩
  · rcases List.mem_append.mp hb with q | q
    · exact fm b q
    · rw [List.mem_singleton.mp q]
      exact hn
  · rcases List.mem_append.mp hb with q | q
    · exact o.zr b z q
    · rw [List.mem_singleton.mp q] at z
      exact nz z
  · rw [List.nodup_append]
    refine ⟨o.nd, by simp, fun b hb c hc => ?_⟩
    rw [List.mem_singleton.mp hc]
    exact fun e => nr (e ▸ hb)
  · by_cases hn' : n < g1.rho.length
    · rw [List.getElem?_append_left hn'] at e1
      rw [List.getElem?_append_left (by rw [← o.len]; exact hn')] at e2
      have q := o.cell n b c' e1 e2
      cases c' with
      | lst xs => exact q
      | dic kvs =>
        obtain ⟨kv, e, r⟩ := q
        exact ⟨kv, e, liftK r⟩
    · rw [List.getElem?_append_right (by omega)] at e1
      rw [List.getElem?_append_right (by rw [← o.len]; omega)] at e2
      have h0 : n - g1.rho.length = 0 := by
        have := (List.getElem?_eq_some_iff.mp e1).1
        simp only [List.length_singleton] at this
        omega
      rw [h0] at e1
      rw [← o.len, h0] at e2
      cases e1
      cases e2
      exact ha
theorem RKV.lift {K : PySem.W.Frag} {g : G} {H : Hp} {a : Addr} {vs : List (Key × V)} {xs : List (Str × Val)} (r : RKV K g H vs xs) : RKV K ⟨g.Z, g.rho ++ [a]⟩ H vs xs := by
  induction r with
  | nil => exact .nil
  | @cons k v vs x xs r t ih =>
    refine .cons ?_ ih
    cases x with
    | dat d => exact r
    | loc n =>
      obtain ⟨b, e, q⟩ := r
      exact ⟨b, by rw [List.getElem?_append_left (List.getElem?_eq_some_iff.mp e).1]; exact e, q⟩
theorem rout_loc {K : PySem.W.Frag} {pk fr : Bool} {g : G} {H H0 : Hp} {v : V} {n : Nat} (r : RVal K g H v (.loc n)) : ROut K pk g H H0 v ⟨fr, .loc n⟩ := by
  cases fr <;> exact r
theorem sim_toloc {a : Ex} (ha : SimE a) : SimE (.toloc a) := by
  intro X W N sc lv g H σ env st e pk Q at_ hm hr h
  refine ha e false _ at_ (cond_true hm).2 hr (Post.bindF based_e h fun x st1 g1 v H1 s1 o1 r1 hq => ?_)
  have h1 := hq g H .refl
  clear hq
  obtain ⟨fr, y⟩ := x
  cases fr <;> rcases y with d | m <;> try exact h1.elim
  cases d <;> try exact h1.elim
  rename_i xs
  obtain ⟨b, rfl, n, vs, e, rd, nz, nr⟩ := r1
  obtain ⟨s2, o2⟩ := cell_new (c := .lst xs) s1 o1 n ⟨vs, e, rd⟩ nz nr
  refine h1 _ _ H1 s2 o2 (rout_loc ⟨b, ?_, rfl⟩)
  rw [← o1.len, List.getElem?_append_right (Nat.le_refl _), Nat.sub_self]
  rfl
theorem sim_dicl {ks : List Str} {es : Exs} (hs : SimK es) : SimE (.dicl ks es) := by
  intro X W N sc lv g H σ env st e pk Q at_ hm hr h
  cases e <;> try exact no_false hm
  rename_i keys values pos
  obtain ⟨hm, h6⟩ := cond_true hm
  obtain ⟨hm, h5⟩ := cond_true hm
  obtain ⟨hm, h4⟩ := cond_true hm
  obtain ⟨hm, h3⟩ := cond_true hm
  obtain ⟨h1, h2⟩ := cond_true hm
  have h2 : ks.length = values.length := of_decide_eq_true h2
  have h3 : ks.length ≤ 15 := of_decide_eq_true h3
  have h5 : ks.Nodup := of_decide_eq_true h5
  have hk : ∀ {ks : List Str} {keys : List (Option Expr)}, mKeys ks keys = true → keys.all (·.isSome) = true ∧ keys.length = ks.length := by
    intro ks
    induction ks with
    | nil =>
      intro keys h
      cases keys <;> first | exact ⟨rfl, rfl⟩ | exact no_false h
    | cons k ks ih =>
      intro keys h
      cases keys <;> try exact no_false h
      rename_i k' r
      cases k' <;> try exact no_false h
      rename_i k'
      cases k' <;> try exact no_false h
      rename_i c j p
      cases c <;> try exact no_false h
      obtain ⟨_, h2⟩ := cond_true h
      obtain ⟨i1, i2⟩ := ih h2
      exact ⟨by rw [List.all_cons, i1] <;> rfl, by rw [List.length_cons, List.length_cons, i2]⟩
  obtain ⟨k1, k2⟩ := hk h1
  have hne : keys ≠ [] := by
    intro e
    subst e
    cases ks <;> first | exact no_false h4 | cases k2
  refine WE.of (pe_disp (pps_of h1 h2) k1 (k2.trans h2) hne (by omega)) ?_
  intro p hp
  have s0 : Step g H g (upd H p (.dK [])) := .new hp
  have o0 : Ok X.K g (upd H p (.dK [])) st := at_.ok.new hp
  have at0 := at_.on s0 o0
  have h : Post X.K X.mg (WS_ W σ) (relE X.K pk) g H ((evV es env st).bind fun vs st => bif decide (vs.length = ks.length) then .ok ⟨false, .loc st.length⟩ (st ++ [.dic (ks.zip vs)]) else .no) Q := h
  have key : ∀ {ps : List (V × V)} {H1 : Hp}, True := fun {_ _} => trivial
  have q := hs (W := W) ks values (fun us H1 => ∃ g1 st1 xs, Step g (upd H p (.dK [])) g1 H1 ∧ Ok X.K g1 H1 st1 ∧ RVals X.K g1 H1 us xs ∧ ks.length = xs.length ∧
    Post X.K X.mg (WS_ W σ) (relE X.K pk) g H (.ok ⟨false, .loc st1.length⟩ (st1 ++ [.dic (ks.zip xs)])) Q) at0 h6 h2 hr (by
      cases ev : evV es env st with
      | no =>
        rw [ev] at h
        exact h.elim
      | exc c ds st1 =>
        rw [ev] at h
        exact fun g' cls d H' s' o w => h g' cls d H' (s0.trans s') o w
      | ok xs st1 =>
        rw [ev] at h
        obtain ⟨hc, h⟩ := Post.cond (x := .ok (⟨false, .loc st1.length⟩ : RV) (st1 ++ [.dic (ks.zip xs)])) h
        exact fun g1 us H1 s1 o1 r1 => ⟨g1, st1, xs, s1, o1, r1, (of_decide_eq_true hc).symm, h⟩)
  have mono : ∀ {trs : List (TE × TE)} {H : Hp} {Q Q' : List (V × V) → Hp → Prop}, (∀ p ∈ trs, (∃ k, p.1 = tC (.str k)) ∧ ∃ e, p.2 = WE X e) → (∀ ps H, Q ps H → Q' ps H) → tPairs trs σ H Q → tPairs trs σ H Q' := by
    intro trs
    induction trs with
    | nil => exact fun _ w q => w _ _ q
    | cons p r ih =>
      intro H Q Q' m w q
      obtain ⟨⟨k, e1⟩, ⟨e, e2⟩⟩ := m p List.mem_cons_self
      obtain ⟨p1, p2⟩ := p
      simp only at e1 e2
      subst e1 e2
      have q : WE X e σ H (fun y H2 => tPairs r σ H2 fun ps H3 => Q ((V.str k, y) :: ps) H3) := q
      show WE X e σ H (fun y H2 => tPairs r σ H2 fun ps H3 => Q' ((V.str k, y) :: ps) H3)
      exact q.mono fun y H2 q2 => ih (fun p hp => m p (List.mem_cons_of_mem _ hp)) (fun ps H3 q3 => w _ _ q3) q2
  have hm1 : ∀ (ks : List Str) (es : List Expr) p, p ∈ trsOf X ks es → (∃ k, p.1 = tC (.str k)) ∧ ∃ e, p.2 = WE X e := by
    intro ks
    induction ks with
    | nil => intro es p hp; exact (List.not_mem_nil hp).elim
    | cons k ks ih =>
      intro es p hp
      cases es with
      | nil => exact (List.not_mem_nil hp).elim
      | cons e es =>
        rcases List.mem_cons.mp hp with q | q
        · subst q
          exact ⟨⟨k, rfl⟩, ⟨e, rfl⟩⟩
        · exact ih es p q
  refine mono (hm1 ks values) (fun ps H1 q => ?_) q
  obtain ⟨ep, g1, st1, xs, s1, o1, r1, hl, hq⟩ := q
  have ed : H1 p = some (.dK []) := s1.keep _ _ upd_same (at_.ok.notIn hp)
  obtain ⟨f1, f2⟩ := rkv_of ep r1 hl
  have lps : ps.length = ks.length := by
    have := congrArg List.length ep
    rwa [List.length_map, List.length_map] at this
  refine ⟨ed, _, f2, by rw [List.length_map, List.length_zip, List.length_map]; omega, ?_⟩
  have hnd : ((([] : List (Key × V)) ++ (ks.zip (ps.map (·.2))).map fun p => ((Sum.inr p.1 : Key), p.2)).map (·.1)).Nodup := by
    rw [List.nil_append, List.map_map]
    have e : ((fun x : Key × V => x.1) ∘ fun p : Str × V => ((Sum.inr p.1 : Key), p.2)) = (fun x : Str => (Sum.inr x : Key)) ∘ (·.1) := rfl
    rw [e, ← List.map_map, List.map_fst_zip (by rw [List.length_map]; omega)]
    exact List.Pairwise.map _ (fun a b h e => h (Sum.inr.inj e)) h5
  rw [merge_nodup _ _ hnd, List.nil_append]
  have s01 := s0.trans s1
  have nz : ¬ g1.Z p := s1.nz (fun z => at_.ok.zs p z hp) (by rw [upd_same]; exact fun q => by cases q)
  have nr : p ∉ g1.rho := s1.nr (at_.ok.notIn hp) (by rw [upd_same]; exact fun q => by cases q)
  -- the dict is laid
  have hh : Holds g1.Z g1.Z H1 (upd H1 p (.dK ((ks.zip (ps.map (·.2))).map fun p => ((Sum.inr p.1 : Key), p.2)))) := by
    have go : ∀ b w, b ≠ p → Rd H1 b w → Rd (upd H1 p (.dK ((ks.zip (ps.map (·.2))).map fun p => ((Sum.inr p.1 : Key), p.2)))) b w := fun b w n r => by
      rcases r with r | ⟨o, r⟩
      · exact .inl (by rw [upd_ne n]; exact r)
      · exact .inr ⟨o, by rw [upd_ne n]; exact r⟩
    refine ⟨fun b xs r => go b _ (fun e => ?_) r, fun _ h => h, fun b w z r => go b w (fun e => nz (e ▸ z)) r⟩
    subst e
    rcases r with r | ⟨o, r⟩ <;> rw [ed] at r <;> cases r
  have o2 : Ok X.K g1 (upd H1 p (.dK ((ks.zip (ps.map (·.2))).map fun p => ((Sum.inr p.1 : Key), p.2)))) st1 := by
    refine ⟨o1.zr, fun b z e => ?_, o1.len, o1.nd, fun n b c e1 e2 => ?_⟩
    · by_cases hb : b = p
      · exact nz (hb ▸ z)
      · rw [upd_ne hb] at e
        exact o1.zs b z e
    · have q := o1.cell n b c e1 e2
      have nb : b ≠ p := fun e => nr (e ▸ List.mem_of_getElem? e1)
      cases c with
      | lst xs =>
        obtain ⟨vs, e, r⟩ := q
        exact ⟨vs, by rw [upd_ne nb]; exact e, RDs.holds hh r⟩
      | dic kvs =>
        obtain ⟨kv, e, r⟩ := q
        exact ⟨kv, by rw [upd_ne nb]; exact e, r.holds hh⟩
  obtain ⟨s3, o3⟩ := cell_new (c := .dic (ks.zip xs)) (s01.upd_new (u := .dK ((ks.zip (ps.map (·.2))).map fun p => ((Sum.inr p.1 : Key), p.2))) hp) o2 hp ⟨_, upd_same, (f1.holds hh).lift⟩ nz nr
  refine hq _ _ _ s3 o3 (rout_loc ⟨p, ?_, rfl⟩)
  rw [← o1.len, List.getElem?_append_right (Nat.le_refl _), Nat.sub_self]
  rfl
theorem notSuper_ok {e : Expr} {f : Str} {env : PySem.Env} (h : notSuper e = true) : attributeBase e f env (eval e env) = eval e env := by
  cases e <;> first | rfl | exact no_false h
/-- a cell is changed -/
theorem Ok.setCell {K : PySem.W.Frag} {g : G} {H : Hp} {st : Store} {n : Nat} {a : Addr} {u : HO} {c : Cell} (o : Ok K g H st) (hn : g.rho[n]? = Option.some a) (hh : Holds g.Z g.Z H (upd H a u)) (hc : CellIs K g (upd H a u) a c) : Ok K g (upd H a u) (st.set n c) := by
  refine ⟨o.zr, fun b z e => ?_, by rw [List.length_set]; exact o.len, o.nd, fun m b c' e1 e2 => ?_⟩
  · by_cases hb : b = a
    · exact o.zr b z (hb ▸ List.mem_of_getElem? hn)
    · rw [upd_ne hb] at e
      exact o.zs b z e
  · by_cases hm : n = m
    · subst hm
      rw [hn] at e1
      cases e1
      rw [List.getElem?_set_self (by rw [← o.len]; exact (List.getElem?_eq_some_iff.mp hn).1)] at e2
      cases e2
      exact hc
    · rw [List.getElem?_set_ne hm] at e2
      have nb : b ≠ a := fun e => by
        subst e
        exact hm (nodup_at o.nd hn e1)
      have q := o.cell m b c' e1 e2
      cases c' with
      | lst xs =>
        obtain ⟨vs, e, r⟩ := q
        exact ⟨vs, by rw [upd_ne nb]; exact e, RDs.holds hh r⟩
      | dic kvs =>
        obtain ⟨kv, e, r⟩ := q
        exact ⟨kv, by rw [upd_ne nb]; exact e, r.holds hh⟩
where
  nodup_at {l : List Addr} {i j : Nat} {x : Addr} (nd : l.Nodup) (h1 : l[i]? = Option.some x) (h2 : l[j]? = Option.some x) : i = j := by
    obtain ⟨a1, b1⟩ := List.getElem?_eq_some_iff.mp h1
    obtain ⟨a2, b2⟩ := List.getElem?_eq_some_iff.mp h2
    exact (List.getElem_inj nd).mp (b1.trans b2.symm)
/-- .. of a cell's object -/
theorem holds_cell {K : PySem.W.Frag} {g : G} {H : Hp} {st : Store} {a : Addr} {u : HO} (o : Ok K g H st) (ha : a ∈ g.rho) : Holds g.Z g.Z H (upd H a u) := by
  have go : ∀ b w, b ≠ a → Rd H b w → Rd (upd H a u) b w := fun b w n r => by
    rcases r with r | ⟨o, r⟩
    · exact .inl (by rw [upd_ne n]; exact r)
    · exact .inr ⟨o, by rw [upd_ne n]; exact r⟩
  refine ⟨fun b xs r => go b _ (fun e => ?_) r, fun _ h => h, fun b w z r => go b w (fun e => o.zr b z (e ▸ ha)) r⟩
  exact o.rd r ⟨fun ⟨_, q⟩ => (by cases q), fun ⟨_, q⟩ => (by cases q)⟩ (e ▸ ha)
theorem Step.cell {g g1 : G} {H H1 : Hp} {a : Addr} {u : HO} (s : Step g H g1 H1) (ha : a ∈ g1.rho) : Step g H g1 (upd H1 a u) := by
  obtain ⟨m, em, fm⟩ := s.r
  refine ⟨s.z, s.zn, ⟨m, em, fm⟩, fun b o e n => ?_, fun b e => ?_⟩
  · by_cases hb : b = a
    · subst hb
      rw [em] at ha
      rcases List.mem_append.mp ha with q | q
      · exact (n q).elim
      · rw [fm b q] at e
        cases e
    · rw [upd_ne hb]
      exact s.keep b o e n
  · by_cases hb : b = a
    · subst hb
      rw [upd_same] at e
      cases e
    · rw [upd_ne hb] at e
      exact s.gone b e
theorem RDs.last {K : PySem.W.Frag} {Z : Addr → Prop} {H : Hp} {vs : List V} {ds : List D} {d : D} (r : RDs K Z H vs ds) (h : ds.getLast? = some d) : ∃ v, vs[vs.length - 1]? = some v ∧ RD K Z H v d := by
  rw [List.getLast?_eq_getElem?] at h
  rw [r.length]
  exact r.get h
theorem RDs.dropLast {K : PySem.W.Frag} {Z : Addr → Prop} {H : Hp} {vs : List V} {ds : List D} (r : RDs K Z H vs ds) : RDs K Z H vs.dropLast ds.dropLast := by
  rw [List.dropLast_eq_take, List.dropLast_eq_take, r.length]
  exact r.take _
theorem sim_popl {a : Ex} (ha : SimE a) : SimE (.popl a) := by
  intro X W N sc lv g H σ env st e pk Q at_ hm hr h
  cases e <;> try exact no_false hm
  rename_i f args kws pos
  cases f <;> try exact no_false hm
  rename_i a' x ap
  cases args <;> cases kws <;> try exact no_false hm
  obtain ⟨hm, h4⟩ := cond_true hm
  obtain ⟨hm, h3⟩ := cond_true hm
  obtain ⟨h1, h2⟩ := cond_true hm
  have h1 : x = "pop" := of_decide_eq_true h1
  subst h1
  have h2 : ap.endLine = pos.line := of_decide_eq_true h2
  refine WE.of (pe_bm0 PySem.F.plainAttrs_list PySem.F.slot_list_pop PySem.F.type_list_pop mt_pop pe_we (notSuper_ok h3) (by rw [h2]; exact beq_self_eq_true _)) (ha a' false _ at_ h4 hr (Post.bindF based_e h fun x st1 g1 v H1 s1 o1 r1 hq => ?_))
  have h1 := hq g H .refl
  clear hq
  obtain ⟨fr, y⟩ := x
  cases y with
  | dat d => exact h1.elim
  | loc n =>
    have rv : RVal X.K g1 H1 v (.loc n) := by cases fr <;> exact r1
    obtain ⟨p, hp1, rfl⟩ := rv
    have h1 : Post X.K X.mg (WS_ W σ) (relE X.K pk) g H (match st1[n]? with
      | some (.lst xs) => (match xs.getLast? with
        | some d => .ok (plain d) (st1.set n (.lst xs.dropLast))
        | none => .no)
      | _ => .no) Q := h1
    cases hn : st1[n]? with
    | none =>
      rw [hn] at h1
      exact h1.elim
    | some c =>
      rw [hn] at h1
      cases c with
      | dic kvs => exact h1.elim
      | lst xs =>
        obtain ⟨vs, ev, rd⟩ := o1.cell n p _ hp1 hn
        have h1 : Post X.K X.mg (WS_ W σ) (relE X.K pk) g H (match xs.getLast? with
          | some d => .ok (plain d) (st1.set n (.lst xs.dropLast))
          | none => .no) Q := h1
        cases hl : xs.getLast? with
        | none =>
          rw [hl] at h1
          exact h1.elim
        | some d =>
          rw [hl] at h1
          obtain ⟨w, hw, rw1⟩ := rd.last hl
          have hmem := List.mem_of_getElem? hp1
          have hh := holds_cell (u := .lst vs.dropLast) o1 hmem
          refine ⟨.inl ⟨rfl, vs, .inl (.inl ev)⟩, p, vs, w, rfl, rfl, ev, hw, h1 g1 w _ (s1.cell hmem) (o1.setCell hp1 hh ⟨_, upd_same, (RDs.holds hh rd).dropLast⟩) ?_⟩
          have q := RD.holds hh rw1
          cases pk with
          | true => exact .inl q
          | false => exact q
theorem sim_lenl {a : Ex} (ha : SimE a) : SimE (.lenl a) := by
  intro X W N sc lv g H σ env st e pk Q at_ hm hr h
  cases e <;> try exact no_false hm
  rename_i f args kws pos
  cases f <;> try exact no_false hm
  rename_i y p
  rcases args with _ | ⟨a', _ | ⟨_, _⟩⟩ <;> try exact no_false hm
  cases kws with
  | cons _ _ => exact no_false hm
  | nil =>
    obtain ⟨hm, h4⟩ := cond_true hm
    obtain ⟨hm, h3⟩ := cond_true hm
    obtain ⟨h1, h2⟩ := cond_true hm
    have h1 : y = "len" := of_decide_eq_true h1
    subst h1
    refine WE.of (pe_callB (r := wcr X (.builtin "len")) cr_wc (at_.c.gl h2) hr.head (by decide +kernel) (pa_cons pe_we pa_nil (starEach_cons h3)) (by decide) (by decide) (starEach_cons h3) (by rfl))
      (ha a' false _ at_ h4 hr.tail (Post.bind based_e h fun x st1 g1 v H1 s1 o1 r1 h1 => ?_))
    obtain ⟨fr, y⟩ := x
    cases y with
    | dat d => exact h1.elim
    | loc n =>
      have rv : RVal X.K g1 H1 v (.loc n) := by cases fr <;> exact r1
      obtain ⟨p, hp1, rfl⟩ := rv
      cases hn : st1[n]? with
      | none =>
        simp only [lenL, hn] at h1
        exact h1.elim
      | some c =>
        cases c with
        | dic kvs =>
          simp only [lenL, hn] at h1
          exact h1.elim
        | lst xs =>
          simp only [lenL, hn] at h1
          obtain ⟨vs, ev, rd⟩ := o1.cell n p _ hp1 hn
          have h1 : Fin X.K pk g1 H1 st1 (plain (.int xs.length)) Q := h1
          exact WC.of call_len_seq ⟨p, vs, rfl, .inl (.inl (.inl ev)), by rw [rd.length]; exact h1.plain o1 (.int _)⟩

theorem simT_plain {m : Ex} (he : SimE m) (hf : ∀ {N : List Str} {sc : Scope} {e : Expr}, mE N m sc e = true → match e with
    | .UnaryOp .Not _ _ => False
    | .BoolOp _ _ _ => False
    | .IfExp _ _ _ _ => False
    | .Compare _ _ _ _ => False
    | _ => True) : SimT m :=
  simT_of he fun {N sc e} env hm => by
    have q := hf hm
    cases e <;> first | exact q.elim | skip
    all_goals first
      | exact ⟨fun _ _ _ z => (by cases z), fun _ => rfl⟩
      | (rename_i o a p
         cases o <;> first | exact q.elim | exact ⟨fun _ _ _ z => (by cases z), fun _ => rfl⟩)
theorem sim_dic0 : SimE .dic0 := by
  intro X W N sc lv g H σ env st e pk Q a hm hr h
  cases e <;> try exact no_false hm
  rename_i keys values pos
  obtain ⟨h1, h2⟩ := cond_true hm
  cases keys with
  | cons _ _ => cases h1
  | nil =>
    cases values with
    | cons _ _ => cases h2
    | nil =>
      refine WE.of pe_dnewK fun p n => h (g.add p) (.ref p) _ ((Step.new n).add n) ((a.ok.new n).add (a.ok.notIn n) (by rw [upd_same]; exact fun q => by cases q)) ?_
      have r : RD X.K (g.add p).Z (upd H p (.dK [])) (.ref p) (.dict []) := .dict (.inr rfl) (.inl upd_same) .nil
      cases pk with
      | true => exact .inl r
      | false => exact r
mutual
theorem simX : (m : Ex) → SimE m ∧ (SimE m → SimT m)
  | .var i => ⟨sim_var, fun h => simT_plain h fun {N sc e} hm => by cases e <;> first | trivial | exact no_false hm⟩
  | .cst k => ⟨sim_cst, fun h => simT_plain h fun {N sc e} hm => by cases e <;> first | trivial | exact no_false hm⟩
  | .glob x d => ⟨sim_glob, fun h => simT_plain h fun {N sc e} hm => by cases e <;> first | trivial | exact no_false hm⟩
  | .neg a => ⟨sim_neg (simX a).1, fun h => simT_plain h fun {N sc e} hm => by
      cases e <;> first | trivial | exact no_false hm | skip
      rename_i o b p
      cases o <;> first | trivial | exact no_false hm⟩
  | .not a => ⟨sim_not (simX a).1, fun _ => simT_not ((simX a).2 (simX a).1)⟩
  | .bin o a b => ⟨sim_bin (simX a).1 (simX b).1, fun h => simT_plain h fun {N sc e} hm => by cases e <;> first | trivial | exact no_false hm⟩
  | .cmp o a b => ⟨sim_cmp (simX a).1 (simX b).1, fun _ => simT_cmp (simX a).1 (simX b).1⟩
  | .chain o1 o2 a b c => ⟨sim_chain (simX a).1 (simX b).1 (simX c).1, fun _ => simT_chain (simX a).1 (simX b).1 (simX c).1⟩
  | .and a b => ⟨sim_and (simX a).1 (simX b).1, fun _ => simT_and ((simX a).2 (simX a).1) ((simX b).2 (simX b).1)⟩
  | .or a b => ⟨sim_or (simX a).1 (simX b).1, fun _ => simT_or ((simX a).2 (simX a).1) ((simX b).2 (simX b).1)⟩
  | .ite c a b => ⟨sim_ite ((simX c).2 (simX c).1) (simX a).1 (simX b).1, fun _ => simT_ite ((simX c).2 (simX c).1) ((simX a).2 (simX a).1) ((simX b).2 (simX b).1)⟩
  | .tup es => ⟨sim_tup (simXs es).2.1, fun h => simT_plain h fun {N sc e} hm => by cases e <;> first | trivial | exact no_false hm⟩
  | .lst es => ⟨sim_lst (simXs es).2.1, fun h => simT_plain h fun {N sc e} hm => by cases e <;> first | trivial | exact no_false hm⟩
  | .ix a b => ⟨sim_ix (simX a).1 (simX b).1, fun h => simT_plain h fun {N sc e} hm => by cases e <;> first | trivial | exact no_false hm⟩
  | .slice a lo hi => ⟨sim_slice (simX a).1 (simXo lo).1 (simXo hi).1, fun h => simT_plain h fun {N sc e} hm => by cases e <;> first | trivial | exact no_false hm⟩
  | .rev a => ⟨sim_rev (simX a).1, fun h => simT_plain h fun {N sc e} hm => by cases e <;> first | trivial | exact no_false hm⟩
  | .call x s es => ⟨sim_call (simXs es).1, fun h => simT_plain h fun {N sc e} hm => by cases e <;> first | trivial | exact no_false hm⟩
  | .blt f es => ⟨sim_blt (simXs es).2.2.1, fun h => simT_plain h fun {N sc e} hm => by cases e <;> first | trivial | exact no_false hm⟩
  | .isi a ts => ⟨sim_isi (simX a).1, fun h => simT_plain h fun {N sc e} hm => by cases e <;> first | trivial | exact no_false hm⟩
  | .comp elt own tg it ifs => ⟨sim_comp (simX elt).1 (simXi it) (simXo ifs).2, fun h => simT_plain h fun {N sc e} hm => by cases e <;> first | trivial | exact no_false hm⟩
  | .comp2 elt own tg it ifs tg1 it1 ifs1 => ⟨fun {X W N sc lv g H σ env st} e pk Q at_ hm hr h => no_false hm, fun _ => fun {X W N sc lv g H σ env st} e Q at_ hm hr h => no_false hm⟩
  | .dicl ks es => ⟨sim_dicl (simXs es).2.2.2, fun h => simT_plain h fun {N sc e} hm => by cases e <;> first | trivial | exact no_false hm⟩
  | .dic0 => ⟨sim_dic0, fun h => simT_plain h fun {N sc e} hm => by cases e <;> first | trivial | exact no_false hm⟩
  | .toloc a => ⟨sim_toloc (simX a).1, fun h => simT_plain h fun {N sc e} hm => by
      have q := (cond_true hm).1
      cases e <;> first | trivial | exact no_false q⟩
  | .popl a => ⟨sim_popl (simX a).1, fun h => simT_plain h fun {N sc e} hm => by cases e <;> first | trivial | exact no_false hm⟩
  | .lenl a => ⟨sim_lenl (simX a).1, fun h => simT_plain h fun {N sc e} hm => by cases e <;> first | trivial | exact no_false hm⟩
theorem simXs : (m : Exs) → SimV m ∧ SimA m ∧ SimP m ∧ SimK m
  | .nil => ⟨simV_nil, simA_nil, simP_nil, simK_nil⟩
  | .cons e es => ⟨simV_cons (simX e).1 (simXs es).1, simA_cons (simX e).1 (simXs es).2.1, simP_cons (simX e).1 (simXs es).2.2.1, simK_cons (simX e).1 (simXs es).2.2.2⟩
  | .star e es => ⟨simV_star, simA_star (simX e).1 (simXs es).2.1, simP_star, simK_star⟩
theorem simXo : (m : Opt) → SimO m ∧ SimC m
  | .non => ⟨simO_non, simC_non⟩
  | .som e => ⟨simO_som (simX e).1, simC_som ((simX e).2 (simX e).1)⟩
theorem simXi : (m : It) → SimI m
  | .seq e => simI_seq (simX e).1
  | .rng1 a => simI_rng1 (simX a).1
  | .rng2 a b => simI_rng2 (simX a).1 (simX b).1
  | .rng3 a b c => simI_rng3 (simX a).1 (simX b).1 (simX c).1
  | .enum e => simI_enum (simX e).1
  | .zip a b => simI_zip (simX a).1 (simX b).1
end
theorem sim (m : Ex) : SimE m ∧ SimT m := ⟨(simX m).1, (simX m).2 (simX m).1⟩
end MP

/-! Statements: their text; what holds between them. -/
namespace MP
open PySem PyProof.Rows L2 PySem.Spec

/-! ### which text a statement stands for -/
def isNoneE : Ex → Bool
  | .cst .none => true
  | _ => false
def isCompE : Ex → Bool
  | .comp _ _ _ _ _ => true
  | _ => false
def notComp : Expr → Bool
  | .ListComp _ _ _ _ => false
  | .SetComp _ _ _ _ => false
  | .DictComp _ _ _ _ _ => false
  | _ => true
/-- the stores of a comprehension that a name is put to are exchanged -/
def swB (sc : Scope) (y : Str) (py : Pos) : Expr → Bool
  | .ListComp _ _ s p => sc.names.lookup y == some .local && py.line == p.line && !(s.names.any fun (n, k) => n == y && (k == .local || k == .cell))
  | .SetComp _ _ s p => sc.names.lookup y == some .local && py.line == p.line && !(s.names.any fun (n, k) => n == y && (k == .local || k == .cell))
  | .DictComp _ _ _ s p => sc.names.lookup y == some .local && py.line == p.line && !(s.names.any fun (n, k) => n == y && (k == .local || k == .cell))
  | _ => false
def isStarB : Expr → Bool
  | .Starred _ _ => true
  | _ => false
def parName (sc : Scope) (line : Nat) : Expr → Option Str
  | .Name id pos => if sc.names.lookup id == some .local && pos.line == line then some id else none
  | _ => none
/-- none: not told; else the names that are stored from the right -/
def ssB (sc : Scope) : Expr → Expr → Option (Option (List Str))
  | .Tuple ts _ _, .Tuple vs _ _ =>
    if !(ts.length == 2 || ts.length == 3) || vs.length != ts.length then some none
    else if vs.any isStarB then some none
    else let names := ts.filterMap (parName sc ((ts.head?.map (·.pos.line)).getD 0))
      if names.length != ts.length || names.eraseDups.length != names.length then some none
      else if vs.all (foldedForSure 8) then some none
      else if vs.all (constantsAlone 8) then none
      else some (some names)
  | .Tuple _ _ _, _ => some none
  | _, _ => none
theorem bk_fun {env : PySem.Env} (hk : env.scope.kind = .function) : env.blockKind = .function := by
  unfold Env.blockKind
  rw [hk]
  rfl
theorem sw_name {env : PySem.Env} {y : Str} {py : Pos} {e : Expr} {l : Nat} (hk : env.scope.kind = .function) : swapsWith e (some (.Name y py)) l env = pure (swB env.scope y py e) := by
  have hb := bk_fun hk
  have go : ∀ (s : Scope) (p : Pos), (pure (env.blockKind == .function && env.kindOf y == some .local && py.line == p.line && !(s.names.any fun (n, k) => n == y && (k == .local || k == .cell))) : Sem Bool) =
      pure (env.scope.names.lookup y == some .local && py.line == p.line && !(s.names.any fun (n, k) => n == y && (k == .local || k == .cell))) := by
    intro s p
    rw [hb]
    rfl
  cases e <;> first | rfl | exact go _ _
theorem sw_tuple {env : PySem.Env} {e : Expr} {ts : List Expr} {k : Nat} {p : Pos} {l : Nat} : swapsWith e (some (.Tuple ts k p)) l env = pure false := by
  cases e <;> rfl
theorem sw_sub {env : PySem.Env} {e a b : Expr} {p : Pos} {l : Nat} : swapsWith e (some (.Subscript a b p)) l env = pure false := by
  cases e <;> rfl
theorem sw_none {env : PySem.Env} {e : Expr} {l : Nat} (h : notComp e = true) : swapsWith e none l env = pure false := by
  cases e <;> first | rfl | cases h

theorem ss_any : ∀ vs : List Expr, (vs.any fun | .Starred .. => true | _ => false) = vs.any isStarB := fun vs => by
  congr 1
theorem ss_ok {env : PySem.Env} (hk : env.scope.kind = .function) {tg value : Expr} {r : Option (List Str)} (h : ssB env.scope tg value = some r) : swappedStores [tg] value env = pure r := by
  have hb := bk_fun hk
  cases tg <;> try exact no_some h
  rename_i ts k p
  by_cases hv : ∃ vs k2 p2, value = .Tuple vs k2 p2
  · obtain ⟨vs, k2, p2, rfl⟩ := hv
    unfold ssB at h
    dsimp only at h
    unfold swappedStores
    dsimp only
    rw [hb]
    have e1 : (!(ts.length == 2 || ts.length == 3) || vs.length != ts.length || (ScopeKind.function != .function)) = (!(ts.length == 2 || ts.length == 3) || vs.length != ts.length) := by
      have : (ScopeKind.function != .function) = false := by decide
      rw [this, Bool.or_false]
    rw [e1]
    cases c1 : (!(ts.length == 2 || ts.length == 3) || vs.length != ts.length) with
    | true =>
      rw [c1, if_pos rfl] at h
      cases h
      rw [if_pos rfl]
    | false =>
      rw [c1, if_neg Bool.false_ne_true] at h
      simp only [if_neg Bool.false_ne_true]
      have e2 := ss_any vs
      cases c2 : vs.any isStarB with
      | true =>
        rw [c2, if_pos rfl] at h
        cases h
        rw [c2] at e2
        show (if (vs.any fun | .Starred .. => true | _ => false) = true then pure none else _) = _
        rw [e2]
        rfl
      | false =>
        rw [c2, if_neg Bool.false_ne_true] at h
        rw [c2] at e2
        show (if (vs.any fun | .Starred .. => true | _ => false) = true then pure none else _) = _
        rw [e2, if_neg Bool.false_ne_true]
        let nm := ts.filterMap (parName env.scope ((ts.head?.map (·.pos.line)).getD 0))
        show (if (nm.length != ts.length || nm.eraseDups.length != nm.length) = true then pure none else if vs.all (foldedForSure 8) = true then pure none else if vs.all (constantsAlone 8) = true then unsupported "assign.tuple-of-constant-expressions:order-of-the-stores" >>= fun _ => pure (some nm) else pure (some nm)) = (pure r : Sem (Option (List Str)))
        have hn : nm = ts.filterMap (parName env.scope ((ts.head?.map (·.pos.line)).getD 0)) := rfl
        clear_value nm
        rw [← hn] at h
        cases c3 : (nm.length != ts.length || nm.eraseDups.length != nm.length) with
        | true =>
          rw [c3, if_pos rfl] at h
          cases h
          rw [if_pos rfl]
        | false =>
          rw [c3, if_neg Bool.false_ne_true] at h
          simp only [if_neg Bool.false_ne_true]
          cases c4 : vs.all (foldedForSure 8) with
          | true =>
            rw [c4, if_pos rfl] at h
            cases h
            rw [if_pos rfl]
          | false =>
            rw [c4, if_neg Bool.false_ne_true] at h
            simp only [if_neg Bool.false_ne_true]
            cases c5 : vs.all (constantsAlone 8) with
            | true =>
              rw [c5, if_pos rfl] at h
              cases h
            | false =>
              rw [c5, if_neg Bool.false_ne_true] at h
              cases h
              simp only [if_neg Bool.false_ne_true]
  · have e1 : ssB env.scope (.Tuple ts k p) value = some none := by
      cases value <;> first | rfl | exact (hv ⟨_, _, _, rfl⟩).elim
    rw [e1] at h
    cases h
    cases value <;> first | rfl | exact (hv ⟨_, _, _, rfl⟩).elim

/-- a written text: a constant, or a tuple of one text -/
def isCE : Ex → Bool
  | .cst _ => true
  | .tup (.cons (.cst (.str _)) .nil) => true
  | _ => false
mutual
def mS (N : List Str) : Sm → Scope → Stmt → Bool
  | .pass, _, s => match s with
    | .Pass _ => true
    | .Expr (.Constant (.str _) _ _) _ => true
    | _ => false
  | .exp e, sc, s => match s with
    | .Expr e' _ => notComp e' && mE N e sc e'
    | _ => false
  | .ret e, sc, s => match s with
    | .Return o _ => (match o with
      | some e' => mE N e sc e'
      | none => isNoneE e)
    | _ => false
  | .set i _ e, sc, s => match s with
    | .Assign ts e' _ => (match ts with
      | [.Name y py] => decide (N[i]? = some y) && isLoc sc y && mE N e sc e' && (!swB sc y py e' || isCompE e)
      | _ => false)
    | _ => false
  | .setT us e, sc, s => match s with
    | .Assign ts e' _ => (match ts with
      | [.Tuple es k p] => mTgs N us sc es && mE N e sc e' && decide (ssB sc (.Tuple es k p) e' = some none)
      | _ => false)
    | _ => false
  | .par is es, sc, s => match s with
    | .Assign [.Tuple ts k p] (.Tuple vs k2 p2) _ => mEs N es sc vs && (match is, ts with
      | [i, j], [.Name x _, .Name y _] => decide (vs.length = 2) && decide (N[i]? = some x) && decide (N[j]? = some y) && decide (i ≠ j) && decide (sc.names.lookup x = some .local) && decide (sc.names.lookup y = some .local) &&
        decide (ssB sc (.Tuple ts k p) (.Tuple vs k2 p2) = some (some [x, y]))
      | [i, j, l], [.Name x _, .Name y _, .Name z _] => decide (vs.length = 3) && decide (N[i]? = some x) && decide (N[j]? = some y) && decide (N[l]? = some z) && decide (i ≠ j) && decide (i ≠ l) && decide (j ≠ l) &&
        decide (sc.names.lookup x = some .local) && decide (sc.names.lookup y = some .local) && decide (sc.names.lookup z = some .local) && decide (ssB sc (.Tuple ts k p) (.Tuple vs k2 p2) = some (some [x, y, z]))
      | _, _ => false)
    | _ => false
  | .parO is _ es, sc, s => match s with
    | .Assign [.Tuple ts k p] (.Tuple vs k2 p2) _ => mEs N es sc vs && (match is, ts with
      | [i, j], [.Name x _, .Name y _] => decide (vs.length = 2) && decide (N[i]? = some x) && decide (N[j]? = some y) && decide (i ≠ j) && decide (sc.names.lookup x = some .local) && decide (sc.names.lookup y = some .local) &&
        decide (ssB sc (.Tuple ts k p) (.Tuple vs k2 p2) = some (some [x, y]))
      | [i, j, l], [.Name x _, .Name y _, .Name z _] => decide (vs.length = 3) && decide (N[i]? = some x) && decide (N[j]? = some y) && decide (N[l]? = some z) && decide (i ≠ j) && decide (i ≠ l) && decide (j ≠ l) &&
        decide (sc.names.lookup x = some .local) && decide (sc.names.lookup y = some .local) && decide (sc.names.lookup z = some .local) && decide (ssB sc (.Tuple ts k p) (.Tuple vs k2 p2) = some (some [x, y, z]))
      | _, _ => false)
    | _ => false
  | .aug i o e, sc, s => match s with
    | .AugAssign (.Name x _) op e' _ => decide (N[i]? = some x) && isLoc sc x && mE N e sc e' && (match o, op with
      | .add, .Add => true
      | .sub, .Sub => true
      | _, _ => false)
    | _ => false
  | .ite c a b, sc, s => match s with
    | .If c' a' b' _ => mE N c sc c' && mSs N a sc a' && mSs N b sc b'
    | _ => false
  | .whil c b, sc, s => match s with
    | .While c' b' o _ => mE N c sc c' && mSs N b sc b' && o.isEmpty
    | _ => false
  | .forr tg it b, sc, s => match s with
    | .For tg' it' b' o _ => mTg N tg sc tg' && notSet it' && mI N it sc tg' it' && mSs N b sc b' && o.isEmpty
    | _ => false
  | .brk, _, s => match s with
    | .Break _ => true
    | _ => false
  | .cnt, _, s => match s with
    | .Continue _ => true
    | _ => false
  | .app i e, sc, s => match s with
    | .Expr (.Call (.Attribute (.Name x _) m ap) [e'] [] cp) _ => decide (N[i]? = some x) && isVis sc x && okName x && decide (m = "append") && decide (ap.endLine = cp.line) && notStar e' && mE N e sc e'
    | _ => false
  | .popd i, sc, s => match s with
    | .Expr (.Call (.Attribute (.Name x _) m ap) [] [] cp) _ => decide (N[i]? = some x) && isVis sc x && okName x && decide (m = "pop") && decide (ap.endLine = cp.line)
    | _ => false
  | .popt j i, sc, s => match s with
    | .Assign [.Name y _] (.Call (.Attribute (.Name x _) m ap) [] [] cp) _ => decide (N[j]? = some y) && isLoc sc y && decide (N[i]? = some x) && isVis sc x && okName x && decide (m = "pop") && decide (ap.endLine = cp.line)
    | _ => false
  | .setix i k e, sc, s => match s with
    | .Assign [.Subscript (.Name x _) k' _] e' _ => decide (N[i]? = some x) && isVis sc x && okName x && plainIx k' && mE N k sc k' && mE N e sc e'
    | _ => false
  | .setloc a k e, sc, s => match s with
    | .Assign [.Subscript a' k' _] e' _ => plainIx k' && mE N a sc a' && mE N k sc k' && mE N e sc e'
    | _ => false
  | .frz _, _, _ => false
  | .never, _, _ => true
  | .clr i, sc, s => match s with
    | .Expr (.Call (.Attribute (.Name x _) m ap) [] [] cp) _ => decide (N[i]? = some x) && isVis sc x && okName x && decide (m = "clear") && decide (ap.endLine = cp.line)
    | _ => false
  | .rais c, sc, s => match s with
    | .Raise (some (.Call (.Name x _) [] [] _)) none _ => decide (c = x) && isGl sc x && okName x
    | _ => false
  | .tryR b c e, sc, s => match s with
    | .Try body [.ExceptHandler (some (.Name x _)) none [.Return (some e') _] _] [] [] _ => mSs N b sc body && decide (c = x) && isGl sc x && okName x && isCE e && mE N e sc e'
    | _ => false
def mSs (N : List Str) : Sms → Scope → List Stmt → Bool
  | .nil, _, l => l.isEmpty
  | .cons s ss, sc, l => match s with
    | .frz _ => mSs N ss sc l
    | .never => true
    | _ => (match l with
      | s' :: l' => mS N s sc s' && mSs N ss sc l'
      | [] => false)
end
mutual
def rqS : Sm → List Req
  | .pass => []
  | .exp e => rqE e
  | .ret e => rqE e
  | .set _ _ e => rqE e
  | .setT _ e => rqE e
  | .par _ es => rqEs es
  | .parO _ _ es => rqEs es
  | .aug _ _ e => rqE e
  | .ite c a b => rqE c ++ (rqSs a ++ rqSs b)
  | .whil c b => rqE c ++ rqSs b
  | .forr _ it b => rqI it ++ rqSs b
  | .brk => []
  | .cnt => []
  | .app _ e => rqE e
  | .popd _ => []
  | .popt _ _ => []
  | .setix _ k e => rqE k ++ rqE e
  | .setloc a k e => rqE a ++ rqE k ++ rqE e
  | .frz _ => []
  | .never => []
  | .clr _ => []
  | .rais c => [.exc c]
  | .tryR b c e => .exc c :: (rqSs b ++ rqE e)
def rqSs : Sms → List Req
  | .nil => []
  | .cons s ss => rqS s ++ rqSs ss
end
end MP

/-! Statements: what holds between them. -/
namespace MP
open PySem PyProof.Rows L2 PySem.Spec

structure SCtx (X : Cx) (W : WX) (N : List Str) (sc : Scope) (lv : Nat) : Prop where
  c : CtxOk X W N sc lv
  sce : X.env.scope = sc
  stk : X.stack = X.env :: X.outer
  frm : X.env.frame = some X.env.locals
/-- where a statement is met: g0, H0 stand at the def's entry, zb, Hb at the loop's -/
structure SI (K : PySem.W.Frag) (g0 : G) (H0 : Hp) (zb : Addr → Prop) (Hb : Hp) (g : G) (H : Hp) (σ : L2.St) (env : Env) (st : Store) : Prop where
  s : Step g0 H0 g H
  ok : Ok K g H st
  en : EnvOk K g H σ env
  new : ∀ (i : Nat) (d : MP.D) (a : Addr), env[i]? = some (.own d) → σ[i]? = some (some (.ref a)) → H0 a = none
  h : Holds zb g.Z Hb H
def PostS (K : PySem.W.Frag) (mg : Str → Option Value) (W : WX) (g0 : G) (H0 : Hp) (zb : Addr → Prop) (Hb : Hp) (r : SR) (D : Ends) : Prop := match r with
  | .nx env st => ∀ g H σ, SI K g0 H0 zb Hb g H σ env st → D.nx σ H
  | .br env st => ∀ g H σ, SI K g0 H0 zb Hb g H σ env st → D.bk σ H
  | .ct env st => ∀ g H σ, SI K g0 H0 zb Hb g H σ env st → D.ct σ H
  | .rt x st => ∀ g H v, Step g0 H0 g H → Ok K g H st → ROut K false g H H0 v x → D.rt v H
  | .ex c ds env st => ∀ g H σ cls d, SI K g0 H0 zb Hb g H σ env st → ExcIs K mg g H c ds cls d → W cls d σ H
  | .no => False
section
variable {K : PySem.W.Frag} {mg : Str → Option Value} {W : WX} {g0 g g1 : G} {H0 Hb H H1 : Hp} {zb : Addr → Prop} {st st1 : Store} {σ : L2.St} {env env' : Env} {D D' : Ends}
theorem SI.step (i : SI K g0 H0 zb Hb g H σ env st) (s : Step g H g1 H1) (o : Ok K g1 H1 st1) : SI K g0 H0 zb Hb g1 H1 σ env st1 :=
  ⟨i.s.trans s, o, i.en.step s i.ok, i.new, i.h.trans (s.holds i.ok)⟩
theorem SI.at_ {X : Cx} {N : List Str} {sc : Scope} {lv : Nat} (c : SCtx X W N sc lv) (i : SI X.K g0 H0 zb Hb g H σ env st) : At X W N sc lv g H σ env st := ⟨c.c, i.ok, i.en⟩
theorem PostS.sr {α β : Type} {Rl : Hp → G → Hp → β → α → Prop} {r : R α} {f : α → Store → SR} {Q1 : β → Hp → Prop} (i : SI K g0 H0 zb Hb g H σ env st) (h : PostS K mg W g0 H0 zb Hb (r.sr env f) D)
    (k : ∀ x st1 g1 v H1, SI K g0 H0 zb Hb g1 H1 σ env st1 → Step g H g1 H1 → Rl H g1 H1 v x → PostS K mg W g0 H0 zb Hb (f x st1) D → Q1 v H1) : Post K mg (WS_ W σ) Rl g H r Q1 := by
  cases r with
  | ok x st1 => exact fun g1 v H1 s o q => k x st1 g1 v H1 (i.step s o) s q h
  | exc c ds st1 => exact fun g1 cls d H1 s o q => h g1 H1 σ cls d (i.step s o) q
  | no => exact h.elim
theorem PostS.dat {x : RV} {f : MP.D → Store → SR} (h : PostS K mg W g0 H0 zb Hb ((datOf x st).sr env f) D) : ∃ d, x.v = .dat d ∧ PostS K mg W g0 H0 zb Hb (f d st) D := by
  obtain ⟨fr, y⟩ := x
  cases y with
  | dat d => exact ⟨d, rfl, h⟩
  | loc n => exact h.elim
theorem PostS.int {x : RV} {f : Int → Store → SR} (h : PostS K mg W g0 H0 zb Hb ((intOf x st).sr env f) D) : ∃ d, x.v = .dat (.int d) ∧ PostS K mg W g0 H0 zb Hb (f d st) D := by
  obtain ⟨fr, y⟩ := x
  cases y with
  | dat d =>
    cases d <;> try exact h.elim
    exact ⟨_, rfl, h⟩
  | loc n => exact h.elim
theorem PostS.bool {x : RV} {f : Bool → Store → SR} (h : PostS K mg W g0 H0 zb Hb ((boolOf x st).sr env f) D) : ∃ d, x.v = .dat (.bool d) ∧ PostS K mg W g0 H0 zb Hb (f d st) D := by
  obtain ⟨fr, y⟩ := x
  cases y with
  | dat d =>
    cases d <;> try exact h.elim
    exact ⟨_, rfl, h⟩
  | loc n => exact h.elim
theorem PostS.cond {c : Bool} {x : SR} (h : PostS K mg W g0 H0 zb Hb (bif c then x else .no) D) : c = true ∧ PostS K mg W g0 H0 zb Hb x D := by
  cases c with
  | true => exact ⟨rfl, h⟩
  | false => exact h.elim
theorem PostS.mono {r : SR} (h : PostS K mg W g0 H0 zb Hb r D) (n : ∀ σ H, D.nx σ H → D'.nx σ H) (b : ∀ σ H, D.bk σ H → D'.bk σ H) (c : ∀ σ H, D.ct σ H → D'.ct σ H) (t : ∀ v H, D.rt v H → D'.rt v H) : PostS K mg W g0 H0 zb Hb r D' := by
  cases r with
  | nx e s => exact fun g H σ i => n _ _ (h g H σ i)
  | br e s => exact fun g H σ i => b _ _ (h g H σ i)
  | ct e s => exact fun g H σ i => c _ _ (h g H σ i)
  | rt e s => exact fun g H v i o q => t _ _ (h g H v i o q)
  | ex _ _ _ _ => exact h
  | no => exact h
theorem PostS.seq {x : SR} {f : Env → Store → SR} {N : L2.St → Hp → Prop} (h : PostS K mg W g0 H0 zb Hb (x.seq f) D) (k : ∀ env st g H σ, SI K g0 H0 zb Hb g H σ env st → PostS K mg W g0 H0 zb Hb (f env st) D → N σ H) : PostS K mg W g0 H0 zb Hb x { D with nx := N } := by
  cases x with
  | nx e s => exact fun g H σ i => k e s g H σ i h
  | br e s => exact h
  | ct e s => exact h
  | rt e s => exact h
  | ex _ _ _ _ => exact h
  | no => exact h
theorem PostS.turn {x : SR} {f : Env → Store → SR} {N : L2.St → Hp → Prop} (h : PostS K mg W g0 H0 zb Hb (turn x f) D) (k : ∀ env st g H σ, SI K g0 H0 zb Hb g H σ env st → PostS K mg W g0 H0 zb Hb (f env st) D → N σ H) :
    PostS K mg W g0 H0 zb Hb x { D with nx := N, ct := N, bk := D.nx } := by
  cases x with
  | nx e s => exact fun g H σ i => k e s g H σ i h
  | br e s => exact h
  | ct e s => exact fun g H σ i => k e s g H σ i h
  | rt e s => exact h
  | ex _ _ _ _ => exact h
  | no => exact h
/-- from a loop's beginning on -/
theorem PostS.rebase {r : SR} {zc : Addr → Prop} {Hc : Hp} (q : Holds zb zc Hb Hc) (h : PostS K mg W g0 H0 zb Hb r D) : PostS K mg W g0 H0 zc Hc r D := by
  have go : ∀ {g H σ env st}, SI K g0 H0 zc Hc g H σ env st → SI K g0 H0 zb Hb g H σ env st := fun i => ⟨i.s, i.ok, i.en, i.new, q.trans i.h⟩
  cases r with
  | nx e s => exact fun g H σ i => h g H σ (go i)
  | br e s => exact fun g H σ i => h g H σ (go i)
  | ct e s => exact fun g H σ i => h g H σ (go i)
  | rt e s => exact h
  | ex _ _ _ _ => exact fun g H σ cls d i => h g H σ cls d (go i)
  | no => exact h
theorem bind_sr {α β : Type} {r : R α} {f : α → Store → R β} {k : β → Store → SR} : (r.bind f).sr env k = r.sr env fun x st => (f x st).sr env k := by
  cases r <;> rfl

/-! ### slots -/
theorem set_other {i j : Nat} {s t : Slot} {d : MP.D} (hs : ∀ d, s ≠ .own d) (e : (List.set env i s)[j]? = some (.own d)) : i ≠ j ∧ env[j]? = some (.own d) := by
  by_cases h : i = j
  · subst h
    rw [List.getElem?_set] at e
    split at e
    · split at e
      · exact (hs d (Option.some.inj e)).elim
      · cases e
    · rename_i h
      exact absurd rfl h
  · rw [List.getElem?_set_ne h] at e
    exact ⟨h, e⟩
theorem SI.setVal {x : Val} {v : V} (i : Nat) (si : SI K g0 H0 zb Hb g H σ env st) (r : RVal K g H v x) : SI K g0 H0 zb Hb g H (σ.set i (some v)) (List.set env i (.val x)) st := by
  refine ⟨si.s, si.ok, si.en.setVal i r, fun j d a e1 e2 => ?_, si.h⟩
  obtain ⟨n, e1⟩ := set_other (t := .un) (fun _ h => by cases h) e1
  rw [List.getElem?_set_ne n] at e2
  exact si.new j d a e1 e2
theorem EnvOk.setOwn {d : MP.D} {a : Addr} (i : Nat) (en : EnvOk K g H σ env) (r : OwnAt K g H a d) (ap : ∀ j d', j ≠ i → env[j]? = some (.own d') → σ[j]? ≠ some (some (.ref a))) : EnvOk K g H (σ.set i (some (.ref a))) (List.set env i (.own d)) := by
  refine ⟨by rw [List.length_set, List.length_set]; exact en.len, fun j s y e1 e2 => ?_, fun j k d1 d2 b e1 e2 e3 e4 => ?_⟩
  · by_cases hj : i = j
    · subst hj
      have hi : i < env.length := by
        have q := (List.getElem?_eq_some_iff.mp e1).1
        rwa [List.length_set] at q
      rw [List.getElem?_set_self hi] at e1
      rw [List.getElem?_set_self (by rw [← en.len]; exact hi)] at e2
      cases e1
      cases e2
      exact ⟨a, rfl, r⟩
    · rw [List.getElem?_set_ne hj] at e1 e2
      exact en.at_ j s y e1 e2
  · have self : ∀ {l : Nat} {y : V}, l = i → (σ.set i (some (.ref a)))[l]? = some (some y) → y = .ref a := fun {l y} e q => by
      subst e
      rw [List.getElem?_set] at q
      split at q
      · split at q
        · cases q
          rfl
        · cases q
      · rename_i h
        exact absurd rfl h
    by_cases hj : j = i
    · by_cases hk : k = i
      · rw [hj, hk]
      · have eb := self hj e3
        cases eb
        rw [List.getElem?_set_ne (Ne.symm hk)] at e2 e4
        exact (ap k d2 hk e2 e4).elim
    · by_cases hk : k = i
      · have eb := self hk e4
        cases eb
        rw [List.getElem?_set_ne (Ne.symm hj)] at e1 e3
        exact (ap j d1 hj e1 e3).elim
      · rw [List.getElem?_set_ne (Ne.symm hj)] at e1 e3
        rw [List.getElem?_set_ne (Ne.symm hk)] at e2 e4
        exact en.apart j k d1 d2 b e1 e2 e3 e4
theorem SI.setOwn {d : MP.D} {a : Addr} (i : Nat) (si : SI K g0 H0 zb Hb g H σ env st) (r : OwnAt K g H a d) (ap : ∀ j d', j ≠ i → env[j]? = some (.own d') → σ[j]? ≠ some (some (.ref a))) (n : H0 a = none) :
    SI K g0 H0 zb Hb g H (σ.set i (some (.ref a))) (List.set env i (.own d)) st := by
  refine ⟨si.s, si.ok, si.en.setOwn i r ap, fun j d' b e1 e2 => ?_, si.h⟩
  by_cases h : i = j
  · subst h
    rw [List.getElem?_set] at e2
    split at e2
    · split at e2
      · cases e2
        exact n
      · cases e2
    · rename_i h
      exact absurd rfl h
  · rw [List.getElem?_set_ne h] at e1 e2
    exact si.new j d' b e1 e2
/-- the list in a slot of ours is changed -/
theorem SI.mut {i : Nat} {a : Addr} {d : MP.D} {us vs : List V} {ys : List MP.D} (si : SI K g0 H0 zb Hb g H σ env st) (e : env[i]? = some (.own d)) (es : σ[i]? = some (some (.ref a))) (ha : H a = some (.lst us)) (nz : ¬ g.Z a) (nr : a ∉ g.rho) (r : RDs K g.Z H vs ys) :
    SI K g0 H0 zb Hb g (upd H a (.lst vs)) σ (List.set env i (.own (.list ys))) st := by
  have hh := holds_own (u := .lst vs) ha nz
  have n0 := si.new i d a e es
  have en : EnvOk K g (upd H a (.lst vs)) σ (List.set env i (.own (.list ys))) := by
    refine ⟨by rw [List.length_set]; exact si.en.len, fun j s y e1 e2 => ?_, fun j k d1 d2 b e1 e2 e3 e4 => ?_⟩
    · by_cases hj : i = j
      · subst hj
        have hi : i < env.length := (List.getElem?_eq_some_iff.mp e).1
        rw [List.getElem?_set_self hi] at e1
        cases e1
        rw [es] at e2
        cases e2
        exact ⟨a, rfl, vs, upd_same, RDs.holds hh r, nz, nr⟩
      · rw [List.getElem?_set_ne hj] at e1
        have q := si.en.at_ j s y e1 e2
        cases s with
        | un => trivial
        | val v =>
          obtain ⟨w, ew, rw1⟩ := q
          exact ⟨w, ew, rw1.holds hh⟩
        | own d' =>
          obtain ⟨b, eb, ob⟩ := q
          subst eb
          have nb : b ≠ a := fun h => hj (si.en.apart i j d d' a e e1 es (h ▸ e2))
          refine ⟨b, rfl, ?_⟩
          cases d' <;> try exact ob.elim
          obtain ⟨ws, e3, r3, q3⟩ := ob
          exact ⟨ws, by rw [upd_ne nb]; exact e3, RDs.holds hh r3, q3⟩
    · have back : ∀ {l : Nat} {d' : MP.D}, (List.set env i (.own (.list ys)))[l]? = some (.own d') → ∃ d'', env[l]? = some (.own d'') := fun {l d'} q => by
        by_cases hl : i = l
        · subst hl
          exact ⟨d, e⟩
        · rw [List.getElem?_set_ne hl] at q
          exact ⟨d', q⟩
      obtain ⟨_, f1⟩ := back e1
      obtain ⟨_, f2⟩ := back e2
      exact si.en.apart j k _ _ b f1 f2 e3 e4
  refine ⟨si.s.upd_new n0, si.ok.own ha nz nr, en, fun j d' b e1 e2 => ?_, si.h.trans hh⟩
  by_cases h : i = j
  · subst h
    exact si.new i d b e e2
  · rw [List.getElem?_set_ne h] at e1
    exact si.new j d' b e1 e2
/-- .. is frozen -/
theorem SI.frz {i : Nat} {d : MP.D} (si : SI K g0 H0 zb Hb g H σ env st) (e : env[i]? = some (.own d)) : ∃ g', SI K g0 H0 zb Hb g' H σ (List.set env i (.val (.dat d))) st := by
  obtain ⟨x, ex, so⟩ := si.en.slot e
  obtain ⟨a, rfl, oa⟩ := so
  have n0 := si.new i d a e ex
  have ok' := si.ok.add oa.nz.2 oa.ne
  have hi : i < env.length := (List.getElem?_eq_some_iff.mp e).1
  refine ⟨g.add a, si.s.add n0, ok', ⟨by rw [List.length_set]; exact si.en.len, fun j s y e1 e2 => ?_, fun j k d1 d2 b e1 e2 e3 e4 => ?_⟩, fun j d' b e1 e2 => ?_, si.h.trans holds_add⟩
  · by_cases hj : i = j
    · subst hj
      rw [List.getElem?_set_self hi] at e1
      cases e1
      rw [ex] at e2
      cases e2
      exact ⟨_, rfl, oa.frozen⟩
    · rw [List.getElem?_set_ne hj] at e1
      have q := si.en.at_ j s y e1 e2
      cases s with
      | un => trivial
      | val v =>
        obtain ⟨w, ew, rw1⟩ := q
        exact ⟨w, ew, rval_add rw1⟩
      | own d' =>
        obtain ⟨b, eb, ob⟩ := q
        subst eb
        have nb : b ≠ a := fun h => hj (si.en.apart i j d d' a e e1 ex (h ▸ e2))
        refine ⟨b, rfl, ?_⟩
        cases d' <;> try exact ob.elim
        obtain ⟨ws, e3, r3, q3⟩ := ob
        exact ⟨ws, e3, RDs.holds holds_add r3, fun z => z.elim q3.1 nb, q3.2⟩
  · obtain ⟨_, e1⟩ := set_other (t := .un) (fun _ h => by cases h) e1
    obtain ⟨_, e2⟩ := set_other (t := .un) (fun _ h => by cases h) e2
    exact si.en.apart j k d1 d2 b e1 e2 e3 e4
  · obtain ⟨_, e1⟩ := set_other (t := .un) (fun _ h => by cases h) e1
    exact si.new j d' b e1 e2
end
end MP

/-! Statements: the model does what is reckoned. -/
namespace MP
open PySem PyProof.Rows L2 PySem.Spec

def SimS (m : Sm) : Prop := ∀ {X : Cx} {W : WX} {N : List Str} {sc : Scope} {lv : Nat} {g0 g : G} {H0 Hb H : Hp} {zb : Addr → Prop} {σ : L2.St} {env : Env} {st : Store} (s : Stmt) (D : Ends), SCtx X W N sc lv → SI X.K g0 H0 zb Hb g H σ env st →
  mS N m sc s = true → Rqs X lv (rqS m) → PostS X.K X.mg W g0 H0 zb Hb (evS m env st) D → WS X s D σ H
def SimSs (m : Sms) : Prop := ∀ {X : Cx} {W : WX} {N : List Str} {sc : Scope} {lv : Nat} {g0 g : G} {H0 Hb H : Hp} {zb : Addr → Prop} {σ : L2.St} {env : Env} {st : Store} (s : List Stmt) (D : Ends), SCtx X W N sc lv → SI X.K g0 H0 zb Hb g H σ env st →
  mSs N m sc s = true → Rqs X lv (rqSs m) → PostS X.K X.mg W g0 H0 zb Hb (evSs m env st) D → WSs X s D σ H
theorem SCtx.hk {X : Cx} {W : WX} {N : List Str} {sc : Scope} {lv : Nat} (c : SCtx X W N sc lv) : X.env.scope.kind = .function := by rw [c.sce]; exact c.c.kind

theorem sims_pass : SimS .pass := by
  intro X W N sc lv g0 g H0 Hb H zb σ env st s D c si hm hr h
  have h : ∀ g H σ, SI X.K g0 H0 zb Hb g H σ env st → D.nx σ H := h
  cases s <;> try exact no_false hm
  · rename_i e p
    cases e <;> try exact no_false hm
    rename_i k j q
    cases k <;> try exact no_false hm
    exact WS.of ps_doc (h g H σ si)
  · exact WS.of ps_pass (h g H σ si)
theorem sims_brk : SimS .brk := by
  intro X W N sc lv g0 g H0 Hb H zb σ env st s D c si hm hr h
  have h : ∀ g H σ, SI X.K g0 H0 zb Hb g H σ env st → D.bk σ H := h
  cases s <;> try exact no_false hm
  exact WS.of ps_break (h g H σ si)
theorem sims_cnt : SimS .cnt := by
  intro X W N sc lv g0 g H0 Hb H zb σ env st s D c si hm hr h
  have h : ∀ g H σ, SI X.K g0 H0 zb Hb g H σ env st → D.ct σ H := h
  cases s <;> try exact no_false hm
  exact WS.of ps_continue (h g H σ si)
theorem sims_never : SimS .never := fun {X W N sc lv g0 g H0 Hb H zb σ env st} s D c si hm hr h => h.elim
theorem sims_exp {e : Ex} (he : SimE e) : SimS (.exp e) := by
  intro X W N sc lv g0 g H0 Hb H zb σ env st s D c si hm hr h
  cases s <;> try exact no_false hm
  rename_i e' p
  obtain ⟨h1, h2⟩ := cond_true hm
  refine WS.of (ps_expr pe_we (sw_none h1)) (he e' true _ (si.at_ c) h2 hr (PostS.sr si h fun x st1 g1 v H1 i1 s1 r1 h1 => ?_))
  exact h1 g1 H1 σ i1
theorem step_val {K : PySem.W.Frag} {g0 g g1 : G} {H0 Hb H H1 : Hp} {zb : Addr → Prop} {st1 : Store} {σ : L2.St} {env : Env} {st : Store} {v : V} {x : RV} (si : SI K g0 H0 zb Hb g H σ env st) (i1 : SI K g0 H0 zb Hb g1 H1 σ env st1) (s1 : Step g H g1 H1) (r : ROut K false g1 H1 H v x) :
    ∃ g2, SI K g0 H0 zb Hb g2 H1 σ env st1 ∧ RVal K g2 H1 v x.v := by
  obtain ⟨g2, s2, o2, r2⟩ := r.frozenV s1 i1.ok
  exact ⟨g2, si.step s2 o2, r2⟩
theorem sims_ret {e : Ex} (he : SimE e) : SimS (.ret e) := by
  intro X W N sc lv g0 g H0 Hb H zb σ env st s D c si hm hr h
  cases s <;> try exact no_false hm
  rename_i o p
  -- the plain road
  have go : ∀ e', mE N e sc e' = true → PostS X.K X.mg W g0 H0 zb Hb ((evE e false env st).sr env fun x st => .rt x st) D → WS X (.Return (some e') p) D σ H := by
    intro e' hm h
    refine WS.of (ps_ret pe_we) (he e' false _ (si.at_ c) hm hr (PostS.sr si h fun x st1 g1 v H1 i1 s1 r1 h1 => ?_))
    exact h1 g1 H1 v i1.s i1.ok (based_e _ _ _ _ _ _ (fun a ha => si.s.gone a ha) r1)
  cases o with
  | none =>
    cases e <;> try exact no_false hm
    rename_i l
    cases l <;> try exact no_false hm
    refine WS.of ps_retN ?_
    exact h g H .non si.s si.ok .none
  | some e' =>
    have hm : mE N e sc e' = true := hm
    cases e with
    | var i =>
      cases hs : env[i]? with
      | none =>
        refine go e' hm ?_
        simp only [evS, hs] at h
        exact h
      | some sl =>
        cases sl with
        | un =>
          refine go e' hm ?_
          simp only [evS, hs] at h
          exact h
        | val v =>
          refine go e' hm ?_
          simp only [evS, hs] at h
          exact h
        | own d =>
          simp only [evS, hs] at h
          obtain ⟨x, ex, so⟩ := si.en.slot hs
          obtain ⟨a, rfl, oa⟩ := so
          cases e' with
          | Name x pos =>
            obtain ⟨hm, h3⟩ := cond_true (show (decide (N[i]? = some x) && isVis sc x && okName x) = true from hm)
            obtain ⟨h1, h2⟩ := cond_true hm
            have h1 : N[i]? = some x := of_decide_eq_true h1
            have hd := okName_debug h3
            refine WS.of (ps_ret (pe_var (by rw [c.c.eN]; exact h1) (c.c.vis h2) hd.1 hd.2.1)) ⟨_, ex, ?_⟩
            exact h g H _ si.s si.ok ⟨a, rfl, si.new i d a hs ex, oa⟩
          | _ => exact no_false hm
    | _ => exact go e' hm h
theorem sims_set {i : Nat} {own : Bool} {e : Ex} (he : SimE e) (hlc : ∀ elt ow tg it ifs, e = .comp elt ow tg it ifs → SimE elt ∧ SimI it ∧ SimC ifs) : SimS (.set i own e) := by
  intro X W N sc lv g0 g H0 Hb H zb σ env st s D c si hm hr h
  cases s <;> try exact no_false hm
  rename_i ts e' p
  rcases ts with _ | ⟨t, _ | ⟨_, _⟩⟩ <;> (try exact no_false hm) <;> cases t <;> try exact no_false hm
  rename_i y py
  obtain ⟨hm, h4⟩ := cond_true hm
  obtain ⟨hm, h3⟩ := cond_true hm
  obtain ⟨h1, h2⟩ := cond_true hm
  have h1 : N[i]? = some y := of_decide_eq_true h1
  have hl := c.c.loc h2
  have hN : X.N.Nodup := by rw [c.c.eN]; exact c.c.nd
  have hi : X.N[i]? = some y := by rw [c.c.eN]; exact h1
  have fin : Post X.K X.mg (WS_ W σ) (relE X.K false) g H (evE e false env st) (fun v H1 => gName i v σ H1 D.nx) := by
    refine PostS.sr si (show PostS X.K X.mg W g0 H0 zb Hb ((evE e false env st).sr env fun x st => bif own then (match x with
        | ⟨true, .dat d⟩ => .nx (List.set env i (.own d)) st
        | _ => .no) else .nx (List.set env i (.val x.v)) st) D from h) fun x st1 g1 v H1 i1 s1 r1 h1 => ?_
    cases own with
    | false =>
      have h1 : ∀ g H σ, SI X.K g0 H0 zb Hb g H σ (List.set env i (.val x.v)) st1 → D.nx σ H := h1
      obtain ⟨g2, i2, r2⟩ := step_val si i1 s1 r1
      exact h1 g2 H1 _ (i2.setVal i r2)
    | true =>
      obtain ⟨fr, x⟩ := x
      cases fr <;> cases x <;> try exact h1.elim
      rename_i d
      have h1 : ∀ g H σ, SI X.K g0 H0 zb Hb g H σ (List.set env i (.own d)) st1 → D.nx σ H := h1
      obtain ⟨a, rfl, na, oa⟩ := r1
      refine h1 g1 H1 _ (i1.setOwn i oa (fun j d' hj e1 e2 => ?_) (si.s.gone a na))
      obtain ⟨z, ez, so⟩ := si.en.slot e1
      obtain ⟨b, rfl, ob⟩ := so
      rw [e2] at ez
      cases ez
      exact ob.ne na
  cases hsw : swB sc y py e' with
  | false =>
    refine WS.of (ps_set hN hi hl.1 pe_we (by rw [sw_name c.hk, c.sce, hsw]) hl.2) ?_
    exact he e' false _ (si.at_ c) h3 hr fin
  | true =>
    rw [hsw] at h4
    cases e <;> try exact no_false h4
    rename_i elt ow tg it ifs
    obtain ⟨a1, a2, a3⟩ := hlc _ _ _ _ _ rfl
    cases e' <;> try exact no_false h3
    rename_i elt' gs scope pos
    rcases gs with _ | ⟨⟨tg', it', ifs', n⟩, _ | ⟨_, _⟩⟩ <;> try exact no_false h3
    obtain ⟨hm, h18⟩ := cond_true h3
    obtain ⟨hm, h17⟩ := cond_true hm
    obtain ⟨hm, h16⟩ := cond_true hm
    obtain ⟨hm, h15⟩ := cond_true hm
    obtain ⟨hm, h14⟩ := cond_true hm
    obtain ⟨hm, h13⟩ := cond_true hm
    obtain ⟨h11, h12⟩ := cond_true hm
    have h11 : n = 0 := of_decide_eq_true h11
    subst h11
    have hfold : ∀ x, foldedSetIterable it' X.env x = pure x := by
      intro x
      cases it' <;> first | rfl | exact no_false h14
    have hloc : X.env.scope.names.lookup y = some .local := by
      rw [c.sce]
      have q := (cond_true (cond_true (show (sc.names.lookup y == some .local && py.line == pos.line && !(scope.names.any fun (n, k) => n == y && (k == .local || k == .cell))) = true from hsw)).1).1
      exact eq_of_beq q
    refine WS.of (ps_setLc c.c.calm hN hi hloc (by rw [sw_name c.hk, c.sce, hsw]) pi_wi (blk_ok c.c h12) pg_gB (pt_tB h16) pe_eB hfold) ?_
    exact lc_ok a1 a2 a3 false _ (si.at_ c) h12 h13 h15 h16 h17 h18 hr fin
end MP

/-! Statements: the model does what is reckoned. -/
namespace MP
open PySem PyProof.Rows L2 PySem.Spec

mutual
def tgSlots : Tg → List Nat
  | .nm i => [i]
  | .tup ts => tgsSlots ts
def tgsSlots : Tgs → List Nat
  | .nil => []
  | .cons t ts => tgSlots t ++ tgsSlots ts
end
mutual
theorem tgIn_slots : ∀ (t : Tg) {vs : List Nat}, (∀ i ∈ tgSlots t, i ∈ vs) → tgIn t vs = true
  | .nm i, vs, h => List.contains_iff_mem.mpr (h i (List.mem_singleton.mpr rfl))
  | .tup ts, vs, h => tgsIn_slots ts h
theorem tgsIn_slots : ∀ (t : Tgs) {vs : List Nat}, (∀ i ∈ tgsSlots t, i ∈ vs) → tgsIn t vs = true
  | .nil, vs, h => rfl
  | .cons t ts, vs, h => Bool.and_eq_true_iff.mpr ⟨tgIn_slots t fun i hi => h i (List.mem_append_left _ hi), tgsIn_slots ts fun i hi => h i (List.mem_append_right _ hi)⟩
end
mutual
theorem own_bind : ∀ (t : Tg) {d : MP.D} {env env' : Env} {j : Nat} {x : MP.D}, bindTg t d env = some env' → env'[j]? = some (.own x) → j ∉ tgSlots t ∧ env[j]? = some (.own x)
  | .nm i, d, env, env', j, x, h, e => by
    have h : some (List.set env i (.val (.dat d))) = some env' := h
    cases h
    obtain ⟨n, e⟩ := set_other (t := .un) (fun _ h => by cases h) e
    exact ⟨fun q => n (List.mem_singleton.mp q).symm, e⟩
  | .tup ts, d, env, env', j, x, h, e => by
    cases d <;> try exact no_some h
    · exact owns_bind ts h e
    · exact owns_bind ts h e
theorem owns_bind : ∀ (t : Tgs) {d : List MP.D} {env env' : Env} {j : Nat} {x : MP.D}, bindTgs t d env = some env' → env'[j]? = some (.own x) → j ∉ tgsSlots t ∧ env[j]? = some (.own x)
  | .nil, d, env, env', j, x, h, e => by
    cases d <;> try exact no_some h
    have h : some env = some env' := h
    cases h
    exact ⟨List.not_mem_nil, e⟩
  | .cons t ts, d, env, env', j, x, h, e => by
    cases d <;> try exact no_some h
    rename_i d ds
    have h : (match bindTg t d env with | some env' => bindTgs ts ds env' | none => none) = some env' := h
    cases h1 : bindTg t d env with
    | none =>
      rw [h1] at h
      exact no_some h
    | some env1 =>
      rw [h1] at h
      obtain ⟨n2, e2⟩ := owns_bind ts h e
      obtain ⟨n1, e1⟩ := own_bind t h1 e2
      exact ⟨fun q => (List.mem_append.mp q).elim n1 n2, e1⟩
end
theorem wipe_get {σ : L2.St} {j : Nat} : ∀ {vs : List Nat}, j ∉ vs → (L2.wipe σ vs)[j]? = σ[j]?
  | [], _ => rfl
  | v :: vs, h => by
    show ((L2.wipe σ vs).set v none)[j]? = _
    rw [List.getElem?_set_ne (fun e => h (by rw [e]; exact List.mem_cons_self)), wipe_get fun q => h (List.mem_cons_of_mem _ q)]
section
variable {K : PySem.W.Frag} {g0 g : G} {H0 Hb H : Hp} {zb : Addr → Prop} {st : Store} {σ : L2.St} {env env' : Env}
/-- a target's slots are stored -/
theorem si_tg {X : Cx} {W : WX} {N : List Str} {sc : Scope} {lv : Nat} {t : Tg} {e : Expr} {v : V} {d : MP.D} {Q : L2.St → Hp → Prop} (c : CtxOk X W N sc lv) (si : SI X.K g0 H0 zb Hb g H σ env st) (hm : mTg N t sc e = true) (r : RD X.K g.Z H v d) (hb : bindTg t d env = some env')
    (q : ∀ σ', SI X.K g0 H0 zb Hb g H σ' env' st → Q σ' H) : WG X e v σ H Q := by
  refine tg_ok c (tgSlots t) t hm si.en r hb fun σ' en' w => q σ' ⟨si.s, si.ok, en', fun i d a e1 e2 => ?_, si.h⟩
  obtain ⟨n, e3⟩ := own_bind t hb e1
  have w := w (tgIn_slots t fun _ h => h)
  refine si.new i d a e3 ?_
  have q1 : (L2.wipe σ (tgSlots t))[i]? = σ[i]? := wipe_get n
  have q2 : (L2.wipe σ' (tgSlots t))[i]? = σ'[i]? := wipe_get n
  rw [← q1, ← w, q2]
  exact e2
end
theorem sole_tuple {env : PySem.Env} {e : Expr} {ts : List Expr} {k : Nat} {p : Pos} {l : Nat} : swapsWithSole [.Tuple ts k p] e l env = pure false := sw_tuple (env := env) (e := e) (ts := ts) (k := k) (p := p) (l := l)

theorem sims_setT {ts : Tgs} {e : Ex} (he : SimE e) : SimS (.setT ts e) := by
  intro X W N sc lv g0 g H0 Hb H zb σ env st s D c si hm hr h
  cases s <;> try exact no_false hm
  rename_i us e' p
  rcases us with _ | ⟨t, _ | ⟨_, _⟩⟩ <;> (try exact no_false hm) <;> cases t <;> try exact no_false hm
  rename_i es k tp
  obtain ⟨hm, h3⟩ := cond_true hm
  obtain ⟨hT, h2⟩ := cond_true hm
  have h3 : ssB sc (.Tuple es k tp) e' = some none := of_decide_eq_true h3
  have hw : swappedStores [.Tuple es k tp] e' X.env = pure none := ss_ok c.hk (by rw [c.sce]; exact h3)
  refine WS.of (ps_asg pe_we pg_wg sole_tuple hw) ?_
  refine he e' false _ (si.at_ c) h2 hr (PostS.sr si h fun x st1 g1 v H1 i1 s1 r1 h1 => ?_)
  obtain ⟨d, ed, h1⟩ := h1.dat
  obtain ⟨g2, i2, r2⟩ := step_val si i1 s1 r1
  rw [ed] at r2
  cases hb : bindTg (.tup ts) d env with
  | none =>
    rw [hb] at h1
    exact h1.elim
  | some env' =>
    rw [hb] at h1
    exact si_tg (t := .tup ts) c.c i2 (show mTg N (.tup ts) sc (.Tuple es k tp) = true from hT) r2 hb fun σ' i3 => h1 g2 H1 σ' i3
theorem sims_par {ts : List Nat} {es : Exs} (hs : SimA es) : SimS (.par ts es) := by
  intro X W N sc lv g0 g H0 Hb H zb σ env st s D c si hm hr h
  cases s <;> try exact no_false hm
  rename_i us e' p
  rcases us with _ | ⟨t, _ | ⟨_, _⟩⟩ <;> (try exact no_false hm) <;> cases t <;> (try exact no_false hm) <;> cases e' <;> try exact no_false hm
  rename_i tl k tp vs k2 p2
  obtain ⟨h0, hm⟩ := cond_true hm
  have hN : X.N.Nodup := by rw [c.c.eN]; exact c.c.nd
  have run : ∀ (Q : List V → Hp → Prop), (∀ g1 H1 ds st1 us, SI X.K g0 H0 zb Hb g1 H1 σ env st1 → RDs X.K g1.Z H1 us ds → PostS X.K X.mg W g0 H0 zb Hb (match putVals ts ds env with
    | some env' => .nx env' st1
    | none => .no) D → Q us H1) → WA X vs σ H Q := fun Q q => hs vs Q (si.at_ c) h0 hr (PostS.sr si h fun ds st1 g1 us H1 i1 s1 r1 h1 => q g1 H1 ds st1 us i1 r1 h1)
  rcases ts with _ | ⟨i, _ | ⟨j, _ | ⟨l, _ | ⟨_, _⟩⟩⟩⟩ <;> try exact no_false hm
  · rcases tl with _ | ⟨t1, _ | ⟨t2, _ | ⟨_, _⟩⟩⟩ <;> (try (cases t1 <;> exact no_false hm)) <;> (try exact no_false hm) <;> cases t1 <;> (try exact no_false hm) <;> cases t2 <;> (try exact no_false hm)
    rename_i x px y py
    obtain ⟨hm, h7⟩ := cond_true hm
    obtain ⟨hm, h6⟩ := cond_true hm
    obtain ⟨hm, h5⟩ := cond_true hm
    obtain ⟨hm, h4⟩ := cond_true hm
    obtain ⟨hm, h3⟩ := cond_true hm
    obtain ⟨h1, h2⟩ := cond_true hm
    have h1 := of_decide_eq_true h1
    have h2 := of_decide_eq_true h2
    have h3 := of_decide_eq_true h3
    have h4 := of_decide_eq_true h4
    have h5 := of_decide_eq_true h5
    have h6 := of_decide_eq_true h6
    have h7 := of_decide_eq_true h7
    rcases vs with _ | ⟨a, _ | ⟨b, _ | ⟨_, _⟩⟩⟩ <;> try (cases h1)
    refine WS.of (ps_par c.c.calm hN (by rw [c.c.eN]; exact h2) (by rw [c.c.eN]; exact h3) h4 (by rw [c.sce]; exact h5) (by rw [c.sce]; exact h6) pa_wa (ss_ok c.hk (by rw [c.sce]; exact h7)) sole_tuple) ?_
    refine run _ fun g1 H1 ds st1 us i1 r1 h1 => ?_
    rcases ds with _ | ⟨d1, _ | ⟨d2, _ | ⟨_, _⟩⟩⟩ <;> try exact h1.elim
    obtain _ | ⟨r1, _ | ⟨r2, _⟩⟩ := r1
    rename_i v w us hus
    cases hus
    exact ⟨v, w, rfl, h1 g1 H1 _ ((i1.setVal (x := .dat d1) i r1).setVal (x := .dat d2) j r2)⟩
  · rcases tl with _ | ⟨t1, _ | ⟨t2, _ | ⟨t3, _ | ⟨_, _⟩⟩⟩⟩ <;> (try exact no_false hm) <;> cases t1 <;> (try exact no_false hm) <;> cases t2 <;> (try exact no_false hm) <;> cases t3 <;> (try exact no_false hm)
    rename_i x px y py z pz
    obtain ⟨hm, h11⟩ := cond_true hm
    obtain ⟨hm, h10⟩ := cond_true hm
    obtain ⟨hm, h9⟩ := cond_true hm
    obtain ⟨hm, h8⟩ := cond_true hm
    obtain ⟨hm, h7⟩ := cond_true hm
    obtain ⟨hm, h6⟩ := cond_true hm
    obtain ⟨hm, h5⟩ := cond_true hm
    obtain ⟨hm, h4⟩ := cond_true hm
    obtain ⟨hm, h3⟩ := cond_true hm
    obtain ⟨h1, h2⟩ := cond_true hm
    have h1 := of_decide_eq_true h1
    have h2 := of_decide_eq_true h2
    have h3 := of_decide_eq_true h3
    have h4 := of_decide_eq_true h4
    have h5 := of_decide_eq_true h5
    have h6 := of_decide_eq_true h6
    have h7 := of_decide_eq_true h7
    have h8 := of_decide_eq_true h8
    have h9 := of_decide_eq_true h9
    have h10 := of_decide_eq_true h10
    have h11 := of_decide_eq_true h11
    rcases vs with _ | ⟨a, _ | ⟨b, _ | ⟨b3, _ | ⟨_, _⟩⟩⟩⟩ <;> try (cases h1)
    refine WS.of (ps_par3 c.c.calm hN (by rw [c.c.eN]; exact h2) (by rw [c.c.eN]; exact h3) (by rw [c.c.eN]; exact h4) h5 h6 h7 (by rw [c.sce]; exact h8) (by rw [c.sce]; exact h9) (by rw [c.sce]; exact h10) pa_wa (ss_ok c.hk (by rw [c.sce]; exact h11)) sole_tuple) ?_
    refine run _ fun g1 H1 ds st1 us i1 r1 h1 => ?_
    rcases ds with _ | ⟨d1, _ | ⟨d2, _ | ⟨d3, _ | ⟨_, _⟩⟩⟩⟩ <;> try exact h1.elim
    obtain _ | ⟨r1, _ | ⟨r2, _ | ⟨r3, _⟩⟩⟩ := r1
    rename_i u v w us hus
    cases hus
    exact ⟨_, _, _, rfl, h1 g1 H1 _ (((i1.setVal (x := .dat d1) i r1).setVal (x := .dat d2) j r2).setVal (x := .dat d3) l r3)⟩

/-! ### new lists stored by a tuple of targets -/
inductive RSl (K : PySem.W.Frag) (g : G) (H H0 : Hp) : List V → List Slot → Prop
  | nil : RSl K g H H0 [] []
  | val {v : V} {d : MP.D} {vs : List V} {ss : List Slot} : RD K g.Z H v d → RSl K g H H0 vs ss → RSl K g H H0 (v :: vs) (.val (.dat d) :: ss)
  | own {a : Addr} {d : MP.D} {vs : List V} {ss : List Slot} : H0 a = none → OwnAt K g H a d → (∀ (i : Nat) d', ss[i]? = some (.own d') → vs[i]? ≠ some (.ref a)) → RSl K g H H0 vs ss → RSl K g H H0 (.ref a :: vs) (.own d :: ss)
section
variable {K : PySem.W.Frag} {mg : Str → Option Value} {g g1 g0 : G} {H H0 H1 H2 Hb : Hp} {zb : Addr → Prop} {st st1 : Store} {σ : L2.St} {env env' : Env}
theorem RSl.none : ∀ {vs : List V} {ss : List Slot} {i : Nat} {d : MP.D} {a : Addr}, RSl K g H H0 vs ss → ss[i]? = some (.own d) → vs[i]? = some (.ref a) → H0 a = Option.none
  | _, _, _, _, _, .nil, e, _ => by simp at e
  | _, _, 0, _, _, .val _ _, e, _ => by simp at e
  | _, _, 0, _, _, .own n _ _ _, e, q => by
    simp at q
    subst q
    exact n
  | _, _, i + 1, _, _, .val _ r, e, q => RSl.none (i := i) r (by simpa using e) (by simpa using q)
  | _, _, i + 1, _, _, .own _ _ _ r, e, q => RSl.none (i := i) r (by simpa using e) (by simpa using q)
theorem RSl.base (h : ∀ a, H1 a = Option.none → H0 a = Option.none) : ∀ {vs : List V} {ss : List Slot}, RSl K g H H1 vs ss → RSl K g H H0 vs ss
  | _, _, .nil => .nil
  | _, _, .val r t => .val r (t.base h)
  | _, _, .own n o p t => .own (h _ n) o p (t.base h)
abbrev relS (K : PySem.W.Frag) : Hp → G → Hp → List V → List Slot → Prop := fun H0 g H v x => RSl K g H H0 v x
theorem based_s : Based (relS K) := fun _ _ _ _ _ _ h r => r.base h
def SimR (fs : List Bool) (m : Exs) : Prop := ∀ {X : Cx} {W : WX} {N : List Str} {sc : Scope} {lv : Nat} {g : G} {H : Hp} {σ : L2.St} {env : Env} {st : Store} (es : List Expr) (Q : List V → Hp → Prop), At X W N sc lv g H σ env st → mEs N m sc es = true → Rqs X lv (rqEs m) →
  Post X.K X.mg (WS_ W σ) (relS X.K) g H (evR fs m env st) Q → WA X es σ H Q
theorem Post.two {α β γ δ : Type} {W : Value → Option Addr → Hp → Prop} {Rl : Hp → G → Hp → β → α → Prop} {Rm : Hp → G → Hp → δ → γ → Prop} {r : R α} {f : α → Store → R γ} {Q : δ → Hp → Prop} {Q1 : β → Hp → Prop} (s1 : Step g H g1 H1) (h : Post K mg W Rm g H (r.bind f) Q)
    (k : ∀ x st g3 v H3, Step g1 H1 g3 H3 → Ok K g3 H3 st → Rl H1 g3 H3 v x → Post K mg W Rm g H (f x st) Q → Q1 v H3) : Post K mg W Rl g1 H1 r Q1 := by
  cases r with
  | ok x st => exact fun g' v H' s o q => k x st g' v H' s o q h
  | exc c ds st => exact fun g' cls d H' s o q => h g' cls d H' (s1.trans s) o q
  | no => exact h
theorem simR_nil : SimR [] .nil := by
  intro X W N sc lv g H σ env st es Q at_ hm hr h
  cases es <;> try exact no_false hm
  exact WA.of pa_nil (h g [] H .refl at_.ok .nil)
theorem simR_no {fs : List Bool} {m : Exs} (hn : ∀ env st, evR fs m env st = .no) : SimR fs m := by
  intro X W N sc lv g H σ env st es Q at_ hm hr h
  rw [hn] at h
  exact h.elim
theorem simR_cons {b : Bool} {fs : List Bool} {e : Ex} {es : Exs} (ih : SimR fs es) : SimR (b :: fs) (.cons e es) := by
  intro X W N sc lv g H σ env st l Q at_ hm hr h
  cases l <;> try exact no_false hm
  rename_i e' r'
  obtain ⟨hm, h3⟩ := cond_true hm
  obtain ⟨h1, h2⟩ := cond_true hm
  have h : Post X.K X.mg (WS_ W σ) (relS X.K) g H ((evE e false env st).bind fun x st => bif b then (match x with
    | ⟨true, .dat d⟩ => (evR fs es env st).bind fun ss st => .ok (.own d :: ss) st
    | _ => .no) else (datOf x st).bind fun d st => (evR fs es env st).bind fun ss st => .ok (.val (.dat d) :: ss) st) Q := h
  refine WA.of (pa_cons pe_we pa_wa (starEach_cons h1)) ((sim e).1 e' false _ at_ h2 hr.left (Post.two .refl h fun x st1 g1 v H1 s1 o1 r1 h1 => ?_))
  cases b with
  | false =>
    have h1 : Post X.K X.mg (WS_ W σ) (relS X.K) g H ((datOf x st1).bind fun d st => (evR fs es env st).bind fun ss st => .ok (.val (.dat d) :: ss) st) Q := h1
    obtain ⟨d, ed, h1⟩ := Post.dat h1
    obtain ⟨g2, s2, o2, r2, _⟩ := r1.frozen s1 o1 ed
    refine ih r' _ (at_.on s2 o2) h3 hr.right (Post.two s2 h1 fun vs st3 g3 us H3 s3 o3 r3 h3 => ?_)
    exact h3 g3 (v :: us) H3 (s2.trans s3) o3 (.val (RD.holds (s3.holds o2) r2) (r3.base fun a q => s2.gone a q))
  | true =>
    obtain ⟨fr, y⟩ := x
    cases fr with
    | false => exact (show False from h1).elim
    | true =>
      cases y with
      | loc _ => exact (show False from h1).elim
      | dat d =>
        obtain ⟨a, rfl, n0, oa⟩ := r1
        refine ih r' _ (at_.on s1 o1) h3 hr.right (Post.two s1 h1 fun vs st3 g3 us H3 s3 o3 r3 h3 => ?_)
        refine h3 g3 (.ref a :: us) H3 (s1.trans s3) o3 (.own n0 (oa.step s3 o1) (fun i d' e1 e2 => ?_) (r3.base fun a q => s1.gone a q))
        exact oa.ne (r3.none e1 e2)
theorem simR : ∀ (fs : List Bool) (m : Exs), SimR fs m
  | [], .nil => simR_nil
  | _ :: _, .nil => simR_no fun _ _ => rfl
  | [], .cons _ _ => simR_no fun _ _ => rfl
  | [], .star _ _ => simR_no fun _ _ => rfl
  | _ :: _, .star _ _ => simR_no fun _ _ => rfl
  | _ :: fs, .cons _ es => simR_cons (simR fs es)
def putV : List Nat → List V → L2.St → L2.St
  | i :: is, v :: vs, σ => putV is vs (σ.set i (some v))
  | _, _, σ => σ
theorem si_puts (hg : ∀ a, H1 a = none → H0 a = none) : ∀ (ts : List Nat) {us : List V} {ss : List Slot} {σ : L2.St} {env env' : Env}, SI K g0 H0 zb Hb g H σ env st → RSl K g H H1 us ss →
    (∀ (j : Nat) d b a d' (m : Nat), env[j]? = some (.own d) → σ[j]? = some (some (.ref b)) → ss[m]? = some (.own d') → us[m]? = some (.ref a) → b ≠ a) → putSlots ts ss env = some env' → SI K g0 H0 zb Hb g H (putV ts us σ) env' st ∧ us.length = ts.length
  | [], us, ss, σ, env, env', si, r, ap, hp => by
    cases r with
    | nil =>
      cases hp
      exact ⟨si, rfl⟩
    | val _ _ => cases hp
    | own _ _ _ _ => cases hp
  | i :: is, us, ss, σ, env, env', si, r, ap, hp => by
    cases r with
    | nil => cases hp
    | val r1 r2 =>
      rename_i v d vs ss
      obtain ⟨h1, h2⟩ := si_puts hg is (si.setVal (x := .dat d) i r1) r2 (fun j d' b a d'' m e1 e2 e3 e4 => by
        obtain ⟨n, e1⟩ := set_other (t := .un) (fun _ h => by cases h) e1
        rw [List.getElem?_set_ne n] at e2
        exact ap j d' b a d'' (m + 1) e1 e2 (by simpa using e3) (by simpa using e4)) hp
      exact ⟨h1, congrArg Nat.succ h2⟩
    | own n0 oa pa r2 =>
      rename_i a d vs ss
      have far : ∀ (j : Nat) (d' : MP.D), j ≠ i → env[j]? = some (Slot.own d') → σ[j]? ≠ some (some (V.ref a)) := fun j d' _ e1 e2 => ap j d' a a d 0 e1 e2 rfl rfl rfl
      obtain ⟨h1, h2⟩ := si_puts hg is (si.setOwn i oa far (hg a n0)) r2 (fun j d' b c d'' m e1 e2 e3 e4 => by
        by_cases hj : i = j
        · subst hj
          rw [List.getElem?_set] at e2
          split at e2
          · split at e2
            · cases e2
              exact fun q => pa m d'' e3 (q ▸ e4)
            · cases e2
          · rename_i h
            exact absurd rfl h
        · rw [List.getElem?_set_ne hj] at e1 e2
          exact ap j d' b c d'' (m + 1) e1 e2 (by simpa using e3) (by simpa using e4)) hp
      exact ⟨h1, congrArg Nat.succ h2⟩
end
theorem sims_parO {ts : List Nat} {fs : List Bool} {es : Exs} : SimS (.parO ts fs es) := by
  intro X W N sc lv g0 g H0 Hb H zb σ env st s D c si hm hr h
  cases s <;> try exact no_false hm
  rename_i us e' p
  rcases us with _ | ⟨t, _ | ⟨_, _⟩⟩ <;> (try exact no_false hm) <;> cases t <;> (try exact no_false hm) <;> cases e' <;> try exact no_false hm
  rename_i tl k tp vs k2 p2
  obtain ⟨h0, hm⟩ := cond_true hm
  have hN : X.N.Nodup := by rw [c.c.eN]; exact c.c.nd
  have run : ∀ (Q : List V → Hp → Prop), (∀ g1 H1 ss st1 us, SI X.K g0 H0 zb Hb g1 H1 σ env st1 → RSl X.K g1 H1 H us ss → (∀ (j : Nat) (d : MP.D) (b : Addr), env[j]? = some (Slot.own d) → σ[j]? = some (some (V.ref b)) → H b ≠ none) → (∀ a, H a = none → H0 a = none) → PostS X.K X.mg W g0 H0 zb Hb (match putSlots ts ss env with
    | some env' => .nx env' st1
    | none => .no) D → Q us H1) → WA X vs σ H Q := fun Q q => simR fs es vs Q (si.at_ c) h0 hr (PostS.sr si h fun ss st1 g1 us H1 i1 s1 r1 h1 => q g1 H1 ss st1 us i1 r1 (fun j d b e1 e2 => by
      obtain ⟨x, ex, so⟩ := si.en.slot e1
      rw [e2] at ex
      cases ex
      obtain ⟨a, ea, oa⟩ := so
      cases ea
      exact oa.ne) si.s.gone h1)
  rcases ts with _ | ⟨i, _ | ⟨j, _ | ⟨l, _ | ⟨_, _⟩⟩⟩⟩ <;> try exact no_false hm
  · rcases tl with _ | ⟨t1, _ | ⟨t2, _ | ⟨_, _⟩⟩⟩ <;> (try (cases t1 <;> exact no_false hm)) <;> (try exact no_false hm) <;> cases t1 <;> (try exact no_false hm) <;> cases t2 <;> (try exact no_false hm)
    rename_i x px y py
    obtain ⟨hm, h7⟩ := cond_true hm
    obtain ⟨hm, h6⟩ := cond_true hm
    obtain ⟨hm, h5⟩ := cond_true hm
    obtain ⟨hm, h4⟩ := cond_true hm
    obtain ⟨hm, h3⟩ := cond_true hm
    obtain ⟨h1, h2⟩ := cond_true hm
    have h1 := of_decide_eq_true h1
    have h2 := of_decide_eq_true h2
    have h3 := of_decide_eq_true h3
    have h4 := of_decide_eq_true h4
    have h5 := of_decide_eq_true h5
    have h6 := of_decide_eq_true h6
    have h7 := of_decide_eq_true h7
    rcases vs with _ | ⟨a, _ | ⟨b, _ | ⟨_, _⟩⟩⟩ <;> try (cases h1)
    refine WS.of (ps_par c.c.calm hN (by rw [c.c.eN]; exact h2) (by rw [c.c.eN]; exact h3) h4 (by rw [c.sce]; exact h5) (by rw [c.sce]; exact h6) pa_wa (ss_ok c.hk (by rw [c.sce]; exact h7)) sole_tuple) ?_
    refine run _ fun g1 H1 ss st1 us i1 r1 ho hg h1 => ?_
    cases hp : putSlots [i, j] ss env with
    | none =>
      rw [hp] at h1
      exact h1.elim
    | some env' =>
      rw [hp] at h1
      obtain ⟨i2, hl⟩ := si_puts hg [i, j] i1 r1 (fun k d b a d' m e1 e2 e3 e4 q => ho k d b e1 e2 (q ▸ r1.none e3 e4)) hp
      match us, hl with
      | [v, w], _ => exact ⟨v, w, rfl, h1 g1 H1 _ i2⟩
  · rcases tl with _ | ⟨t1, _ | ⟨t2, _ | ⟨t3, _ | ⟨_, _⟩⟩⟩⟩ <;> (try exact no_false hm) <;> cases t1 <;> (try exact no_false hm) <;> cases t2 <;> (try exact no_false hm) <;> cases t3 <;> (try exact no_false hm)
    rename_i x px y py z pz
    obtain ⟨hm, h11⟩ := cond_true hm
    obtain ⟨hm, h10⟩ := cond_true hm
    obtain ⟨hm, h9⟩ := cond_true hm
    obtain ⟨hm, h8⟩ := cond_true hm
    obtain ⟨hm, h7⟩ := cond_true hm
    obtain ⟨hm, h6⟩ := cond_true hm
    obtain ⟨hm, h5⟩ := cond_true hm
    obtain ⟨hm, h4⟩ := cond_true hm
    obtain ⟨hm, h3⟩ := cond_true hm
    obtain ⟨h1, h2⟩ := cond_true hm
    have h1 := of_decide_eq_true h1
    have h2 := of_decide_eq_true h2
    have h3 := of_decide_eq_true h3
    have h4 := of_decide_eq_true h4
    have h5 := of_decide_eq_true h5
    have h6 := of_decide_eq_true h6
    have h7 := of_decide_eq_true h7
    have h8 := of_decide_eq_true h8
    have h9 := of_decide_eq_true h9
    have h10 := of_decide_eq_true h10
    have h11 := of_decide_eq_true h11
    rcases vs with _ | ⟨a, _ | ⟨b, _ | ⟨b3, _ | ⟨_, _⟩⟩⟩⟩ <;> try (cases h1)
    refine WS.of (ps_par3 c.c.calm hN (by rw [c.c.eN]; exact h2) (by rw [c.c.eN]; exact h3) (by rw [c.c.eN]; exact h4) h5 h6 h7 (by rw [c.sce]; exact h8) (by rw [c.sce]; exact h9) (by rw [c.sce]; exact h10) pa_wa (ss_ok c.hk (by rw [c.sce]; exact h11)) sole_tuple) ?_
    refine run _ fun g1 H1 ss st1 us i1 r1 ho hg h1 => ?_
    cases hp : putSlots [i, j, l] ss env with
    | none =>
      rw [hp] at h1
      exact h1.elim
    | some env' =>
      rw [hp] at h1
      obtain ⟨i2, hl⟩ := si_puts hg [i, j, l] i1 r1 (fun k d b a d' m e1 e2 e3 e4 q => ho k d b e1 e2 (q ▸ r1.none e3 e4)) hp
      match us, hl with
      | [u, v, w], _ => exact ⟨_, _, _, rfl, h1 g1 H1 _ i2⟩
end MP

/-! Statements: branches, loops, lists of one's own. -/
namespace MP
open PySem PyProof.Rows L2 PySem.Spec

theorem sims_aug {i : Nat} {o : Op2} {e : Ex} (he : SimE e) : SimS (.aug i o e) := by
  intro X W N sc lv g0 g H0 Hb H zb σ env st s D c si hm hr h
  cases s <;> try exact no_false hm
  rename_i t op e' p
  cases t <;> try exact no_false hm
  rename_i x px
  obtain ⟨hm, h4⟩ := cond_true hm
  obtain ⟨hm, h3⟩ := cond_true hm
  obtain ⟨h1, h2⟩ := cond_true hm
  have h1 : N[i]? = some x := of_decide_eq_true h1
  have hl := c.c.loc h2
  have hN : X.N.Nodup := by rw [c.c.eN]; exact c.c.nd
  have hi : X.N[i]? = some x := by rw [c.c.eN]; exact h1
  cases hs : env[i]? with
  | none =>
    simp only [evS, hs] at h
    exact h.elim
  | some sl =>
    cases sl with
    | un =>
      simp only [evS, hs] at h
      exact h.elim
    | own _ =>
      simp only [evS, hs] at h
      exact h.elim
    | val w =>
      cases w with
      | loc n =>
        simp only [evS, hs] at h
        exact h.elim
      | dat w =>
        cases w <;> (try (simp only [evS, hs] at h; exact h.elim))
        rename_i a
        simp only [evS, hs] at h
        obtain ⟨w, hw, so⟩ := si.en.slot hs
        obtain ⟨v, rfl, rv⟩ := so
        have ev : v = .int a := RT.int (.inl rv)
        subst ev
        have fin : ∀ (f : Int → Int → Int), (∀ a b : Int, augI o a b = some (f a b)) → WE X e' σ H fun y H1 => ipI f (.int a) y H1 fun z H2 => D.nx (σ.set i (some z)) H2 := by
          intro f hf
          refine he e' true _ (si.at_ c) h3 hr (PostS.sr si h fun y st1 g1 u H1 i1 s1 r1 h1 => ?_)
          obtain ⟨b, ed, h1⟩ := h1.int
          rw [hf] at h1
          have eu := (r1.rt ed).int
          subst eu
          exact ⟨a, b, rfl, rfl, h1 g1 H1 _ (i1.setVal (x := .dat (.int (f a b))) i (.int _))⟩
        cases o <;> (try exact no_false h4) <;> cases op <;> try exact no_false h4
        · exact WS.of (ps_aug hN hi hl.1 pe_we ip_add hl.2) ⟨_, hw, fin _ fun _ _ => rfl⟩
        · exact WS.of (ps_aug hN hi hl.1 pe_we ip_sub hl.2) ⟨_, hw, fin _ fun _ _ => rfl⟩
theorem sims_ite {e : Ex} {a b : Sms} (he : SimT e) (ha : SimSs a) (hb : SimSs b) : SimS (.ite e a b) := by
  intro X W N sc lv g0 g H0 Hb H zb σ env st s D c si hm hr h
  cases s <;> try exact no_false hm
  rename_i e' a' b' p
  obtain ⟨hm, h3⟩ := cond_true hm
  obtain ⟨h1, h2⟩ := cond_true hm
  have h : PostS X.K X.mg W g0 H0 zb Hb ((evE e true env st).sr env fun x st => (boolOf x st).sr env fun k st => bif k then evSs a env st else evSs b env st) D := h
  rw [← bind_sr (f := boolOf)] at h
  refine WS.of (ps_if pt_wt pss_wss pss_wss) ((he e' _ (si.at_ c) h1 hr.left (PostS.sr si h fun k st1 g1 k' H1 i1 s1 r1 h1' => ?_)).1)
  have r1 : k' = k := r1
  subst r1
  cases k' with
  | true =>
    rw [if_pos rfl]
    exact ha a' D c i1 h2 hr.right.left h1'
  | false =>
    simp only [if_neg Bool.false_ne_true]
    exact hb b' D c i1 h3 hr.right.right h1'
theorem sims_whil {e : Ex} {b : Sms} (he : SimT e) (hb : SimSs b) : SimS (.whil e b) := by
  intro X W N sc lv g0 g H0 Hb H zb σ env st s D c si hm hr h
  cases s <;> try exact no_false hm
  rename_i e' b' o p
  obtain ⟨hm, h3⟩ := cond_true hm
  obtain ⟨h1, h2⟩ := cond_true hm
  cases o with
  | cons _ _ => exact no_false h3
  | nil =>
    refine WS.of (ps_while c.c.passes pt_wt pss_wss) ?_
    refine ⟨fun m σ H => ∃ g env st, SI X.K g0 H0 zb Hb g H σ env st ∧ PostS X.K X.mg W g0 H0 zb Hb (whileL (fun env st => (evE e true env st).bind fun x st => boolOf x st) (evSs b) m env st) D, ⟨WF, g, env, st, si, h⟩, ?_⟩
    rintro m σ H ⟨g, env, st, si, h⟩
    cases m with
    | zero => exact h.elim
    | succ m =>
      refine (he e' _ (si.at_ c) h1 hr.left (PostS.sr si (show PostS X.K X.mg W g0 H0 zb Hb (((evE e true env st).bind fun x st => boolOf x st).sr env fun k st => bif k then turn (evSs b env st) (whileL (fun env st => (evE e true env st).bind fun x st => boolOf x st) (evSs b) m) else .nx env st) D from h) fun k st1 g1 k' H1 i1 s1 r1 h1' => ?_)).1
      have r1 : k' = k := r1
      subst r1
      cases k' with
      | true =>
        rw [if_pos rfl]
        refine ⟨fun σ H => ∃ g env st, SI X.K g0 H0 zb Hb g H σ env st ∧ PostS X.K X.mg W g0 H0 zb Hb (whileL (fun env st => (evE e true env st).bind fun x st => boolOf x st) (evSs b) m env st) D, fun σ' H' q => ⟨m, Nat.lt_succ_self m, q⟩, ?_⟩
        exact hb b' _ c i1 h2 hr.right (PostS.turn h1' fun env st g H σ i q => ⟨g, env, st, i, q⟩)
      | false =>
        simp only [if_neg Bool.false_ne_true]
        exact h1' g1 H1 σ i1
theorem sims_for {tg : Tg} {it : It} {b : Sms} (hi : SimI it) (hb : SimSs b) : SimS (.forr tg it b) := by
  intro X W N sc lv g0 g H0 Hb H zb σ env st s D c si hm hr h
  cases s <;> try exact no_false hm
  rename_i tg' it' b' o p
  obtain ⟨hm, h5⟩ := cond_true hm
  obtain ⟨hm, h4⟩ := cond_true hm
  obtain ⟨hm, h3⟩ := cond_true hm
  obtain ⟨h1, h2⟩ := cond_true hm
  cases o with
  | cons _ _ => exact no_false h5
  | nil =>
    have hfold : ∀ x, foldedSetIterable it' X.env x = pure x := by
      intro x
      cases it' <;> first | rfl | exact no_false h2
    refine WS.of (ps_for c.c.passes c.c.calm pi_wi pg_wg pss_wss hfold) ?_
    refine hi tg' it' _ (si.at_ c) h3 hr.left (PostS.sr si h fun items st1 g1 J H1 i1 s1 pres h1' => ?_)
    have pres : Pres X.K g1 H1 J items := pres
    refine ⟨fun i m σ H => i + m = items.length ∧ ∃ g env st, SI X.K g0 H0 g1.Z H1 g H σ env st ∧ PostS X.K X.mg W g0 H0 g1.Z H1 (forL tg (evSs b) (items.drop i) env st) D, ⟨items.length, Nat.zero_add _, g1, env, st1, ⟨i1.s, i1.ok, i1.en, i1.new, .refl⟩, by rw [List.drop_zero]; exact h1'.rebase i1.h⟩, ?_⟩
    rintro i m σ H ⟨him, g, env, st, si, h⟩
    by_cases hlt : i < items.length
    · refine .inr ⟨pres.go g H i si.h hlt, fun σ H => ∃ m', m' < m ∧ (i + 1) + m' = items.length ∧ ∃ g env st, SI X.K g0 H0 g1.Z H1 g H σ env st ∧ PostS X.K X.mg W g0 H0 g1.Z H1 (forL tg (evSs b) (items.drop (i + 1)) env st) D, fun σ' H' ⟨m', hm', q⟩ => ⟨m', hm', q⟩, fun x H2 hy => ?_⟩
      obtain ⟨d, hd, sy, oy, rx⟩ := pres.yld g H st i x H2 si.h si.ok hy hlt
      have hdrop : items.drop i = d :: items.drop (i + 1) := by
        have e := List.drop_eq_getElem_cons hlt
        rw [List.getElem?_eq_getElem hlt] at hd
        rw [e, Option.some.inj hd]
      rw [hdrop] at h
      have i2 := si.step sy oy
      have h : PostS X.K X.mg W g0 H0 g1.Z H1 (match bindTg tg d env with
        | none => .no
        | some env' => turn (evSs b env' st) (forL tg (evSs b) (items.drop (i + 1)))) D := h
      cases hbt : bindTg tg d env with
      | none =>
        rw [hbt] at h
        exact h.elim
      | some env' =>
        rw [hbt] at h
        refine si_tg c.c i2 h1 rx hbt fun σ' i3 => ?_
        exact hb b' _ c i3 h4 hr.right (PostS.turn h fun env st g H σ i q => ⟨m - 1, by omega, by omega, g, env, st, i, q⟩)
    · refine .inl ⟨?_, ?_⟩
      · have e : i = items.length := by omega
        subst e
        exact pres.stop g H si.h
      · have e : items.drop i = [] := List.drop_eq_nil_of_le (by omega)
        rw [e] at h
        exact h g H σ si
end MP

/-! Statements: lists of one's own, cells; all together. -/
namespace MP
open PySem PyProof.Rows L2 PySem.Spec

/-- a slot with a list of ours -/
theorem own_slot {K : PySem.W.Frag} {g0 g : G} {H0 Hb H : Hp} {zb : Addr → Prop} {st : Store} {σ : L2.St} {env : Env} {i : Nat} {xs : List MP.D} (si : SI K g0 H0 zb Hb g H σ env st) (hs : env[i]? = some (.own (.list xs))) :
    ∃ a vs, σ[i]? = some (some (.ref a)) ∧ H a = some (.lst vs) ∧ RDs K g.Z H vs xs ∧ ¬ g.Z a ∧ a ∉ g.rho := by
  obtain ⟨x, ex, so⟩ := si.en.slot hs
  obtain ⟨a, rfl, vs, e, r, z, n⟩ := so
  exact ⟨a, vs, ex, e, r, z, n⟩
theorem sims_app {i : Nat} {e : Ex} (he : SimE e) : SimS (.app i e) := by
  intro X W N sc lv g0 g H0 Hb H zb σ env st s D c si hm hr h
  cases s <;> try exact no_false hm
  rename_i e0 p
  cases e0 <;> try exact no_false hm
  rename_i f args kws cp
  cases f <;> try exact no_false hm
  rename_i o m ap
  cases o <;> try exact no_false hm
  rename_i x px
  rcases args with _ | ⟨e', _ | ⟨_, _⟩⟩ <;> try exact no_false hm
  cases kws <;> try exact no_false hm
  obtain ⟨hm, h7⟩ := cond_true hm
  obtain ⟨hm, h6⟩ := cond_true hm
  obtain ⟨hm, h5⟩ := cond_true hm
  obtain ⟨hm, h4⟩ := cond_true hm
  obtain ⟨hm, h3⟩ := cond_true hm
  obtain ⟨h1, h2⟩ := cond_true hm
  have h1 : N[i]? = some x := of_decide_eq_true h1
  have h4 : m = "append" := of_decide_eq_true h4
  subst h4
  have h5 : ap.endLine = cp.line := of_decide_eq_true h5
  have hd := okName_debug h3
  cases hs : env[i]? with
  | none =>
    simp only [evS, hs] at h
    exact h.elim
  | some sl =>
    cases sl <;> (try (simp only [evS, hs] at h; exact h.elim))
    rename_i d
    cases d <;> (try (simp only [evS, hs] at h; exact h.elim))
    rename_i xs
    simp only [evS, hs] at h
    obtain ⟨a, vs, ex, ea, _⟩ := own_slot si hs
    refine WS.of (ps_expr (pe_bm PySem.F.plainAttrs_list PySem.F.slot_list_append PySem.F.type_list_append mt_append (pe_var (by rw [c.c.eN]; exact h1) (c.c.vis h2) hd.1 hd.2.1) (pa_cons pe_we pa_nil (starEach_cons h6)) rfl
      (by rw [starEach_cons h6]; rfl) (by rw [h5]; exact beq_self_eq_true _) (starEach_cons h6) rfl) rfl) ?_
    refine ⟨_, ex, .inl ⟨rfl, vs, .inl (.inl ea)⟩, ?_⟩
    refine he e' false _ (si.at_ c) h7 hr (PostS.sr si h fun y st1 g1 v H1 i1 s1 r1 h1 => ?_)
    obtain ⟨d, ed, h1⟩ := h1.dat
    obtain ⟨hz, h1⟩ := h1.cond
    obtain ⟨g2, i2, r2⟩ := step_val si i1 s1 r1
    rw [ed] at r2
    obtain ⟨a', vs', ex', ea', rd, nz, nr⟩ := own_slot i2 hs
    rw [ex] at ex'
    cases ex'
    exact ⟨a, vs', v, rfl, rfl, ea', by rw [rd.length]; exact of_decide_eq_true hz, h1 g2 _ σ (i2.mut hs ex ea' nz nr (rd.append (.cons r2 .nil)))⟩
theorem sims_popd {i : Nat} : SimS (.popd i) := by
  intro X W N sc lv g0 g H0 Hb H zb σ env st s D c si hm hr h
  cases s <;> try exact no_false hm
  rename_i e0 p
  cases e0 <;> try exact no_false hm
  rename_i f args kws cp
  cases f <;> try exact no_false hm
  rename_i o m ap
  cases o <;> try exact no_false hm
  rename_i x px
  cases args <;> cases kws <;> try exact no_false hm
  obtain ⟨hm, h5⟩ := cond_true hm
  obtain ⟨hm, h4⟩ := cond_true hm
  obtain ⟨hm, h3⟩ := cond_true hm
  obtain ⟨h1, h2⟩ := cond_true hm
  have h1 : N[i]? = some x := of_decide_eq_true h1
  have h4 : m = "pop" := of_decide_eq_true h4
  subst h4
  have h5 : ap.endLine = cp.line := of_decide_eq_true h5
  have hd := okName_debug h3
  cases hs : env[i]? with
  | none =>
    simp only [evS, hs] at h
    exact h.elim
  | some sl =>
    cases sl <;> (try (simp only [evS, hs] at h; exact h.elim))
    rename_i d
    cases d <;> (try (simp only [evS, hs] at h; exact h.elim))
    rename_i xs
    simp only [evS, hs] at h
    obtain ⟨a, vs, ex, ea, rd, nz, nr⟩ := own_slot si hs
    refine WS.of (ps_expr (pe_bm0 PySem.F.plainAttrs_list PySem.F.slot_list_pop PySem.F.type_list_pop mt_pop (pe_var (by rw [c.c.eN]; exact h1) (c.c.vis h2) hd.1 hd.2.1) rfl (by rw [h5]; exact beq_self_eq_true _)) rfl) ?_
    cases hl : xs.getLast? with
    | none =>
      rw [hl] at h
      exact h.elim
    | some d =>
      rw [hl] at h
      obtain ⟨w, hw, rw1⟩ := rd.last hl
      exact ⟨_, ex, .inl ⟨rfl, vs, .inl (.inl ea)⟩, a, vs, w, rfl, rfl, ea, hw, h g _ σ (si.mut hs ex ea nz nr rd.dropLast)⟩
theorem sims_clr {i : Nat} : SimS (.clr i) := by
  intro X W N sc lv g0 g H0 Hb H zb σ env st s D c si hm hr h
  cases s <;> try exact no_false hm
  rename_i e0 p
  cases e0 <;> try exact no_false hm
  rename_i f args kws cp
  cases f <;> try exact no_false hm
  rename_i o m ap
  cases o <;> try exact no_false hm
  rename_i x px
  cases args <;> cases kws <;> try exact no_false hm
  obtain ⟨hm, h5⟩ := cond_true hm
  obtain ⟨hm, h4⟩ := cond_true hm
  obtain ⟨hm, h3⟩ := cond_true hm
  obtain ⟨h1, h2⟩ := cond_true hm
  have h1 : N[i]? = some x := of_decide_eq_true h1
  have h4 : m = "clear" := of_decide_eq_true h4
  subst h4
  have h5 : ap.endLine = cp.line := of_decide_eq_true h5
  have hd := okName_debug h3
  cases hs : env[i]? with
  | none =>
    simp only [evS, hs] at h
    exact h.elim
  | some sl =>
    cases sl <;> (try (simp only [evS, hs] at h; exact h.elim))
    rename_i d
    cases d <;> (try (simp only [evS, hs] at h; exact h.elim))
    rename_i xs
    simp only [evS, hs] at h
    obtain ⟨a, vs, ex, ea, rd, nz, nr⟩ := own_slot si hs
    refine WS.of (ps_expr (pe_bm0 PySem.F.plainAttrs_list PySem.F.slot_list_clear PySem.F.type_list_clear mt_clear (pe_var (by rw [c.c.eN]; exact h1) (c.c.vis h2) hd.1 hd.2.1) rfl (by rw [h5]; exact beq_self_eq_true _)) rfl) ?_
    exact ⟨_, ex, .inl ⟨rfl, vs, .inl (.inl ea)⟩, a, vs, rfl, rfl, ea, h g _ σ (si.mut hs ex ea nz nr .nil)⟩
theorem sims_rais {x : Str} : SimS (.rais x) := by
  intro X W N sc lv g0 g H0 Hb H zb σ env st s D c si hm hr h
  cases s <;> try exact no_false hm
  rename_i eo co p
  rcases eo with _ | e <;> try exact no_false hm
  cases e <;> try exact no_false hm
  rename_i f args kws cp
  cases f <;> cases args <;> cases kws <;> cases co <;> try exact no_false hm
  rename_i y py
  obtain ⟨hm, h3⟩ := cond_true hm
  obtain ⟨h1, h2⟩ := cond_true hm
  have h1 : x = y := of_decide_eq_true h1
  subst h1
  obtain ⟨hl, C, gC, T, _⟩ := hr.head
  have hd := okName_debug h3
  refine WS.of (ps_raise c.c.calm c.c.takes (pmk0 (k := 0) T gC (c.c.room.mono hl) (c.c.gl h2) hd.1)) ?_
  exact h g H σ (.ref C) none si ⟨gC, trivial⟩
theorem isCE_cases {e : Ex} (h : isCE e = true) : (∃ l, e = .cst l) ∨ ∃ z, e = .tup (.cons (.cst (.str z)) .nil) := by
  unfold isCE at h
  split at h
  · exact .inl ⟨_, rfl⟩
  · exact .inr ⟨_, rfl⟩
  · cases h
theorem sims_tryR {b : Sms} {x : Str} {e : Ex} (hb : SimSs b) : SimS (.tryR b x e) := by
  intro X W N sc lv g0 g H0 Hb H zb σ env st s D c si hm hr h
  cases s <;> try exact no_false hm
  rename_i body hs oe fb p
  rcases hs with _ | ⟨hd, tl2⟩
  · exact no_false hm
  rcases hd with ⟨ty, nm, suite, hp⟩
  rcases ty with _ | ty <;> try exact no_false hm
  cases ty <;> try exact no_false hm
  rename_i y py
  cases nm <;> try exact no_false hm
  rcases suite with _ | ⟨s1, tl⟩ <;> try exact no_false hm
  cases s1 <;> try exact no_false hm
  rename_i ro rp
  rcases ro with _ | e' <;> try exact no_false hm
  cases tl <;> try exact no_false hm
  cases tl2 <;> try exact no_false hm
  cases oe <;> cases fb <;> try exact no_false hm
  obtain ⟨hm, h6⟩ := cond_true hm
  obtain ⟨hm, h5⟩ := cond_true hm
  obtain ⟨hm, h4⟩ := cond_true hm
  obtain ⟨hm, h3⟩ := cond_true hm
  obtain ⟨h1, h2⟩ := cond_true hm
  have h2 : x = y := of_decide_eq_true h2
  subst h2
  obtain ⟨hl, C, gC, T, ex⟩ := hr.head
  have hdn := okName_debug h4
  have rb : Rqs X lv (rqSs b) := hr.tail.left
  -- the suite
  let ts : Addr → Value → Option Addr → TS := fun a cls d D σ H => ∀ oe pn, Zc cls d oe → (∃ vs, oe.data = .fields vs) → WSs (X.suite a ((a, oe) :: pn)) [.Return (some e') rp] D σ H
  have suite : ∀ (env' : Env) (st' : Store) (g1 : G) (H1 : Hp) (σ1 : L2.St), SI X.K g0 H0 zb Hb g1 H1 σ1 env' st' → PostS X.K X.mg W g0 H0 zb Hb ((evE e false env' st').sr env' fun x st => .rt x st) D → ∀ a cls d, ts a cls d D σ1 H1 := by
    intro env' st' g1 H1 σ1 i1 hp a cls d oe pn hz hf
    rcases isCE_cases h5 with ⟨l, rfl⟩ | ⟨z, rfl⟩
    · have hp : PostS X.K X.mg W g0 H0 zb Hb (.rt (plain l.d) st') D := hp
      cases e' <;> try exact no_false h6
      rename_i k j pos
      cases l <;> cases k <;> try exact no_false h6
      · exact WSs.of (pss_one (ps_ret pe_non)) (hp g1 H1 .non i1.s i1.ok .none)
      · have := of_decide_eq_true h6
        subst this
        exact WSs.of (pss_one (ps_ret pe_bl)) (hp g1 H1 (.bl _) i1.s i1.ok (.bool _))
      · have := of_decide_eq_true h6
        subst this
        exact WSs.of (pss_one (ps_ret pe_int)) (hp g1 H1 (.int _) i1.s i1.ok (.int _))
      · have := of_decide_eq_true h6
        subst this
        exact WSs.of (pss_one (ps_ret pe_str)) (hp g1 H1 (.str _) i1.s i1.ok (.str _))
    · have hp : PostS X.K X.mg W g0 H0 zb Hb (.rt (plain (.tuple [.str z])) st') D := hp
      cases e' <;> try exact no_false h6
      rename_i es k pos
      rcases es with _ | ⟨e1, _ | ⟨_, _⟩⟩ <;> try exact no_false h6
      · have h9 := (cond_true (cond_true h6).1).2
        cases e1 <;> try exact no_false h9
        rename_i kk jj ps
        cases kk <;> try exact no_false h9
        have := of_decide_eq_true h9
        subst this
        refine WSs.of (pss_one (ps_ret (pe_tup (pa_cons pe_str pa_nil)))) ⟨by show 1 ≤ sizeLine; decide, fun q hq => ?_⟩
        exact hp g1 _ (.ref q) (i1.s.trans (.new hq)) (i1.ok.new hq) (RD.new_tup i1.ok hq (.cons (.str _) .nil))
      · obtain ⟨_, h8⟩ := cond_true h6
        exact no_false h8
  refine WS.of (ps_try_only c.stk c.frm ⟨c.c.gl h3, hdn.1, .inl gC⟩ c.c.takes (ts := ts)
    (tb := fun W' D' σ' H' => ∀ pn xe, Takes (X.tr pn xe) W' → PassesOwn (model X.prog X.w) X.A X.env xe → WSs (X.tr pn xe) body D' σ' H')
    (fun W' pn xe tk ps => ⟨fun pins s σ H D I q => q pn xe tk ps pins s I⟩)
    (fun a oe cls d pn hz hf => ⟨fun pins s σ H D I q => q oe pn hz hf pins s I⟩)) ?_
  intro pn xe tk ps
  have c' : SCtx (X.tr pn xe) (wOnly X.K (.ref C) ts W D) N sc lv := ⟨⟨c.c.eN, c.c.nd, c.c.kind, c.c.calm, c.c.guards, c.c.room, tk, ps, c.c.look, c.c.fn⟩, c.sce, c.stk, c.frm⟩
  refine hb (X := X.tr pn xe) body D c' si h1 rb ?_
  have h : PostS X.K X.mg W g0 H0 zb Hb (match evSs b env st with
    | .ex c' _ env' st' => bif decide (c' = x) then (evE e false env' st').sr env' fun x st => .rt x st else .no
    | r => r) D := h
  cases hv : evSs b env st with
  | nx env' st' =>
    rw [hv] at h
    exact h
  | rt y st' =>
    rw [hv] at h
    exact h
  | br env' st' =>
    rw [hv] at h
    exact h
  | ct env' st' =>
    rw [hv] at h
    exact h
  | no =>
    rw [hv] at h
    exact h.elim
  | ex cn ds env' st' =>
    rw [hv] at h
    obtain ⟨hc, hq⟩ := h.cond
    have hc : cn = x := of_decide_eq_true hc
    clear h
    subst hc
    intro g1 H1 σ1 cls d i1 ei
    have ec : cls = .ref C := by
      have := ei.1
      have gC' : X.mg cn = some (.ref C) := gC
      rw [show (X.tr pn xe).mg cn = X.mg cn from rfl, gC'] at this
      exact (Option.some.inj this).symm
    subst ec
    exact ⟨true, ex, fun _ a _ => suite env' st' g1 H1 σ1 i1 hq a _ d, fun z => by cases z⟩
theorem sims_popt {j i : Nat} : SimS (.popt j i) := by
  intro X W N sc lv g0 g H0 Hb H zb σ env st s D c si hm hr h
  cases s <;> try exact no_false hm
  rename_i ts e' p
  rcases ts with _ | ⟨t, _ | ⟨_, _⟩⟩ <;> (try exact no_false hm) <;> cases t <;> (try exact no_false hm) <;> cases e' <;> try exact no_false hm
  rename_i y py f args kws cp
  cases f <;> try exact no_false hm
  rename_i o m ap
  cases o <;> try exact no_false hm
  rename_i x px
  cases args <;> cases kws <;> try exact no_false hm
  obtain ⟨hm, h7⟩ := cond_true hm
  obtain ⟨hm, h6⟩ := cond_true hm
  obtain ⟨hm, h5⟩ := cond_true hm
  obtain ⟨hm, h4⟩ := cond_true hm
  obtain ⟨hm, h3⟩ := cond_true hm
  obtain ⟨h1, h2⟩ := cond_true hm
  have h1 : N[j]? = some y := of_decide_eq_true h1
  have h3 : N[i]? = some x := of_decide_eq_true h3
  have h6 : m = "pop" := of_decide_eq_true h6
  subst h6
  have h7 : ap.endLine = cp.line := of_decide_eq_true h7
  have hd := okName_debug h5
  have hl := c.c.loc h2
  have hN : X.N.Nodup := by rw [c.c.eN]; exact c.c.nd
  cases hs : env[i]? with
  | none =>
    simp only [evS, hs] at h
    exact h.elim
  | some sl =>
    cases sl <;> (try (simp only [evS, hs] at h; exact h.elim))
    rename_i d
    cases d <;> (try (simp only [evS, hs] at h; exact h.elim))
    rename_i xs
    simp only [evS, hs] at h
    obtain ⟨a, vs, ex, ea, rd, nz, nr⟩ := own_slot si hs
    refine WS.of (ps_set hN (by rw [c.c.eN]; exact h1) hl.1 (pe_bm0 PySem.F.plainAttrs_list PySem.F.slot_list_pop PySem.F.type_list_pop mt_pop (pe_var (by rw [c.c.eN]; exact h3) (c.c.vis h4) hd.1 hd.2.1) rfl (by rw [h7]; exact beq_self_eq_true _)) rfl hl.2) ?_
    cases hl : xs.getLast? with
    | none =>
      rw [hl] at h
      exact h.elim
    | some d =>
      rw [hl] at h
      cases hji : j == i with
      | true =>
        rw [hji] at h
        exact h.elim
      | false =>
        rw [hji] at h
        obtain ⟨w, hw, rw1⟩ := rd.last hl
        have i2 := si.mut hs ex ea nz nr rd.dropLast
        exact ⟨_, ex, .inl ⟨rfl, vs, .inl (.inl ea)⟩, a, vs, w, rfl, rfl, ea, hw, h g _ _ (i2.setVal (x := .dat d) j (RD.holds (holds_own ea nz) rw1))⟩
end MP

/-! Statements: stores into lists and cells; all together. -/
namespace MP
open PySem PyProof.Rows L2 PySem.Spec

theorem plain_sub {env : PySem.Env} {o i : Expr} {pos : Pos} (h : plainIx i = true) : ∀ v, assign (.Subscript o i pos) env v = (do
      let a ← holding [v] (eval o env)
      let b ← holding [v, a] (eval i env)
      standAt pos
      holding [v, a, b] (setItem a b v)
      release [v, a, b] []) := by
  intro v
  cases i <;> first | rfl | exact no_false h
theorem plain_each {env : PySem.Env} {o i : Expr} {pos : Pos} : (assignEach [.Subscript o i pos] env).map (·.2) = [assign (.Subscript o i pos) env] := rfl
theorem sole_sub {env : PySem.Env} {e a b : Expr} {p : Pos} {l : Nat} : swapsWithSole [.Subscript a b p] e l env = pure false := sw_sub (env := env) (e := e) (a := a) (b := b) (p := p) (l := l)
theorem sims_setix {i : Nat} {k e : Ex} (hk : SimE k) (he : SimE e) : SimS (.setix i k e) := by
  intro X W N sc lv g0 g H0 Hb H zb σ env st s D c si hm hr h
  cases s <;> try exact no_false hm
  rename_i ts e' p
  rcases ts with _ | ⟨t, tr⟩
  · exact no_false hm
  cases t <;> try exact no_false hm
  rename_i o k' tp
  cases o <;> try exact no_false hm
  rename_i x px
  cases tr with
  | cons _ _ => exact no_false hm
  | nil =>
    obtain ⟨hm, h6⟩ := cond_true hm
    obtain ⟨hm, h5⟩ := cond_true hm
    obtain ⟨hm, h4⟩ := cond_true hm
    obtain ⟨hm, h3⟩ := cond_true hm
    obtain ⟨h1, h2⟩ := cond_true hm
    have h1 : N[i]? = some x := of_decide_eq_true h1
    have hd := okName_debug h3
    refine WS.of (ps_asg pe_we (pg_sub (pe_var (by rw [c.c.eN]; exact h1) (c.c.vis h2) hd.1 hd.2.1) pe_we set_list (plain_sub h4)) sole_sub rfl plain_each) ?_
    refine he e' false _ (si.at_ c) h6 hr.right (PostS.sr si h fun y st1 g1 v H1 i1 s1 r1 h1 => ?_)
    obtain ⟨d, ed, h1⟩ := h1.dat
    obtain ⟨g2, i2, r2⟩ := step_val si i1 s1 r1
    rw [ed] at r2
    cases hs : env[i]? with
    | none =>
      simp only [hs] at h1
      exact h1.elim
    | some sl =>
      cases sl <;> (try (simp only [hs] at h1; exact h1.elim))
      rename_i dd
      cases dd <;> (try (simp only [hs] at h1; exact h1.elim))
      rename_i xs
      simp only [hs] at h1
      obtain ⟨a, vs, ex, ea, _⟩ := own_slot i2 hs
      refine ⟨_, ex, ?_⟩
      refine hk k' true _ (i2.at_ c) h5 hr.left (PostS.sr i2 h1 fun z st3 g3 w H3 i3 s3 r3 h3 => ?_)
      obtain ⟨n, en, h3⟩ := h3.int
      have ew := (r3.rt en).int
      subst ew
      obtain ⟨a', vs', ex', ea', rd, nz, nr⟩ := own_slot i3 hs
      rw [ex] at ex'
      cases ex'
      cases hj : L2.ixN xs.length n with
      | none =>
        rw [hj] at h3
        exact h3.elim
      | some j =>
        rw [hj] at h3
        have r2' := RD.holds (s3.holds i2.ok) r2
        exact ⟨a, vs', n, j, rfl, rfl, ea', by rw [rd.length]; exact hj, h3 g3 _ σ (i3.mut hs ex ea' nz nr (rd.set r2' j))⟩
/-- a cell with a dict, at a key that it has -/
theorem rkv_put {K : PySem.W.Frag} {g : G} {H : Hp} {s : Str} {v : V} {x : Val} (r : RVal K g H v x) : ∀ {vs : List (Key × V)} {xs : List (Str × Val)}, RKV K g H vs xs →
    RKV K g H (vs.map fun kv => if kv.1 = .inr s then (kv.1, v) else kv) (xs.map fun p => bif p.1 == s then (p.1, x) else p)
  | _, _, .nil => .nil
  | _, _, .cons (k := k) q t => by
    by_cases e : k = s
    · subst e
      have e2 : (k == k) = true := beq_self_eq_true k
      simp only [List.map_cons, if_pos, e2, cond_true]
      exact .cons r (rkv_put r t)
    · have e2 : (k == s) = false := beq_eq_false_iff_ne.mpr e
      have e3 : ¬ (Sum.inr k : Key) = .inr s := fun h => e (Sum.inr.inj h)
      simp only [List.map_cons, if_neg e3, e2, cond_false]
      exact .cons q (rkv_put r t)
theorem rkv_has {K : PySem.W.Frag} {g : G} {H : Hp} {s : Str} : ∀ {vs : List (Key × V)} {xs : List (Str × Val)}, RKV K g H vs xs → (xs.lookup s).isSome = true → (vs.any fun kv => decide (kv.1 = .inr s)) = true
  | _, _, .nil, h => by cases h
  | _, _, .cons (k := k) (xs := xs) q t, h => by
    by_cases e : k = s
    · subst e
      simp
    · have ne : (s == k) = false := beq_eq_false_iff_ne.mpr (Ne.symm e)
      rw [List.lookup_cons, ne] at h
      rw [List.any_cons, rkv_has t h, Bool.or_true]
theorem RKV.length {K : PySem.W.Frag} {g : G} {H : Hp} : ∀ {vs : List (Key × V)} {xs : List (Str × Val)}, RKV K g H vs xs → vs.length = xs.length
  | _, _, .nil => rfl
  | _, _, .cons _ t => congrArg Nat.succ t.length
theorem SI.cell {K : PySem.W.Frag} {g0 g : G} {H0 Hb H : Hp} {zb : Addr → Prop} {st : Store} {σ : L2.St} {env : Env} {n : Nat} {a : Addr} {u : HO} {cl : Cell} (si : SI K g0 H0 zb Hb g H σ env st) (hn : g.rho[n]? = some a) (hc : CellIs K g (upd H a u) a cl) : SI K g0 H0 zb Hb g (upd H a u) σ env (st.set n cl) := by
  have hmem := List.mem_of_getElem? hn
  have hh := holds_cell (u := u) si.ok hmem
  refine ⟨si.s.cell hmem, si.ok.setCell hn hh hc, ⟨si.en.len, fun j s y e1 e2 => ?_, si.en.apart⟩, si.new, si.h.trans hh⟩
  have q := si.en.at_ j s y e1 e2
  cases s with
  | un => trivial
  | val v =>
    obtain ⟨w, ew, rw1⟩ := q
    exact ⟨w, ew, rw1.holds hh⟩
  | own d' =>
    obtain ⟨b, eb, ob⟩ := q
    refine ⟨b, eb, ?_⟩
    cases d' <;> try exact ob.elim
    obtain ⟨ws, e3, r3, q3⟩ := ob
    have nb : b ≠ a := fun e => q3.2 (e ▸ hmem)
    exact ⟨ws, by rw [upd_ne nb]; exact e3, RDs.holds hh r3, q3⟩
theorem sims_setloc {a k e : Ex} (ha : SimE a) (hk : SimE k) (he : SimE e) : SimS (.setloc a k e) := by
  intro X W N sc lv g0 g H0 Hb H zb σ env st s D c si hm hr h
  cases s <;> try exact no_false hm
  rename_i ts e' p
  rcases ts with _ | ⟨t, _ | ⟨_, _⟩⟩ <;> (try exact no_false hm) <;> cases t <;> (try exact no_false hm)
  rename_i a' k' tp
  obtain ⟨hm, h4⟩ := cond_true hm
  obtain ⟨hm, h3⟩ := cond_true hm
  obtain ⟨h1, h2⟩ := cond_true hm
  refine WS.of (ps_dput (by have := room_u c.c.room; omega) pe_we pe_we pe_we sw_sub) ?_
  refine he e' false _ (si.at_ c) h4 hr.right (PostS.sr si h fun y st1 g1 v H1 i1 s1 r1 h1 => ?_)
  obtain ⟨g2, i2, r2⟩ := step_val si i1 s1 r1
  refine ha a' false _ (i2.at_ c) h2 hr.left.left (PostS.sr i2 h1 fun z st3 g3 w H3 i3 s3 r3 h5 => ?_)
  refine hk k' true _ (i3.at_ c) h3 hr.left.right (PostS.sr i3 h5 fun z' st4 g4 w' H4 i4 s4 r4 h4 => ?_)
  obtain ⟨fr, z⟩ := z
  obtain ⟨fr', z'⟩ := z'
  cases z with
  | dat d => exact h4.elim
  | loc n =>
    cases z' with
    | loc n => exact h4.elim
    | dat d =>
      cases d <;> try exact h4.elim
      rename_i key
      have r3 : RVal X.K g3 H3 w (.loc n) := by cases fr <;> exact r3
      have r3 := r3.step s4 i3.ok
      obtain ⟨b, eb, rfl⟩ := r3
      have ew := (r4.rt (d := .str key) rfl).str
      subst ew
      cases hn : st4[n]? with
      | none =>
        simp only [hn] at h4
        exact h4.elim
      | some cl =>
        cases cl with
        | lst _ =>
          simp only [hn] at h4
          exact h4.elim
        | dic kvs =>
          simp only [hn] at h4
          obtain ⟨hz, h4⟩ := h4.cond
          obtain ⟨hz1, hz2⟩ := cond_true hz
          obtain ⟨kv, ekv, rkv⟩ := i4.ok.cell n b _ eb hn
          have r2' := (r2.step s3 i2.ok).step s4 i3.ok
          refine ⟨b, _, rfl, .inl ⟨kv, .inr key, ekv, rfl, by rw [rkv.length]; exact of_decide_eq_true hz2, rfl⟩, ?_⟩
          have hh := holds_cell (u := .dK (putK kv (.inr key) v)) i4.ok (List.mem_of_getElem? eb)
          have e : putK kv (.inr key) v = kv.map fun kv => if kv.1 = .inr key then (kv.1, v) else kv := by
            unfold putK
            rw [if_pos (rkv_has rkv hz1)]
          have q := rkv_put (s := key) (r2'.holds hh) (rkv.holds hh)
          rw [← e] at q
          exact h4 g4 _ σ (i4.cell eb ⟨_, upd_same, q⟩)

theorem sims_frz {i : Nat} : SimS (.frz i) := fun {X W N sc lv g0 g H0 Hb H zb σ env st} s D c si hm hr h => no_false hm
theorem simss_nil : SimSs .nil := by
  intro X W N sc lv g0 g H0 Hb H zb σ env st l D c si hm hr h
  cases l with
  | cons _ _ => exact no_false hm
  | nil =>
    have h : ∀ g H σ, SI X.K g0 H0 zb Hb g H σ env st → D.nx σ H := h
    exact WSs.of pss_nil (h g H σ si)
theorem simss_step {s : Sm} {ss : Sms} (h1 : SimS s) (h2 : SimSs ss) (hn : ∀ N sc l, mSs N (.cons s ss) sc l = match l with
    | s' :: l' => mS N s sc s' && mSs N ss sc l'
    | [] => false) : SimSs (.cons s ss) := by
  intro X W N sc lv g0 g H0 Hb H zb σ env st l D c si hm hr h
  rw [hn] at hm
  cases l with
  | nil => exact no_false hm
  | cons s' l' =>
    obtain ⟨m1, m2⟩ := cond_true hm
    refine WSs.of (pss_cons ps_ws pss_wss) ?_
    exact h1 s' _ c si m1 hr.left (PostS.seq h fun env st g H σ i q => h2 l' D c i m2 hr.right q)
theorem simss_frz {i : Nat} {ss : Sms} (h2 : SimSs ss) : SimSs (.cons (.frz i) ss) := by
  intro X W N sc lv g0 g H0 Hb H zb σ env st l D c si hm hr h
  have h : PostS X.K X.mg W g0 H0 zb Hb ((match env[i]? with
    | some (.own d) => .nx (List.set env i (.val (.dat d))) st
    | _ => .no : SR).seq (evSs ss)) D := by
    have e : evSs (.cons (.frz i) ss) env st = (match env[i]? with
      | some (.own d) => .nx (List.set env i (.val (.dat d))) st
      | _ => .no : SR).seq (evSs ss) := by
      rfl
    rw [← e]
    exact h
  cases hs : env[i]? with
  | none =>
    rw [hs] at h
    exact h.elim
  | some sl =>
    cases sl with
    | un =>
      rw [hs] at h
      exact h.elim
    | val v =>
      rw [hs] at h
      exact h.elim
    | own d =>
      rw [hs] at h
      obtain ⟨g', si'⟩ := si.frz hs
      exact h2 l D c si' hm hr h
theorem simss_never {ss : Sms} : SimSs (.cons .never ss) := fun {X W N sc lv g0 g H0 Hb H zb σ env st} s D c si hm hr h => h.elim
mutual
theorem simS : (m : Sm) → SimS m
  | .pass => sims_pass
  | .exp e => sims_exp (sim e).1
  | .ret e => sims_ret (sim e).1
  | .set i own e => sims_set (sim e).1 fun elt ow tg it ifs _ => ⟨(sim elt).1, simXi it, (simXo ifs).2⟩
  | .setT ts e => sims_setT (sim e).1
  | .par ts es => sims_par (simXs es).2.1
  | .parO ts fs es => sims_parO
  | .aug i o e => sims_aug (sim e).1
  | .ite c a b => sims_ite (sim c).2 (simSs a) (simSs b)
  | .whil c b => sims_whil (sim c).2 (simSs b)
  | .forr tg it b => sims_for (simXi it) (simSs b)
  | .brk => sims_brk
  | .cnt => sims_cnt
  | .app i e => sims_app (sim e).1
  | .popd i => sims_popd
  | .popt j i => sims_popt
  | .setix i k e => sims_setix (sim k).1 (sim e).1
  | .setloc a k e => sims_setloc (sim a).1 (sim k).1 (sim e).1
  | .frz i => sims_frz
  | .never => sims_never
  | .clr i => sims_clr
  | .rais c => sims_rais
  | .tryR b c e => sims_tryR (simSs b)
theorem simSs : (m : Sms) → SimSs m
  | .nil => simss_nil
  | .cons s ss => match s with
    | .frz i => simss_frz (simSs ss)
    | .never => simss_never
    | .pass => simss_step (simS .pass) (simSs ss) fun _ _ _ => rfl
    | .exp e => simss_step (simS (.exp e)) (simSs ss) fun _ _ _ => rfl
    | .ret e => simss_step (simS (.ret e)) (simSs ss) fun _ _ _ => rfl
    | .set i own e => simss_step (simS (.set i own e)) (simSs ss) fun _ _ _ => rfl
    | .setT ts e => simss_step (simS (.setT ts e)) (simSs ss) fun _ _ _ => rfl
    | .par ts es => simss_step (simS (.par ts es)) (simSs ss) fun _ _ _ => rfl
    | .parO ts fs es => simss_step (simS (.parO ts fs es)) (simSs ss) fun _ _ _ => rfl
    | .aug i o e => simss_step (simS (.aug i o e)) (simSs ss) fun _ _ _ => rfl
    | .ite c a b => simss_step (simS (.ite c a b)) (simSs ss) fun _ _ _ => rfl
    | .whil c b => simss_step (simS (.whil c b)) (simSs ss) fun _ _ _ => rfl
    | .forr tg it b => simss_step (simS (.forr tg it b)) (simSs ss) fun _ _ _ => rfl
    | .brk => simss_step (simS .brk) (simSs ss) fun _ _ _ => rfl
    | .cnt => simss_step (simS .cnt) (simSs ss) fun _ _ _ => rfl
    | .app i e => simss_step (simS (.app i e)) (simSs ss) fun _ _ _ => rfl
    | .popd i => simss_step (simS (.popd i)) (simSs ss) fun _ _ _ => rfl
    | .popt j i => simss_step (simS (.popt j i)) (simSs ss) fun _ _ _ => rfl
    | .setix i k e => simss_step (simS (.setix i k e)) (simSs ss) fun _ _ _ => rfl
    | .setloc a k e => simss_step (simS (.setloc a k e)) (simSs ss) fun _ _ _ => rfl
    | .clr i => simss_step (simS (.clr i)) (simSs ss) fun _ _ _ => rfl
    | .rais c => simss_step (simS (.rais c)) (simSs ss) fun _ _ _ => rfl
    | .tryR b c e => simss_step (simS (.tryR b c e)) (simSs ss) fun _ _ _ => rfl
end
end MP

/-! A def's promise from its text. -/
namespace MP
open PySem PyProof.Rows L2 PySem.Spec

theorem rvals_start {K : PySem.W.Frag} {g : G} {H : Hp} {vs : List V} {vals : List Val} {N : List Str} (r : RVals K g H vs vals) : EnvOk K g H (L2.start N vs) (vals.map Slot.val ++ List.replicate (N.length - vals.length) .un) := by
  have hl := r.length
  have low : ∀ (i : Nat), i < vals.length → (vals.map Slot.val ++ List.replicate (N.length - vals.length) .un)[i]? = vals[i]?.map Slot.val := fun i hi => by
    rw [List.getElem?_append_left (by rw [List.length_map]; exact hi), List.getElem?_map]
  have high : ∀ (i : Nat) (s : Slot), ¬ i < vals.length → (vals.map Slot.val ++ List.replicate (N.length - vals.length) .un)[i]? = some s → s = .un := fun i s hi e => by
    rw [List.getElem?_append_right (by rw [List.length_map]; omega), List.getElem?_replicate] at e
    split at e <;> cases e
    rfl
  have noown : ∀ (i : Nat) (d : MP.D), (vals.map Slot.val ++ List.replicate (N.length - vals.length) .un)[i]? ≠ some (.own d) := fun i d e => by
    by_cases hi : i < vals.length
    · rw [low i hi] at e
      cases q : vals[i]? with
      | none =>
        rw [q] at e
        cases e
      | some v =>
        rw [q] at e
        cases e
    · cases high i _ hi e
  refine ⟨?_, fun i s x e1 e2 => ?_, fun i j d d' a e1 => (noown i d e1).elim⟩
  · unfold L2.start
    rw [List.length_append, List.length_append, List.length_map, List.length_map, List.length_replicate, List.length_replicate, hl]
  · by_cases hi : i < vals.length
    · rw [low i hi] at e1
      cases q : vals[i]? with
      | none =>
        rw [q] at e1
        cases e1
      | some v =>
        rw [q] at e1
        cases e1
        obtain ⟨w, hw, rw1⟩ := r.get q
        unfold L2.start at e2
        rw [List.getElem?_append_left (by rw [List.length_map, hl]; exact hi), List.getElem?_map, hw] at e2
        cases e2
        exact ⟨w, rfl, rw1⟩
    · cases high i s hi e1
      trivial
/-- THE RULE: a def of the text reckons what its small text reckons -/
theorem fnG_of {P : Program} {w : World} {K : PySem.W.Frag} {mg : Str → Option Value} {base : Heap} {lv : Nat} {x qual : Str} {st : Stmt} {f : Addr} {fd : FuncData} {N ps : List Str} {m : Sms} (F : Fun K x qual st f fd) (S : FnScope N ps (defScope st))
    (hm : mSs N m (defScope st) (defBody st) = true) (hr : ∀ r ∈ rqSs m, ReqOk P w K mg base lv r) : FnG P w K mg base (lv + 1) f fd ps (spOf K mg ps.length (fnOf ps.length N.length m)) := by
  obtain ⟨oc, od, kV, doc, pm, an, cdv, ct, slots, rfl, lk, hcd⟩ := F.ex
  refine ⟨fun vs H Q E h => ?_, fun A outer s H args us vs Q E hg hrm e0 hb r hsp => ?_⟩
  · obtain ⟨g, vals, st', rv, _, hl, _⟩ := h
    rw [rv.length, hl]
  · obtain ⟨g, vals, st', rv, ok, hl, post⟩ := hsp
    have hl' : vs.length = ps.length := by rw [rv.length, hl]
    have KX : K.In s.heap := e0.mod.kin.keeps fun b o q => (e0.bs b o q).1
    have lim : s.heap.NoLimit := e0.mod.nolimit.keeps fun b o q => (e0.bs b o q).1
    have kinds : ∀ y ∈ ps.zip us, (defScope st).names.lookup y.1 = some .local ∨ ((defScope st).names.lookup y.1 = some .cell ∧ ((cellsFrom (s.heap.objs.size + 1) (defScope st).names []).lookup y.1).isSome = true) := by
      rintro ⟨n, v⟩ hy
      exact (S.par n (List.of_mem_zip hy).1).imp id fun q => ⟨q, PySem.W.cellsFrom_some _ _ _ (.inl q)⟩
    refine codeAny_call_function hrm.depth (KX _ _ lk) rfl S.co S.gen rfl (PySem.W.codeRec_of KX hcd) (hb _ _ _ _ ?_)
    refine wpAny_newFunctionEnv_cells S.kind kinds fun env he s1 ic => ?_
    subst he
    refine ⟨lim.keeps ic.toInCall.keep, codeAny_func ?_⟩
    have I : Inv (cxOf (L2.CX P w) P w K mg base N qual (defScope st) f cdv A outer s H E) [] (L2.start N vs) H s1 := inv_start S hrm.hd e0 hl' r ic
    have cx : CtxOk (cxOf (L2.CX P w) P w K mg base N qual (defScope st) f cdv A outer s H E) (fun cls d _ H' => E cls d H') N (defScope st) lv :=
      ⟨rfl, S.nd, S.kind, rfl, hg, hrm.deeper _, takes_of rfl rfl rfl rfl, passes_of rfl, fun x k h => .inl h, fun x h => rfl⟩
    have si : SI K g H g.Z H g H (L2.start N vs) (vals.map Slot.val ++ List.replicate (N.length - vals.length) .un) st' := by
      have en := rvals_start (N := N) rv
      refine ⟨.refl, ok, en, fun i d a e1 e2 => ?_, .refl⟩
      exfalso
      by_cases hi : i < vals.length
      · rw [List.getElem?_append_left (by rw [List.length_map]; exact hi), List.getElem?_map] at e1
        cases q : vals[i]? with
        | none =>
          rw [q] at e1
          cases e1
        | some v =>
          rw [q] at e1
          cases e1
      · rw [List.getElem?_append_right (by rw [List.length_map]; omega), List.getElem?_replicate] at e1
        split at e1 <;> cases e1
    have post : PostS K mg (fun cls d _ H' => E cls d H') g H g.Z H (evSs m (vals.map Slot.val ++ List.replicate (N.length - vals.length) .un) st') { nx := fun _ H' => Q .non H', rt := Q } := by
      have post : Post K mg E (relE K false) g H (bif decide (vals.length = ps.length) then
        (match evSs m (vals.map Slot.val ++ List.replicate (N.length - ps.length) .un) st' with
          | .nx _ st => .ok (plain .none) st
          | .rt x st => .ok x st
          | .ex c ds _ st => .exc c ds st
          | _ => .no) else .no) Q := post
      obtain ⟨_, post⟩ := post.cond
      rw [← hl] at post
      cases q : evSs m (vals.map Slot.val ++ List.replicate (N.length - vals.length) .un) st' with
      | nx e s =>
        rw [q] at post
        exact fun g' H' σ' i => post g' .non H' i.s i.ok .none
      | rt y s =>
        rw [q] at post
        exact fun g' H' v i o ro => post g' v H' i o ro
      | ex c ds e s =>
        rw [q] at post
        exact fun g' H' σ' cls d i ei => post g' cls d H' i.s i.ok ei
      | br e s =>
        rw [q] at post
        exact post.elim
      | ct e s =>
        rw [q] at post
        exact post.elim
      | no =>
        rw [q] at post
        exact post.elim
    refine wpAny_mono (simSs m (defBody st) _ ⟨cx, rfl, rfl, rfl⟩ si hm (fun r hr' => hr r hr') post [] s1 I) (fun fl s' hs => ?_) fun e s' hs => hs
    have fin : ∀ {σ' : L2.St} {H' : Hp} {v : V} {u : Value}, Inv (cxOf (L2.CX P w) P w K mg base N qual (defScope st) f cdv A outer s H E) [] σ' H' s' → RelV v u → Q v H' → CE outer P w H s Q u s' :=
      fun {σ' H' v u} J r q => ⟨v, H', J.os, J.bare, J.base, J.hok, r, q⟩
    cases fl with
    | next =>
      obtain ⟨σ', H', J, q⟩ := hs
      exact fin (v := .non) (u := Value.none) J rfl q
    | ret u =>
      obtain ⟨v, σ', H', J, r, q⟩ := hs
      exact fin J r q
    | brk =>
      obtain ⟨_, _, _, q⟩ := hs
      exact False.elim q
    | cont =>
      obtain ⟨_, _, _, q⟩ := hs
      exact False.elim q
theorem fnOf_len {np ns : Nat} {m : Sms} {vals : List Val} {st : Store} (h : vals.length ≠ np) : fnOf np ns m vals st = .no := by
  show (bif decide (vals.length = np) then _ else R.no) = _
  rw [decide_eq_false h]
  rfl
/-- .. as the module's name has it -/
theorem globFn_of {P : Program} {w : World} {K : PySem.W.Frag} {mg : Str → Option Value} {base : Heap} {lv lv' : Nat} {x q : Str} {st : Stmt} {f : Addr} {fd : FuncData} {N ps : List Str} {m : Sms} (F : Fun K x q st f fd) (S : FnScope N ps (defScope st)) (hb : Binds K fd ps []) (hg : mg x = some (.ref f))
    (hm : mSs N m (defScope st) (defBody st) = true) (hr : ∀ r ∈ rqSs m, ReqOk P w K mg base lv r) (hl : lv + 1 ≤ lv') : GlobFn P w K mg base lv' x (fnOf ps.length N.length m) :=
  ⟨lv + 1, f, fd, ps, hl, hg, F.kp, hb, fnG_of F S hm hr, fun vals st h => fnOf_len h⟩
end MP

/-! The law's own call. -/
namespace MP
open PySem PyProof.Rows L2 PySem.Spec

def scriptD (ns : List Int) : MP.D := .list (ns.map PyData.int)
theorem rds_ints {K : PySem.W.Frag} {Z : Addr → Prop} {H : Hp} : ∀ ns : List Int, RDs K Z H (ns.map V.int) (ns.map PyData.int)
  | [] => .nil
  | n :: ns => .cons (.int n) (rds_ints ns)
/-- a def that reckons True of the script keeps its promise -/
theorem sp_law {K : PySem.W.Frag} {mg : Str → Option Value} {sem : Fn} {H : Hp} {a : Addr} {ns : List Int} (hS : SqL K H a (ns.map V.int)) (hs : ∃ fr st, sem [.dat (scriptD ns)] [] = .ok ⟨fr, .dat (.bool true)⟩ st) :
    spOf K mg 1 sem [.ref a] H (fun v _ => v = .bl true) fun _ _ _ => False := by
  obtain ⟨fr, st, e⟩ := hs
  have zs : SqZ K (fun b => b = a ∧ H a ≠ none) H a (ns.map V.int) := by
    rcases hS with q | q
    · exact .inl ⟨⟨rfl, by rcases q with q | ⟨_, q⟩ <;> (rw [q]; exact fun z => by cases z)⟩, q⟩
    · exact .inr (.inr q)
  refine ⟨⟨fun b => b = a ∧ H a ≠ none, []⟩, [.dat (scriptD ns)], [], .cons (.list zs (rds_ints ns)) .nil, ⟨fun b _ => List.not_mem_nil, fun b z => z.1 ▸ z.2, rfl, List.nodup_nil, fun n b c h => by simp at h⟩, rfl, ?_⟩
  rw [e]
  intro g' v H' s o r
  cases fr with
  | false =>
    cases (show RD K g'.Z H' v (.bool true) from r)
    rfl
  | true =>
    obtain ⟨b, _, _, q⟩ := r
    exact q.elim
/-- where nothing but the script may be tracked, the call can be entered -/
theorem entered {P : Program} {w : World} {K : PySem.W.Frag} {mg mb : Str → Option Value} {s : Shared} {a : Addr} {vs : List Value} {ns : List Int} (KX : K.In s.heap) (hns : s.heap.Ns mainGlobals mg) (hb : s.heap.Ns builtinsNs mb) (hbb : ∀ x : Str, x ≠ "__name__" → mb x = bootBuiltins x)
    (hlim : s.heap.NoLimit) (hgen : s.gens = #[]) (ha : s.heap.get? a = some { cls := .type "list", data := .seq vs.toArray }) (H : Hp) (hO : ∀ b u, H b = some u → b = a ∧ u = .frz { cls := .type "list", data := .seq vs.toArray } (.lst (ns.map V.int)) ∧ K.lookup a = none) (hok : HOk P w H s.heap) :
    Env0 P w K mg (hidT s.heap H) callerA [] s H ∧ K.In (hidT s.heap H) ∧ (hidT s.heap H).Ns mainGlobals mg := by
  have free : ∀ {b : Addr} {o : Obj}, s.heap.get? b = some o → (b = a → K.lookup a = none → False) → H b = none := fun {b o} e h => by
    cases q : H b with
    | none => rfl
    | some u =>
      obtain ⟨h1, _, h3⟩ := hO b u q
      exact (h h1 h3).elim
  have kin : K.In (hidT s.heap H) := fun b o e => hidT_get (KX b o e) (free (KX b o e) fun h1 h3 => by
    subst h1
    rw [h3] at e
    cases e)
  have ns' : ∀ {b : Addr} {m : Str → Option Value}, s.heap.Ns b m → (hidT s.heap H).Ns b m := by
    rintro b m ⟨o, es, ep, e, d, r⟩
    refine ⟨o, es, ep, hidT_get e (free e fun h1 _ => ?_), d, r⟩
    subst h1
    rw [ha] at e
    cases e
    cases (show Data.seq vs.toArray _ = Data.dict es ep from d)
  have hlim' : (hidT s.heap H).NoLimit := by
    obtain ⟨mc, h1, h2⟩ := hlim
    exact ⟨mc, ns' h1, h2⟩
  exact ⟨⟨rfl, ⟨kin, ns' hns, ⟨mb, ns' hb, hbb⟩, hlim'⟩, fun b o e => of_hidT e, Nat.le_of_eq (hidT_size _ _), trivial, fun b h => (by cases h), hok, .of_eq hgen⟩, kin, ns' hns⟩
theorem law_callG {P : Program} {w : World} {K : PySem.W.Frag} {mg mb : Str → Option Value} {k : Nat} {fa a : Addr} {fd : FuncData} {x : Str} {sem : Fn} {s : Shared} {vs : List Value} {ns : List Int}
    (KX : K.In s.heap) (hns : s.heap.Ns mainGlobals mg) (hb : s.heap.Ns builtinsNs mb) (hbb : ∀ x : Str, x ≠ "__name__" → mb x = bootBuiltins x) (hlim : s.heap.NoLimit) (hgen : s.gens = #[])
    (ha : s.heap.get? a = some { cls := .type "list", data := .seq vs.toArray }) (hi : IntsAre vs ns) (hl : ns.length ≤ sizeLine) (hr : Room k callerA)
    (F : ∀ base : Heap, K.In base → base.Ns mainGlobals mg → FnG P w K mg base k fa fd [x] (spOf K mg 1 sem)) (hbind : ∀ (s : Shared) (u : Value), BindsTo s fd ⟨[u], []⟩ [(x, u)])
    (hs : ∃ fr st, sem [.dat (scriptD ns)] [] = .ok ⟨fr, .dat (.bool true)⟩ st) :
    codeAny (model P w) callerA (.call (.ref fa) ⟨[.ref a], []⟩) (fun r s' => r = .ok (.ret (.bool true)) ∧ OldK s.heap s'.heap ∧ s'.os = s.os ∧ AllBare s'.gens) s := by
  have rv := vals_ints hi
  have lenV := hi.length
  obtain ⟨H, hO, hS, hok⟩ : ∃ H : Hp, (∀ b u, H b = some u → b = a ∧ u = .frz { cls := .type "list", data := .seq vs.toArray } (.lst (ns.map V.int)) ∧ K.lookup a = none) ∧ SqL K H a (ns.map V.int) ∧ HOk P w H s.heap := by
    cases hk : K.lookup a with
    | none =>
      refine ⟨fun b => if b = a then some (.frz { cls := .type "list", data := .seq vs.toArray } (.lst (ns.map V.int))) else none, fun b u q => ?_, .inl (.inr ⟨_, if_pos rfl⟩), fun b u q => ?_⟩
      · by_cases h : b = a
        · subst h
          cases (if_pos rfl).symm.trans q
          exact ⟨rfl, rfl, rfl⟩
        · cases (if_neg h).symm.trans q
      · by_cases h : b = a
        · subst h
          cases (if_pos rfl).symm.trans q
          exact ⟨ha, by simpa using hl, vs, _, rv, ha⟩
        · cases (if_neg h).symm.trans q
    | some o =>
      have e := KX a o hk
      rw [ha] at e
      cases e
      exact ⟨fun _ => none, fun _ _ q => (by cases q), .inr ⟨_, vs.toArray, _, hk, rfl, rfl, rfl, by rw [List.size_toArray, lenV]; exact hl, by simpa using rv⟩, fun _ _ q => (by cases q)⟩
  obtain ⟨e0, kin, nsb⟩ := entered KX hns hb hbb hlim hgen ha H hO hok
  refine codeAny_mono ((F _ kin nsb).run callerA [] s H ⟨[.ref a], []⟩ [.ref a] [.ref a] _ _ rfl hr e0 (hbind s (.ref a)) (.cons rfl .nil) (sp_law hS hs)) fun r s' h => ?_
  cases r with
  | error e =>
    obtain ⟨_, _, _, _, _, _, _, _, _, _, _, _, no⟩ := h
    exact no.elim
  | ok fl =>
    cases fl with
    | ret u =>
      obtain ⟨v, H', eo, eb, un, hok', r', q⟩ := h
      subst q
      have eu : u = Value.bool true := r'
      subst eu
      refine ⟨rfl, OldK.of_keep fun b o e => ?_, eo, eb⟩
      cases q : H b with
      | none => exact un.keep b o e q (by simp [frs]) (by simp)
      | some u =>
        obtain ⟨h1, h2, _⟩ := hO b u q
        subst h2
        obtain ⟨e1, _⟩ := hok b _ q
        obtain ⟨e2, _⟩ := hok' b _ (un.frzs b _ _ q)
        rw [e] at e1
        cases e1
        exact e2
    | next => exact h.elim
    | brk => exact h.elim
    | cont => exact h.elim
end MP
namespace MP
open PySem PyProof.Rows L2 PySem.Spec
theorem walk_ofG {l : PySem.W.OpenLaw} {n k : Nat} {q : Program} {loose : List Str} {XP : (Str → Option Value) → Heap → Prop} {YP : World → Heap → Prop} {d : DefRec} {K : Params → PySem.W.Frag} {x : Str} {sem : Fn}
    (hn : l.most = some n) (hz : n ≤ sizeLine) (hdf : d.params.defaults = []) (hr : Room k callerA) (hY : ∀ (w : World) (h : Heap), YP w h → (K w.params).In h)
    (F : ∀ (w : World) (mg : Str → Option Value) (fa : Addr) (h : Heap), (K w.params).In h → h.Ns mainGlobals mg → mg d.name = some (.ref fa) → ∃ fd : FuncData, (∀ (s : Shared) (u : Value), BindsTo s fd ⟨[u], []⟩ [(x, u)]) ∧
      ∀ base : Heap, (K w.params).In base → base.Ns mainGlobals mg → FnG l.prog w (K w.params) mg base k fa fd [x] (spOf (K w.params) mg 1 sem))
    (hs : ∀ ns : List Int, ns.length ≤ n → ∃ fr st, sem [.dat (scriptD ns)] [] = .ok ⟨fr, .dat (.bool true)⟩ st) : PySem.W.WalkO q loose XP YP l.row.toRowW d [] (fun f vs => PySem.call f vs) := by
  refine Att.attach_call hn hdf fun w s0 s1 mg mb fa o pm cd doc a vs ns G Y ho hd hcd hmg hobj hints hlen hgen => ?_
  obtain ⟨fd, hb, hF⟩ := F w mg fa _ (hY w _ Y) G.T.g hmg
  exact law_callG (hY w _ Y) G.T.g G.T.b G.T.builtins G.T.nolimit hgen hobj hints (Nat.le_trans hlen hz) hr hF hb (hs ns hlen)
end MP

/-! What a text's defs ask for, in short lists. -/
namespace MP
open PySem PyProof.Rows L2 PySem.Spec
def ReqsOk (P : Program) (w : World) (K : PySem.W.Frag) (mg : Str → Option Value) (base : Heap) (lv : Nat) : List Req → Prop
  | [] => True
  | r :: l => ReqOk P w K mg base lv r ∧ ReqsOk P w K mg base lv l
section
variable {P : Program} {w : World} {K : PySem.W.Frag} {mg : Str → Option Value} {base : Heap} {lv : Nat}
theorem ReqsOk.get : ∀ {l : List Req} {i : Nat}, ReqsOk P w K mg base lv l → i < l.length → ReqOk P w K mg base lv (l.getD i (.non ""))
  | [], _, _, h => by cases h
  | r :: l, 0, h, _ => h.1
  | r :: l, i + 1, h, q => by
    rw [List.getD_cons_succ]
    exact h.2.get (Nat.lt_of_succ_lt_succ q)
theorem reqs_of {l L : List Req} (ix : List Nat) (e : L = ix.map fun i => l.getD i (.non "")) (hb : (ix.all fun i => decide (i < l.length)) = true) (h : ReqsOk P w K mg base lv l) : ∀ r ∈ L, ReqOk P w K mg base lv r := by
  intro r hr
  rw [e] at hr
  obtain ⟨i, hi, rfl⟩ := List.mem_map.mp hr
  exact h.get (of_decide_eq_true (List.all_eq_true.mp hb i hi))
theorem GlobFn.up {x : Str} {sem : Fn} {lv' : Nat} (h : GlobFn P w K mg base lv x sem) (hl : lv ≤ lv') : GlobFn P w K mg base lv' x sem := by
  obtain ⟨k, f, fd, ps, hk, q⟩ := h.ex
  exact ⟨k, f, fd, ps, Nat.le_trans hk hl, q⟩
/-- a def of the text, its places in the heap known -/
theorem globFn_in {h : Heap} {lv : Nat} {x : Str} {st : Stmt} {f : Addr} {N ps : List Str} {m : Sms} {oc : Value} {od an : Option Addr} {osl : Array (Option Value)} {kV doc pm cdv ct : Value} (X : K.In h) (G : h.Ns mainGlobals mg)
    (a : PySem.W.nsIn K mainGlobals x = some (some (.ref f))) (l : K.lookup f = some ⟨oc, od, .func (PySem.W.fnOf x x (defArgs st) (defBody st) (defScope st) .none kV doc pm an cdv ct), osl⟩)
    (c : PySem.W.codeIn K cdv x = true) (k : PySem.W.keepIn K (.ref f) = true) (S : FnScope N ps (defScope st))
    (hb : ∀ (kV doc pm : Value) (an : Option Addr) (cdv ct : Value) (us : List Value), us.length = ps.length → bindArgs (PySem.W.fnOf x x (defArgs st) (defBody st) (defScope st) .none kV doc pm an cdv ct) ⟨us, []⟩ = pure (ps.zip us))
    (hm : mSs N m (defScope st) (defBody st) = true) (hr : ∀ r ∈ rqSs m, ReqOk P w K mg base lv r) : GlobFn P w K mg base (lv + 1) x (fnOf ps.length N.length m) :=
  globFn_of (fun_mk l c k) S ((fun_mk l c k).binds hb) (PySem.W.mg_of X G a) hm hr (Nat.le_refl _)
/-! a constant of the text, its places in the heap known -/
mutual
inductive CV (K : PySem.W.Frag) : Value → MP.D → Prop
  | none : CV K .none .none
  | bool (b : Bool) : CV K (.bool b) (.bool b)
  | int {i : Int} (t : Tok) : CV K (.int i t) (.int i)
  | str {x : Str} (t : Tok) : CV K (.str x t) (.str x)
  | k {p : Addr} {u : Option Addr} {vs : List Value} {n : Nat} {sl : Array (Option Value)} {ds : List MP.D} (h : K.lookup p = some ⟨.type "tuple", u, .seq vs.toArray n, sl⟩) (r : CVs K vs ds) (hz : decide (vs.length ≤ 1000) = true := by rfl) : CV K (.ref p) (.tuple ds)
inductive CVs (K : PySem.W.Frag) : List Value → List MP.D → Prop
  | nil : CVs K [] []
  | cons {v : Value} {vs : List Value} {d : MP.D} {ds : List MP.D} (h : CV K v d) (r : CVs K vs ds) : CVs K (v :: vs) (d :: ds)
end
mutual
theorem CV.rd {K : PySem.W.Frag} : ∀ {u : Value} {d : MP.D}, CV K u d → ∃ v, RelV v u ∧ ∀ Z H, RD K Z H v d
  | _, _, .none => ⟨.non, rfl, fun _ _ => .none⟩
  | _, _, .bool b => ⟨.bl b, rfl, fun _ _ => .bool b⟩
  | _, _, .int t => ⟨.int _, ⟨t, rfl⟩, fun _ _ => .int _⟩
  | _, _, .str t => ⟨.str _, ⟨t, rfl⟩, fun _ _ => .str _⟩
  | _, _, .k (p := p) (vs := us) h r hz => by
    obtain ⟨vs, r1, r2⟩ := CVs.rd r
    have z : us.toArray.size ≤ sizeLine := by
      rw [List.size_toArray]
      exact Nat.le_trans (of_decide_eq_true hz) (by decide)
    exact ⟨.ref p, rfl, fun Z H => .tuple (.inr ⟨_, us.toArray, _, h, rfl, rfl, z, r1⟩) (r2 Z H)⟩
theorem CVs.rd {K : PySem.W.Frag} : ∀ {u : List Value} {d : List MP.D}, CVs K u d → ∃ v, Vals v u ∧ ∀ Z H, RDs K Z H v d
  | _, _, .nil => ⟨[], .nil, fun _ _ => .nil⟩
  | _, _, .cons h r => by
    obtain ⟨v, a1, a2⟩ := CV.rd h
    obtain ⟨vs, b1, b2⟩ := CVs.rd r
    exact ⟨v :: vs, .cons a1 b1, fun Z H => .cons (a2 Z H) (b2 Z H)⟩
end
theorem cst_of {h : Heap} {x : Str} {u : Value} {d : MP.D} (X : K.In h) (G : h.Ns mainGlobals mg) (a : PySem.W.nsIn K mainGlobals x = some (some u)) (c : CV K u d) : GlobCst K mg x d := by
  obtain ⟨v, r, q⟩ := c.rd
  exact ⟨u, v, PySem.W.mg_of X G a, r, q⟩
end
end MP

/-! Reckoning with the small language. -/
namespace MP
open PySem PyProof.Rows L2 PySem.Spec
section
variable {α β : Type} {st st1 : Store} {env : Env} {pk : Bool}
@[simp] theorem bind_ok {a : α} {f : α → Store → R β} : (R.ok a st).bind f = f a st := rfl
@[simp] theorem bind_exc {c : Str} {ds : List (Str × MP.D)} {f : α → Store → R β} : (R.exc c ds st : R α).bind f = .exc c ds st := rfl
@[simp] theorem bind_no {f : α → Store → R β} : (R.no : R α).bind f = .no := rfl
@[simp] theorem sr_ok {a : α} {f : α → Store → SR} : (R.ok a st).sr env f = f a st := rfl
@[simp] theorem sr_no {f : α → Store → SR} : (R.no : R α).sr env f = .no := rfl
@[simp] theorem sr_exc {c : Str} {ds : List (Str × MP.D)} {f : α → Store → SR} : (R.exc c ds st : R α).sr env f = .ex c ds env st := rfl
@[simp] theorem seq_nx {f : Env → Store → SR} : (SR.nx env st).seq f = f env st := rfl
@[simp] theorem seq_rt {f : Env → Store → SR} {x : RV} : (SR.rt x st).seq f = .rt x st := rfl
@[simp] theorem seq_br {f : Env → Store → SR} : (SR.br env st).seq f = .br env st := rfl
@[simp] theorem seq_ct {f : Env → Store → SR} : (SR.ct env st).seq f = .ct env st := rfl
@[simp] theorem turn_nx {f : Env → Store → SR} : turn (SR.nx env st) f = f env st := Eq.trans rfl rfl
@[simp] theorem turn_ct {f : Env → Store → SR} : turn (SR.ct env st) f = f env st := Eq.trans rfl rfl
@[simp] theorem turn_br {f : Env → Store → SR} : turn (SR.br env st) f = .nx env st := Eq.trans rfl rfl
@[simp] theorem turn_rt {f : Env → Store → SR} {x : RV} : turn (SR.rt x st) f = .rt x st := Eq.trans rfl rfl
@[simp] theorem datOf_dat {b : Bool} {d : MP.D} : datOf ⟨b, .dat d⟩ st = .ok d st := Eq.trans rfl rfl
@[simp] theorem intOf_int {b : Bool} {d : Int} : intOf ⟨b, .dat (.int d)⟩ st = .ok d st := Eq.trans rfl rfl
@[simp] theorem boolOf_bool {b : Bool} {d : Bool} : boolOf ⟨b, .dat (.bool d)⟩ st = .ok d st := Eq.trans rfl rfl
@[simp] theorem plain_eq {d : MP.D} : plain d = ⟨false, .dat d⟩ := Eq.trans rfl rfl
@[simp] theorem fresh_eq {d : MP.D} : fresh d = ⟨true, .dat d⟩ := Eq.trans rfl rfl
@[simp] theorem ofBD_some {b : Bool} {d : MP.D} : ofBD (some (b, d)) st = .ok ⟨b, .dat d⟩ st := Eq.trans rfl rfl
@[simp] theorem ofB_some {b : Bool} : ofB (some b) st = .ok (plain (.bool b)) st := Eq.trans rfl rfl
@[simp] theorem rOpt_some {a : α} : rOpt (some a) st = .ok a st := Eq.trans rfl rfl
@[simp] theorem seqOf_l {xs : List MP.D} : seqOf (.list xs) = some xs := Eq.trans rfl rfl
@[simp] theorem seqOf_t {xs : List MP.D} : seqOf (.tuple xs) = some xs := Eq.trans rfl rfl
@[simp] theorem lit_int {i : Int} : (Lit.int i).d = .int i := Eq.trans rfl rfl
@[simp] theorem lit_str {i : Str} : (Lit.str i).d = .str i := Eq.trans rfl rfl
@[simp] theorem lit_bool {i : Bool} : (Lit.bool i).d = .bool i := Eq.trans rfl rfl
@[simp] theorem lit_none : Lit.none.d = .none := Eq.trans rfl rfl
end

theorem seq_of {s : Sm} {ss : Sms} {env env' : Env} {st st' : Store} {r : SR} (h : evS s env st = .nx env' st') (q : evSs ss env' st' = r) : evSs (.cons s ss) env st = r := by
  show (evS s env st).seq (evSs ss) = r
  rw [h]
  exact q
theorem seq_end {s : Sm} {ss : Sms} {env : Env} {st st' : Store} {x : RV} (h : evS s env st = .rt x st') : evSs (.cons s ss) env st = .rt x st' := by
  show (evS s env st).seq (evSs ss) = _
  rw [h]
  rfl
theorem ite_of {c : Ex} {a b : Sms} {env : Env} {st st1 : Store} {fr k : Bool} {r : SR} (h : evE c true env st = .ok ⟨fr, .dat (.bool k)⟩ st1) (q : (bif k then evSs a env st1 else evSs b env st1) = r) : evS (.ite c a b) env st = r := by
  show ((evE c true env st).sr env fun x st => (boolOf x st).sr env fun k st => bif k then evSs a env st else evSs b env st) = r
  rw [h]
  exact q
theorem fn_ret {np ns : Nat} {m : Sms} {vs : List Val} {st st' : Store} {x : RV} (hl : vs.length = np) (h : evSs m (vs.map Slot.val ++ List.replicate (ns - np) .un) st = .rt x st') : fnOf np ns m vs st = .ok x st' := by
  show (bif decide (vs.length = np) then (match evSs m (vs.map Slot.val ++ List.replicate (ns - np) .un) st with
    | .nx _ st => R.ok (plain .none) st
    | .rt x st => R.ok x st
    | .ex c ds _ st => R.exc c ds st
    | _ => R.no) else R.no) = _
  rw [decide_eq_true hl, h]
  rfl

/-! ### loops -/
def TurnsTo (x : SR) (env : Env) (st : Store) : Prop := x = .nx env st ∨ x = .ct env st
theorem forL_nx {tg : Tg} {body : Env → Store → SR} (P : List MP.D → Env → Store → Prop)
    (h : ∀ d r env st, P (d :: r) env st → ∃ env1 env2 st2, bindTg tg d env = some env1 ∧ TurnsTo (body env1 st) env2 st2 ∧ P r env2 st2) : ∀ items env st, P items env st → ∃ env' st', forL tg body items env st = .nx env' st' ∧ P [] env' st'
  | [], env, st, p => ⟨env, st, rfl, p⟩
  | d :: r, env, st, p => by
    obtain ⟨env1, env2, st2, hb, ht, q⟩ := h d r env st p
    obtain ⟨env', st', e, w⟩ := forL_nx P h r env2 st2 q
    refine ⟨env', st', ?_, w⟩
    show (match bindTg tg d env with
      | none => SR.no
      | some env' => turn (body env' st) (forL tg body r)) = _
    rw [hb]
    rcases ht with ht | ht <;> (show turn (body env1 st) (forL tg body r) = _; rw [ht]; exact e)
/-- one turn of a loop that may return or break -/
inductive Turned (P : Env → Store → Prop) (B : Env → Store → Prop) (Q : RV → Store → Prop) : SR → Prop
  | nx {env : Env} {st : Store} : P env st → Turned P B Q (.nx env st)
  | ct {env : Env} {st : Store} : P env st → Turned P B Q (.ct env st)
  | br {env : Env} {st : Store} : B env st → Turned P B Q (.br env st)
  | rt {x : RV} {st : Store} : Q x st → Turned P B Q (.rt x st)
theorem forL_or {tg : Tg} {body : Env → Store → SR} (P : List MP.D → Env → Store → Prop) (B : Env → Store → Prop) (Q : RV → Store → Prop)
    (h : ∀ d r env st, P (d :: r) env st → ∃ env1, bindTg tg d env = some env1 ∧ Turned (P r) B Q (body env1 st)) : ∀ items env st, P items env st →
    (∃ env' st', forL tg body items env st = .nx env' st' ∧ (P [] env' st' ∨ B env' st')) ∨ ∃ x st', forL tg body items env st = .rt x st' ∧ Q x st'
  | [], env, st, p => .inl ⟨env, st, rfl, .inl p⟩
  | d :: r, env, st, p => by
    obtain ⟨env1, hb, ht⟩ := h d r env st p
    have e : forL tg body (d :: r) env st = turn (body env1 st) (forL tg body r) := by
      show (match bindTg tg d env with
        | none => SR.no
        | some env' => turn (body env' st) (forL tg body r)) = _
      rw [hb]
    rw [e]
    generalize body env1 st = y at ht
    cases ht with
    | nx q => exact forL_or P B Q h r _ _ q
    | ct q => exact forL_or P B Q h r _ _ q
    | br q => exact .inl ⟨_, _, rfl, .inr q⟩
    | rt q => exact .inr ⟨_, _, rfl, q⟩
theorem whileL_nx {test : Env → Store → R Bool} {body : Env → Store → SR} (P : Nat → Env → Store → Prop) (E : Env → Store → Prop)
    (h : ∀ n env st, P n env st → (∃ st1, test env st = .ok false st1 ∧ E env st1) ∨ ∃ st1 env2 st2 m, test env st = .ok true st1 ∧ TurnsTo (body env st1) env2 st2 ∧ m < n ∧ P m env2 st2) : ∀ n fuel env st, n < fuel → P n env st → ∃ env' st', whileL test body fuel env st = .nx env' st' ∧ E env' st' := by
  intro n fuel
  induction fuel generalizing n with
  | zero => intro env st hn; omega
  | succ fuel ih =>
    intro env st hn p
    have e : whileL test body (fuel + 1) env st = (test env st).sr env fun k st => bif k then turn (body env st) (whileL test body fuel) else .nx env st := rfl
    rw [e]
    rcases h n env st p with ⟨st1, et, q⟩ | ⟨st1, env2, st2, m, et, ht, hm, q⟩
    · rw [et]
      exact ⟨env, st1, rfl, q⟩
    · obtain ⟨env', st', e2, w⟩ := ih m env2 st2 (by omega) q
      refine ⟨env', st', ?_, w⟩
      rw [et]
      rcases ht with ht | ht <;> (show turn (body env st1) (whileL test body fuel) = _; rw [ht]; exact e2)
theorem compL_map {f : MP.D → Store → R (Option MP.D)} {st : Store} (g : MP.D → MP.D) : ∀ {items acc : List MP.D}, (∀ d ∈ items, f d st = .ok (some (g d)) st) → acc.length + items.length ≤ sizeLine → compL f items acc st = .ok (acc ++ items.map g) st
  | [], acc, _, _ => by
    rw [List.map_nil, List.append_nil]
    rfl
  | d :: r, acc, h, hl => by
    have hl' : acc.length + (r.length + 1) ≤ sizeLine := hl
    have e : compL f (d :: r) acc st = compL f r (acc ++ [g d]) st := by
      show (match f d st with
        | .ok (some y) st1 => bif fitsS acc.length then compL f r (acc ++ [y]) st1 else R.no
        | .ok none st1 => compL f r acc st1
        | _ => R.no) = _
      rw [h d List.mem_cons_self]
      have q : fitsS acc.length = true := decide_eq_true (by omega)
      rw [q]
      rfl
    rw [e, compL_map g (fun d hd => h d (List.mem_cons_of_mem _ hd)) (by rw [List.length_append, List.length_singleton]; omega)]
    rw [List.append_assoc]
    rfl
theorem compL_opt {f : MP.D → Store → R (Option MP.D)} {st : Store} (g : MP.D → Option MP.D) : ∀ {items acc : List MP.D}, (∀ d ∈ items, f d st = .ok (g d) st) → acc.length + items.length ≤ sizeLine → compL f items acc st = .ok (acc ++ items.filterMap g) st
  | [], acc, _, _ => by
    rw [List.filterMap_nil, List.append_nil]
    rfl
  | d :: r, acc, h, hl => by
    have hl' : acc.length + (r.length + 1) ≤ sizeLine := hl
    have e : compL f (d :: r) acc st = (match g d with
        | some y => bif fitsS acc.length then compL f r (acc ++ [y]) st else R.no
        | none => compL f r acc st) := by
      show (match f d st with
        | .ok (some y) st1 => bif fitsS acc.length then compL f r (acc ++ [y]) st1 else R.no
        | .ok none st1 => compL f r acc st1
        | _ => R.no) = _
      rw [h d List.mem_cons_self]
      cases g d <;> rfl
    rw [e]
    cases hg : g d with
    | none =>
      rw [List.filterMap_cons_none hg]
      exact compL_opt g (fun d hd => h d (List.mem_cons_of_mem _ hd)) (by omega)
    | some y =>
      have q : fitsS acc.length = true := decide_eq_true (by omega)
      rw [q]
      show compL f r (acc ++ [y]) st = _
      rw [compL_opt g (fun d hd => h d (List.mem_cons_of_mem _ hd)) (by rw [List.length_append, List.length_singleton]; omega), List.filterMap_cons_some hg, List.append_assoc]
      rfl
/-- a comprehension that turns the store -/
theorem compL_ind {f : MP.D → Store → R (Option MP.D)} (P : List MP.D → List MP.D → Store → Prop) (h : ∀ d r acc st, P (d :: r) acc st → ∃ y st1, f d st = .ok y st1 ∧ acc.length < sizeLine ∧ P r (match y with
    | some y => acc ++ [y]
    | none => acc) st1) : ∀ items acc st, P items acc st → ∃ ys st', compL f items acc st = .ok ys st' ∧ P [] ys st'
  | [], acc, st, p => ⟨acc, st, rfl, p⟩
  | d :: r, acc, st, p => by
    obtain ⟨y, st1, e, hz, q⟩ := h d r acc st p
    obtain ⟨ys, st', e2, w⟩ := compL_ind P h r _ st1 q
    refine ⟨ys, st', ?_, w⟩
    show (match f d st with
      | .ok (some y) st1 => bif fitsS acc.length then compL f r (acc ++ [y]) st1 else R.no
      | .ok none st1 => compL f r acc st1
      | _ => R.no) = _
    rw [e]
    cases y with
    | none => exact e2
    | some y =>
      have q : fitsS acc.length = true := decide_eq_true hz
      show (bif fitsS acc.length then _ else _) = _
      rw [q]
      exact e2
theorem fits_of {n : Nat} (h : n ≤ 2 ^ 24) : fits n = true := decide_eq_true h
theorem fitsS_of {n : Nat} (h : n < 2 ^ 24) : fitsS n = true := decide_eq_true h

section
variable {env : Env} {st st1 st2 : Store} {pk : Bool}
theorem comp_of {elt : Ex} {own : List (Str × Nat)} {tg : Tg} {it : It} {ifs : Opt} {items ys : List MP.D} (hi : evI it env st = .ok items st1) (hc : compL (compF elt own tg ifs env) items [] st1 = .ok ys st2) : evE (.comp elt own tg it ifs) pk env st = .ok ⟨true, .dat (.list ys)⟩ st2 := by
  show ((evI it env st).bind fun items st => (compL (compF elt own tg ifs env) items [] st).bind fun ys st => R.ok (fresh (.list ys)) st) = _
  rw [hi]
  show ((compL (compF elt own tg ifs env) items [] st1).bind fun ys st => R.ok (fresh (.list ys)) st) = _
  rw [hc]
  rfl
theorem for_of {tg : Tg} {it : It} {b : Sms} {items : List MP.D} {r : SR} (hi : evI it env st = .ok items st1) (h : forL tg (evSs b) items env st1 = r) : evS (.forr tg it b) env st = r := by
  show ((evI it env st).sr env fun items st => forL tg (evSs b) items env st) = r
  rw [hi]
  exact h
theorem set_of {i : Nat} {e : Ex} {x : RV} (h : evE e false env st = .ok x st1) : evS (.set i false e) env st = .nx (List.set env i (.val x.v)) st1 := by
  show ((evE e false env st).sr env fun x st => bif false then (match x with
    | ⟨true, .dat d⟩ => SR.nx (List.set env i (.own d)) st
    | _ => .no) else .nx (List.set env i (.val x.v)) st) = _
  rw [h]
  rfl
theorem setown_of {i : Nat} {e : Ex} {d : MP.D} (h : evE e false env st = .ok ⟨true, .dat d⟩ st1) : evS (.set i true e) env st = .nx (List.set env i (.own d)) st1 := by
  show ((evE e false env st).sr env fun x st => bif true then (match x with
    | ⟨true, .dat d⟩ => SR.nx (List.set env i (.own d)) st
    | _ => .no) else .nx (List.set env i (.val x.v)) st) = _
  rw [h]
  rfl
theorem ret_of {e : Ex} {x : RV} (h : evE e false env st = .ok x st1) (hv : evS (.ret e) env st = (evE e false env st).sr env fun x st => .rt x st := by rfl) : evS (.ret e) env st = .rt x st1 := by
  rw [hv, h]
  rfl
theorem call_of {f : Str} {sem : Fn} {es : Exs} {vs : List Val} {r : R RV} (h : evV es env st = .ok vs st1) (q : sem vs st1 = r) : evE (.call f sem es) pk env st = r := by
  show ((evV es env st).bind fun vs st => sem vs st) = r
  rw [h]
  exact q
theorem rng1_of {a : Ex} {i : Int} {fr : Bool} (h : evE a true env st = .ok ⟨fr, .dat (.int i)⟩ st1) (hi : -(2 ^ 62) ≤ i ∧ i < 2 ^ 62) : evI (.rng1 a) env st = .ok (rangeUp 0 i) st1 := by
  show ((evE a true env st).bind fun x st => (intOf x st).bind fun i st => bif rngOk i then R.ok (rangeUp 0 i) st else .no) = _
  rw [h]
  show (bif rngOk i then R.ok (rangeUp 0 i) st1 else .no) = _
  rw [show rngOk i = true by simp only [rngOk, Bool.and_eq_true, decide_eq_true_eq]; exact hi]
  rfl
theorem rng2_of {a b : Ex} {i j : Int} {fr fr' : Bool} (h : evE a true env st = .ok ⟨fr, .dat (.int i)⟩ st1) (h' : evE b true env st1 = .ok ⟨fr', .dat (.int j)⟩ st2) (hi : -(2 ^ 62) ≤ i ∧ i < 2 ^ 62) (hj : -(2 ^ 62) ≤ j ∧ j < 2 ^ 62) : evI (.rng2 a b) env st = .ok (rangeUp i j) st2 := by
  show ((evE a true env st).bind fun x st => (intOf x st).bind fun i st => (evE b true env st).bind fun x st => (intOf x st).bind fun j st => bif rngOk i && rngOk j then R.ok (rangeUp i j) st else .no) = _
  rw [h]
  show ((evE b true env st1).bind fun x st => (intOf x st).bind fun j st => bif rngOk i && rngOk j then R.ok (rangeUp i j) st else .no) = _
  rw [h']
  show (bif rngOk i && rngOk j then R.ok (rangeUp i j) st2 else .no) = _
  rw [show rngOk i = true by simp only [rngOk, Bool.and_eq_true, decide_eq_true_eq]; exact hi, show rngOk j = true by simp only [rngOk, Bool.and_eq_true, decide_eq_true_eq]; exact hj]
  rfl
end
theorem bin_of {env : Env} {st st1 st2 : Store} {pk : Bool} {o : Op2} {a b : Ex} {f1 f2 fr : Bool} {x y d : MP.D} (ha : evE a true env st = .ok ⟨f1, .dat x⟩ st1) (hb : evE b true env st1 = .ok ⟨f2, .dat y⟩ st2) (h : bin o x y = some (fr, d)) : evE (.bin o a b) pk env st = .ok ⟨fr, .dat d⟩ st2 := by
  show ((evE a true env st).bind fun x st => (datOf x st).bind fun x st => (evE b true env st).bind fun y st => (datOf y st).bind fun y st => ofBD (bin o x y) st) = _
  rw [ha]
  show ((evE b true env st1).bind fun y st => (datOf y st).bind fun y st => ofBD (bin o x y) st) = _
  rw [hb]
  show ofBD (bin o x y) st2 = _
  rw [h]
  rfl
theorem bin_ll {xs ys : List MP.D} (h : xs.length + ys.length ≤ 2 ^ 24) : bin .add (.list xs) (.list ys) = some (true, .list (xs ++ ys)) := by
  show (bif fits (xs.length + ys.length) then some (true, PyData.list (xs ++ ys)) else none) = _
  rw [fits_of h]
  rfl
theorem bin_tt {xs ys : List MP.D} (h : xs.length + ys.length ≤ 2 ^ 24) : bin .add (.tuple xs) (.tuple ys) = some (false, .tuple (xs ++ ys)) := by
  show (bif fits (xs.length + ys.length) then some (false, PyData.tuple (xs ++ ys)) else none) = _
  rw [fits_of h]
  rfl
theorem rangeUp_len (i j : Int) : (rangeUp i j).length = (j - i).toNat := by simp [rangeUp]
end MP

/-! What all laws have: the source of draws. -/
namespace MK
open PySem MP
def n__law_open_cells : List Str := ["_law_script", "_law_mixed", "_law_cell", "_law_cells"]
def b__law_open_cells : Sms := (.cons (.set 1 false (.cst (.int 11))) (.cons (.forr (.nm 2) (.seq (.var 0)) (.cons (.set 1 false (.bin .mod (.blt .int (.cons (.bin .add (.bin .add (.bin .mul (.var 1) (.cst (.int 69069))) (.bin .mul (.var 2) (.cst (.int 31)))) (.cst (.int 5))) .nil)) (.cst (.int 2147483629)))) .nil)) (.cons (.set 3 false (.comp (.blt .abs (.cons (.var 2) .nil)) [("_law_cell", 2)] (.nm 2) (.seq (.var 0)) .non)) (.cons (.ret (.dicl ["cells", "left", "mixed", "turn"] (.cons (.toloc (.rev (.var 3))) (.cons (.cst (.int 1)) (.cons (.var 1) (.cons (.cst (.int 0)) .nil)))))) .nil))))
def f__law_open_cells : Fn := fnOf 1 4 b__law_open_cells
def r__law_open_cells : List Req := [.non "int", .non "abs"]
theorem q__law_open_cells : rqSs b__law_open_cells = [0, 1].map fun i => r__law_open_cells.getD i (.non "") := rfl
def n__law_pick : List Str := ["_law_source", "_law_most", "_law_cells", "_law_left", "_law_turn", "_law_mixed"]
def b__law_pick : Sms := (.cons (.ite (.cmp .lt (.var 1) (.cst (.int 2))) (.cons (.ret (.cst (.int 0))) .nil) .nil) (.cons (.set 2 false (.ix (.var 0) (.cst (.str "cells")))) (.cons (.whil (.and (.cmp .lt (.ix (.var 0) (.cst (.str "left"))) (.cst (.int 2))) (.cmp .gt (.lenl (.var 2)) (.cst (.int 0)))) (.cons (.setloc (.var 0) (.cst (.str "left")) (.popl (.var 2))) .nil)) (.cons (.set 3 false (.ix (.var 0) (.cst (.str "left")))) (.cons (.ite (.cmp .gt (.var 3) (.cst (.int 1))) (.cons (.setloc (.var 0) (.cst (.str "left")) (.bin .fdiv (.var 3) (.var 1))) (.cons (.ret (.bin .mod (.blt .int (.cons (.var 3) .nil)) (.var 1))) .nil)) .nil) (.cons (.setloc (.var 0) (.cst (.str "turn")) (.bin .add (.ix (.var 0) (.cst (.str "turn"))) (.cst (.int 1)))) (.cons (.set 4 false (.ix (.var 0) (.cst (.str "turn")))) (.cons (.set 5 false (.bin .mod (.blt .int (.cons (.bin .add (.ix (.var 0) (.cst (.str "mixed"))) (.bin .mul (.var 4) (.cst (.int 104729)))) .nil)) (.cst (.int 998244353)))) (.cons (.set 5 false (.bin .mod (.blt .int (.cons (.bin .add (.bin .mul (.var 5) (.var 5)) (.bin .mul (.var 4) (.cst (.int 17)))) .nil)) (.cst (.int 2147483647)))) (.cons (.ret (.bin .mod (.blt .int (.cons (.bin .fdiv (.var 5) (.cst (.int 16))) .nil)) (.var 1))) .nil))))))))))
def f__law_pick : Fn := fnOf 2 6 b__law_pick
def r__law_pick : List Req := [.non "len", .non "int"]
theorem q__law_pick : rqSs b__law_pick = [0, 1, 1, 1, 1].map fun i => r__law_pick.getD i (.non "") := rfl
def Src (r : Store) (cs : List Int) (l m t : Int) : Store := .lst (cs.map PyData.int) :: .dic [("cells", .loc 0), ("left", .dat (.int l)), ("mixed", .dat (.int m)), ("turn", .dat (.int t))] :: r
def IsSrc (st : Store) : Prop := ∃ r cs l m t, st = Src r cs l m t ∧ cs.length ≤ 63
theorem IsSrc.app {st x : Store} (h : IsSrc st) : IsSrc (st ++ x) := by
  obtain ⟨r, cs, l, m, t, rfl, hl⟩ := h
  exact ⟨r ++ x, cs, l, m, t, rfl, hl⟩
theorem pick_lt (n : Int) (h : n < 2) (st : Store) : f__law_pick [.loc 1, .dat (.int n)] st = .ok (plain (.int 0)) st := by
  simp [f__law_pick, fnOf, b__law_pick, evSs, evS, evE, cmpD, h]
def pickT : Ex := (.and (.cmp .lt (.ix (.var 0) (.cst (.str "left"))) (.cst (.int 2))) (.cmp .gt (.lenl (.var 2)) (.cst (.int 0))))
def pickB : Sms := (.cons (.setloc (.var 0) (.cst (.str "left")) (.popl (.var 2))) .nil)
theorem pickT_eq {r : Store} {s1 s3 s4 s5 : Slot} {cs : List Int} {l m t : Int} : ((evE pickT true [.val (.loc 1), s1, .val (.loc 0), s3, s4, s5] (Src r cs l m t)).bind fun x st => boolOf x st) = .ok (decide (l < 2) && decide ((0 : Int) < (cs.map PyData.int).length)) (Src r cs l m t) := by
  have e : evE pickT true [.val (.loc 1), s1, .val (.loc 0), s3, s4, s5] (Src r cs l m t) = (bif decide (l < 2) then (R.ok (plain (.bool (decide ((0 : Int) < (cs.map PyData.int).length)))) (Src r cs l m t)) else .ok (plain (.bool false)) (Src r cs l m t)) := rfl
  rw [e]
  cases decide (l < 2) <;> rfl
theorem pickB_eq {r : Store} {s1 s3 s4 s5 : Slot} {cs : List Int} {c l m t : Int} : evSs pickB [.val (.loc 1), s1, .val (.loc 0), s3, s4, s5] (Src r (cs ++ [c]) l m t) = .nx [.val (.loc 1), s1, .val (.loc 0), s3, s4, s5] (Src r cs c m t) := by
  have e : evE (.popl (.var 2)) false [.val (.loc 1), s1, .val (.loc 0), s3, s4, s5] (Src r (cs ++ [c]) l m t) = .ok (plain (.int c)) (Src r cs l m t) := by
    show (match ((cs ++ [c]).map PyData.int).getLast? with
        | some d => R.ok (plain d) ((Src r (cs ++ [c]) l m t).set 0 (.lst ((cs ++ [c]).map PyData.int).dropLast))
        | none => .no) = _
    simp [Src]
  refine seq_of ?_ rfl
  show ((evE (.popl (.var 2)) false [.val (.loc 1), s1, .val (.loc 0), s3, s4, s5] (Src r (cs ++ [c]) l m t)).sr _ _) = _
  rw [e]
  rfl
theorem pick_while {r : Store} {s1 s3 s4 s5 : Slot} {m t : Int} : ∀ (n : Nat) (cs : List Int) (l : Int), cs.length < n → ∃ cs' l', whileL (fun env st => (evE pickT true env st).bind fun x st => boolOf x st) (evSs pickB) n [.val (.loc 1), s1, .val (.loc 0), s3, s4, s5] (Src r cs l m t) =
    .nx [.val (.loc 1), s1, .val (.loc 0), s3, s4, s5] (Src r cs' l' m t) ∧ cs'.length ≤ cs.length
  | 0, cs, l, h => by omega
  | n + 1, cs, l, h => by
    have go : ∀ q, (bif (decide (l < 2) && decide ((0 : Int) < (cs.map PyData.int).length)) then turn (evSs pickB [.val (.loc 1), s1, .val (.loc 0), s3, s4, s5] (Src r cs l m t)) (whileL (fun env st => (evE pickT true env st).bind fun x st => boolOf x st) (evSs pickB) n) else .nx [.val (.loc 1), s1, .val (.loc 0), s3, s4, s5] (Src r cs l m t)) = q →
        whileL (fun env st => (evE pickT true env st).bind fun x st => boolOf x st) (evSs pickB) (n + 1) [.val (.loc 1), s1, .val (.loc 0), s3, s4, s5] (Src r cs l m t) = q := by
      intro q hr
      show (((evE pickT true [.val (.loc 1), s1, .val (.loc 0), s3, s4, s5] (Src r cs l m t)).bind fun x st => boolOf x st).sr _ _) = q
      rw [pickT_eq]
      exact hr
    by_cases h1 : l < 2
    · rcases List.eq_nil_or_concat cs with rfl | ⟨cs0, c, rfl⟩
      · exact ⟨[], l, go _ (by rw [decide_eq_true h1]; rfl), Nat.le_refl _⟩
      · rw [List.concat_eq_append] at *
        obtain ⟨cs', l', e, hl⟩ := pick_while (s1 := s1) (s3 := s3) (s4 := s4) (s5 := s5) (m := m) (t := t) n cs0 c (by rw [List.length_append] at h; simp at h; omega)
        refine ⟨cs', l', go _ ?_, by rw [List.length_append]; omega⟩
        rw [decide_eq_true h1, decide_eq_true (show (0 : Int) < ((cs0 ++ [c]).map PyData.int).length by simp), pickB_eq]
        exact e
    · exact ⟨cs, l, go _ (by rw [decide_eq_false h1]; rfl), Nat.le_refl _⟩
theorem pick_ok (n : Int) (hn : n.natAbs.log2 < 9000) (st : Store) (h : IsSrc st) : ∃ k st', f__law_pick [.loc 1, .dat (.int n)] st = .ok (plain (.int k)) st' ∧ IsSrc st' ∧ 0 ≤ k ∧ (2 ≤ n → k < n) ∧ (n < 2 → k = 0) := by
  by_cases h2 : n < 2
  · exact ⟨0, st, pick_lt n h2 st, h, by omega, by omega, fun _ => rfl⟩
  obtain ⟨r, cs, l, m, t, rfl, hl⟩ := h
  obtain ⟨cs', l', ew, hl'⟩ := pick_while (s1 := .val (.dat (.int n))) (s3 := .un) (s4 := .un) (s5 := .un) (m := m) (t := t) WF cs l (Nat.lt_of_le_of_lt hl (by decide))
  have hd : divOk n = true := by simp [divOk]; omega
  have hm : decide (n ≠ 0) = true := decide_eq_true (by omega)
  have fm : ∀ a : Int, 0 ≤ a.fmod n ∧ a.fmod n < n := fun a => by rw [Int.fmod_eq_emod_of_nonneg _ (by omega)]; exact ⟨Int.emod_nonneg _ (by omega), Int.emod_lt_of_pos _ (by omega)⟩
  by_cases h3 : 1 < l'
  · refine ⟨l'.fmod n, Src r cs' (l'.fdiv n) m t, fn_ret rfl ?_, ⟨_, cs', _, _, _, rfl, by omega⟩, (fm _).1, fun _ => (fm _).2, fun q => (h2 q).elim⟩
    refine seq_of (ite_of (k := false) (by show R.ok (plain (.bool (decide (n < 2)))) _ = _; rw [decide_eq_false h2]; rfl) rfl) ?_
    refine seq_of rfl (seq_of ew (seq_of rfl (seq_end (ite_of (k := true) (by show R.ok (plain (.bool (decide (1 < l')))) _ = _; rw [decide_eq_true h3]; rfl) ?_))))
    refine seq_of (env' := [.val (.loc 1), .val (.dat (.int n)), .val (.loc 0), .val (.dat (.int l')), .un, .un]) (st' := Src r cs' (l'.fdiv n) m t) ?_ (seq_end ?_)
    · show ((ofBD (bif divOk n then some (false, .int (l'.fdiv n)) else none) (Src r cs' l' m t)).sr _ _) = _
      rw [hd]
      rfl
    · show ((ofBD (bif decide (n ≠ 0) then some (false, .int (l'.fmod n)) else none) (Src r cs' (l'.fdiv n) m t)).sr _ _) = _
      rw [hm]
      rfl
  · have hb : ∀ x : Int, (x.fmod 998244353).natAbs < 2 ^ 64 := fun x => by
      have e : x.fmod 998244353 = x % 998244353 := Int.fmod_eq_emod_of_nonneg _ (by decide)
      have h1 := Int.emod_nonneg x (show (998244353 : Int) ≠ 0 by decide)
      have h2 := Int.emod_lt_of_pos x (show (0 : Int) < 998244353 by decide)
      omega
    have hq : ∀ x : Int, mulOk (x.fmod 998244353) (x.fmod 998244353) = true := fun x => by
      unfold mulOk
      rw [decide_eq_true (hb x)]
      rfl
    have hc : ∀ (x k : Int), k.natAbs < 2 ^ 64 → mulOk x k = true := fun x k hk => by
      unfold mulOk
      rw [decide_eq_true hk, Bool.or_true]
      rfl
    have hs0 : ∀ (x k : Int), k.natAbs < 2 ^ 64 → ofBD (bin .mul (.int x) (.int k)) (Src r cs' l' m (t + 1)) = .ok ⟨false, .dat (.int (x * k))⟩ (Src r cs' l' m (t + 1)) := fun x k hk => by
      show ofBD (bif mulOk x k then some (false, .int (x * k)) else none) _ = _
      rw [hc x k hk]
      rfl
    refine ⟨_, Src r cs' l' m (t + 1), fn_ret (x := plain (.int (((((m + (t + 1) * 104729).fmod 998244353 * (m + (t + 1) * 104729).fmod 998244353 + (t + 1) * 17).fmod 2147483647).fdiv 16).fmod n))) rfl ?_, ⟨_, cs', _, _, _, rfl, by omega⟩, (fm _).1, fun _ => (fm _).2, fun q => (h2 q).elim⟩
    refine seq_of (ite_of (k := false) (by show R.ok (plain (.bool (decide (n < 2)))) _ = _; rw [decide_eq_false h2]; rfl) rfl) ?_
    refine seq_of rfl (seq_of ew (seq_of rfl (seq_of (ite_of (k := false) (by show R.ok (plain (.bool (decide (1 < l')))) _ = _; rw [decide_eq_false h3]; rfl) rfl) ?_)))
    refine seq_of (env' := [.val (.loc 1), .val (.dat (.int n)), .val (.loc 0), .val (.dat (.int l')), .un, .un]) (st' := Src r cs' l' m (t + 1)) rfl (seq_of rfl ?_)
    have e1 : ∀ {b : Bool}, ixV ⟨b, .loc 1⟩ ⟨false, .dat (.str "mixed")⟩ (Src r cs' l' m (t + 1)) = .ok ⟨false, .dat (.int m)⟩ (Src r cs' l' m (t + 1)) := rfl
    have e2 : divOk 16 = true := by decide
    have hd0 : ¬ n = 0 := by omega
    simp [evSs, evS, evE, evP, bltF, bin, e1, e2, hc, hq, hd0]

theorem cells_ok (ns : List Int) (hl : ns.length ≤ 63) : ∃ st', f__law_open_cells [.dat (scriptD ns)] [] = .ok ⟨false, .loc 1⟩ st' ∧ IsSrc st' := by
  have hm : ∀ (x k : Int), k.natAbs < 2 ^ 64 → mulOk x k = true := fun x k hk => by
    unfold mulOk
    rw [decide_eq_true hk, Bool.or_true]
    rfl
  obtain ⟨env', st', e, hp⟩ := forL_nx (tg := .nm 2) (body := evSs (.cons (.set 1 false (.bin .mod (.blt .int (.cons (.bin .add (.bin .add (.bin .mul (.var 1) (.cst (.int 69069))) (.bin .mul (.var 2) (.cst (.int 31)))) (.cst (.int 5))) .nil)) (.cst (.int 2147483629)))) .nil))
    (fun r env st => st = [] ∧ (∃ ms, r = ms.map PyData.int) ∧ ∃ (m : Int) (s : Slot), env = [.val (.dat (scriptD ns)), .val (.dat (.int m)), s, .un]) (fun d r env st hp => by
      obtain ⟨rfl, ⟨ms, em⟩, m, s, rfl⟩ := hp
      cases ms with
      | nil => cases em
      | cons c ms =>
        cases em
        refine ⟨_, _, _, rfl, .inl ?_, rfl, ⟨ms, rfl⟩, (m * 69069 + c * 31 + 5).fmod 2147483629, .val (.dat (.int c)), rfl⟩
        simp [evSs, evS, evE, evP, bltF, bin, hm]) (ns.map PyData.int) [.val (.dat (scriptD ns)), .val (.dat (.int 11)), .un, .un] [] ⟨rfl, ⟨ns, rfl⟩, 11, .un, rfl⟩
  obtain ⟨rfl, _, m, s, rfl⟩ := hp
  refine ⟨Src [] (ns.map fun n => ((n.natAbs : Nat) : Int)).reverse 1 m 0, fn_ret rfl ?_, _, _, _, _, _, rfl, by simpa using hl⟩
  refine seq_of rfl (seq_of e ?_)
  have ec : evE (.comp (.blt .abs (.cons (.var 2) .nil)) [("_law_cell", 2)] (.nm 2) (.seq (.var 0)) .non) false [.val (.dat (scriptD ns)), .val (.dat (.int m)), s, .un] [] = .ok (fresh (.list ((ns.map fun n => ((n.natAbs : Nat) : Int)).map PyData.int))) [] := by
    show ((compL _ (ns.map PyData.int) [] []).bind fun ys st => R.ok (fresh (.list ys)) st) = _
    rw [compL_map (fun d => match d with | .int n => .int n.natAbs | d => d) (fun d hd => ?_) (by simp [sizeLine]; omega)]
    · simp [List.map_map, Function.comp_def]
    · obtain ⟨n, _, rfl⟩ := List.mem_map.mp hd
      rfl
  refine seq_of (env' := [.val (.dat (scriptD ns)), .val (.dat (.int m)), s, .val (.dat (.list ((ns.map fun n => ((n.natAbs : Nat) : Int)).map PyData.int)))]) (st' := []) ?_ (seq_end ?_)
  · show ((evE (.comp (.blt .abs (.cons (.var 2) .nil)) [("_law_cell", 2)] (.nm 2) (.seq (.var 0)) .non) false [.val (.dat (scriptD ns)), .val (.dat (.int m)), s, .un] []).sr _ _) = _
    rw [ec]
    rfl
  · unfold Src
    rw [List.map_reverse]
    rfl
end MK

/-! Data: equality, depth, the length of what repr tells. -/
namespace MP
open PySem
mutual
/-- ints of bounded size, bools, None, tuples and lists of such -/
def okD : MP.D → Bool
  | .none => true
  | .bool _ => true
  | .int i => decide (i.natAbs.log2 < 1900)
  | .str x => (PyData.str x).showable && (PyData.str x).canLay0 && decide ((PyData.str x).shown.length ≤ 20)
  | .list xs => okDs xs
  | .tuple xs => okDs xs
  | .dict _ => false
def okDs : List MP.D → Bool
  | [] => true
  | x :: xs => okD x && okDs xs
end
mutual
def wtD : MP.D → Nat
  | .none => 4
  | .bool _ => 5
  | .int i => i.natAbs.log2 + 2
  | .str _ => 20
  | .list xs => wtDs xs + 3
  | .tuple xs => wtDs xs + 3
  | .dict _ => 0
def wtDs : List MP.D → Nat
  | [] => 0
  | x :: xs => wtD x + 2 + wtDs xs
end
mutual
theorem ok_showable : ∀ d : MP.D, okD d = true → d.showable = true
  | .none, _ => rfl
  | .bool _, _ => rfl
  | .int i, h => by
    simp only [okD, decide_eq_true_eq] at h
    rw [PyData.showable, decide_eq_true_eq]
    omega
  | .list xs, h => by
    simp only [PyData.showable]
    exact oks_showable xs h
  | .tuple xs, h => by
    simp only [PyData.showable]
    exact oks_showable xs h
  | .str x, h => by
    simp only [okD, Bool.and_eq_true] at h
    exact h.1.1
  | .dict _, h => by cases h
theorem oks_showable : ∀ d : List MP.D, okDs d = true → PyData.showableAll d = true
  | [], _ => rfl
  | x :: xs, h => by
    obtain ⟨h1, h2⟩ := Bool.and_eq_true_iff.mp (show (okD x && okDs xs) = true from h)
    simp only [PyData.showableAll, ok_showable x h1, oks_showable xs h2, Bool.and_self]
end
mutual
theorem ok_nodict : ∀ d : MP.D, okD d = true → d.hasDict = false
  | .none, _ => rfl
  | .bool _, _ => rfl
  | .int i, h => rfl
  | .list xs, h => by
    simp only [PyData.hasDict]
    exact oks_nodict xs h
  | .tuple xs, h => by
    simp only [PyData.hasDict]
    exact oks_nodict xs h
  | .str _, h => by simp only [PyData.hasDict]
  | .dict _, h => by cases h
theorem oks_nodict : ∀ d : List MP.D, okDs d = true → PyData.hasDictAll d = false
  | [], _ => rfl
  | x :: xs, h => by
    obtain ⟨h1, h2⟩ := Bool.and_eq_true_iff.mp (show (okD x && okDs xs) = true from h)
    simp only [PyData.hasDictAll, ok_nodict x h1, oks_nodict xs h2, Bool.or_self]
end
mutual
theorem ok_lay : ∀ d : MP.D, okD d = true → d.canLay0 = true
  | .none, _ => rfl
  | .bool _, _ => rfl
  | .int i, h => rfl
  | .list xs, h => by
    simp only [PyData.canLay0]
    exact oks_lay xs h
  | .tuple xs, h => by
    simp only [PyData.canLay0]
    exact oks_lay xs h
  | .str x, h => by
    simp only [okD, Bool.and_eq_true] at h
    exact h.1.2
  | .dict _, h => by cases h
theorem oks_lay : ∀ d : List MP.D, okDs d = true → PyData.canLayAll0 d = true
  | [], _ => rfl
  | x :: xs, h => by
    obtain ⟨h1, h2⟩ := Bool.and_eq_true_iff.mp (show (okD x && okDs xs) = true from h)
    simp only [PyData.canLayAll0, ok_lay x h1, oks_lay xs h2, Bool.and_self]
end
theorem int_len (i : Int) : (Str.ofString (toString i)).length ≤ i.natAbs.log2 + 2 := by
  have h := int_text_length_le (a := i) (k := i.natAbs.log2 + 1) (by omega) (by omega)
  rw [ofString_length]
  omega
mutual
theorem shown_wt : ∀ d : MP.D, okD d = true → d.shown.length ≤ wtD d
  | .none, _ => by
    exact Nat.le_of_eq (show (PyData.shown .none).length = 4 from rfl)
  | .bool b, _ => by cases b <;> decide
  | .int i, h => by
    simp only [PyData.shown, wtD]
    exact int_len i
  | .list xs, h => by
    have q := listText_len_le (PyData.shownAll xs)
    have r := showns_wt xs h
    simp only [PyData.shown, wtD]
    omega
  | .tuple xs, h => by
    have q := tupleText_len_le (PyData.shownAll xs)
    have r := showns_wt xs h
    simp only [PyData.shown, wtD]
    omega
  | .str x, h => by
    simp only [okD, Bool.and_eq_true, decide_eq_true_eq] at h
    exact h.2
  | .dict _, h => by cases h
theorem showns_wt : ∀ d : List MP.D, okDs d = true → ((PyData.shownAll d).map (·.length)).sum + 2 * (PyData.shownAll d).length ≤ wtDs d
  | [], _ => Nat.le_refl _
  | x :: xs, h => by
    obtain ⟨h1, h2⟩ := Bool.and_eq_true_iff.mp (show (okD x && okDs xs) = true from h)
    have q := shown_wt x h1
    have r := showns_wt xs h2
    simp only [PyData.shownAll, wtDs, List.map_cons, List.sum_cons, List.length_cons]
    omega
end
theorem showOk_of {d : MP.D} (h : okD d = true) (hd : d.depth ≤ 100) (hw : wtD d ≤ 2 ^ 24) : showOk d = true := by
  unfold showOk
  rw [decide_eq_true hd, ok_showable d h, ok_nodict d h, show fits d.shown.length = true from decide_eq_true (Nat.le_trans (shown_wt d h) hw)]
  rfl
theorem shp_of {d : MP.D} (h : okD d = true) (hd : d.depth ≤ 64) : shp d = true := by
  show (d.canLay0 && decide (d.depth ≤ 64)) = true
  rw [ok_lay d h, decide_eq_true hd]
  rfl
mutual
/-- without bools, equal is the same -/
def noB : MP.D → Bool
  | .none => true
  | .bool _ => false
  | .int _ => true
  | .str _ => true
  | .list xs => noBs xs
  | .tuple xs => noBs xs
  | .dict _ => false
def noBs : List MP.D → Bool
  | [] => true
  | x :: xs => noB x && noBs xs
end
mutual
theorem eqv_same : ∀ (d e : MP.D), noB d = true → noB e = true → (PyData.eqv d e = true ↔ d = e)
  | .none, e, _, h => by cases e <;> simp_all [PyData.eqv, noB]
  | .int i, e, _, h => by cases e <;> simp_all [PyData.eqv, noB]
  | .str i, e, _, h => by cases e <;> simp_all [PyData.eqv, noB]
  | .list xs, e, h1, h2 => by
    cases e with
    | list ys => simpa [PyData.eqv] using eqvs_same xs ys h1 h2
    | _ => simp [PyData.eqv]
  | .tuple xs, e, h1, h2 => by
    cases e with
    | tuple ys => simpa [PyData.eqv] using eqvs_same xs ys h1 h2
    | _ => simp [PyData.eqv]
  | .bool _, _, h, _ => by cases h
  | .dict _, _, h, _ => by cases h
theorem eqvs_same : ∀ (d e : List MP.D), noBs d = true → noBs e = true → (PyData.eqvAll d e = true ↔ d = e)
  | [], [], _, _ => by simp [PyData.eqvAll]
  | [], _ :: _, _, _ => by simp [PyData.eqvAll]
  | _ :: _, [], _, _ => by simp [PyData.eqvAll]
  | x :: xs, y :: ys, h1, h2 => by
    obtain ⟨a1, a2⟩ := Bool.and_eq_true_iff.mp (show (noB x && noBs xs) = true from h1)
    obtain ⟨b1, b2⟩ := Bool.and_eq_true_iff.mp (show (noB y && noBs ys) = true from h2)
    simp [PyData.eqvAll, eqv_same x y a1 b1, eqvs_same xs ys a2 b2]
end
theorem noBs_map {α : Type} {f : α → MP.D} (h : ∀ a, noB (f a) = true) : ∀ l : List α, noBs (l.map f) = true
  | [] => rfl
  | a :: l => by
    show (noB (f a) && noBs (l.map f)) = true
    rw [h a, noBs_map h l]
    rfl
theorem okDs_map {α : Type} {f : α → MP.D} : ∀ {l : List α}, (∀ a ∈ l, okD (f a) = true) → okDs (l.map f) = true
  | [], _ => rfl
  | a :: l, h => by
    show (okD (f a) && okDs (l.map f)) = true
    rw [h a List.mem_cons_self, okDs_map fun b hb => h b (List.mem_cons_of_mem _ hb)]
    rfl
theorem depths_map {α : Type} {f : α → MP.D} {n : Nat} : ∀ {l : List α}, (∀ a ∈ l, (f a).depth ≤ n) → PyData.depthAll (l.map f) ≤ n
  | [], _ => Nat.zero_le _
  | a :: l, h => by
    have q := depths_map fun b hb => h b (List.mem_cons_of_mem (a := b) a hb)
    have r := h a List.mem_cons_self
    rw [List.map_cons, PyData.depthAll]
    omega
theorem wts_map {α : Type} {f : α → MP.D} {n : Nat} : ∀ {l : List α}, (∀ a ∈ l, wtD (f a) ≤ n) → wtDs (l.map f) ≤ (n + 2) * l.length
  | [], _ => Nat.zero_le _
  | a :: l, h => by
    have q := wts_map fun b hb => h b (List.mem_cons_of_mem (a := b) a hb)
    have r := h a List.mem_cons_self
    show wtD (f a) + 2 + wtDs (l.map f) ≤ (n + 2) * (l.length + 1)
    rw [Nat.mul_succ]
    omega
theorem eqvs_len : ∀ {xs ys : List MP.D}, xs.length ≠ ys.length → PyData.eqvAll xs ys = false
  | [], [], h => (h rfl).elim
  | [], _ :: _, _ => by simp [PyData.eqvAll]
  | _ :: _, [], _ => by simp [PyData.eqvAll]
  | x :: xs, y :: ys, h => by simp [PyData.eqvAll, eqvs_len (xs := xs) (ys := ys) (by simpa using h)]
theorem eqD_of {x y : MP.D} (hx : shp x = true) (hy : shp y = true) : eqD x y = some (PyData.eqv x y) := by
  have go : (bif shp x && shp y then some (PyData.eqv x y) else none) = some (PyData.eqv x y) := by
    rw [hx, hy]
    rfl
  cases x <;> cases y <;> first
    | exact go
    | rfl
    | (rename_i xs ys
       show (bif decide (xs.length = ys.length) then (bif shp (.list xs) && shp (.list ys) then some (PyData.eqv (.list xs) (.list ys)) else none) else some false) = _
       by_cases h : xs.length = ys.length
       · rw [decide_eq_true h]
         exact go
       · rw [decide_eq_false h]
         show some false = some (PyData.eqvAll xs ys)
         rw [eqvs_len h])
/-- lists that are not as long -/
theorem eqD_len {xs ys : List MP.D} (h : xs.length ≠ ys.length) : cmpD .eq (.list xs) (.list ys) = some false := by
  show (bif decide (xs.length = ys.length) then (bif shp (.list xs) && shp (.list ys) then some (PyData.eqv (.list xs) (.list ys)) else none) else some false) = _
  rw [decide_eq_false h]
  rfl
theorem cmp_eq {x y : MP.D} (hx : shp x = true) (hy : shp y = true) : cmpD .eq x y = some (PyData.eqv x y) := eqD_of hx hy
theorem cmp_ne {x y : MP.D} (hx : shp x = true) (hy : shp y = true) : cmpD .ne x y = some (!PyData.eqv x y) := by
  show (eqD x y).map not = _
  rw [eqD_of hx hy]
  rfl
theorem cmp_eqs {x y : Str} : cmpD .eq (.str x) (.str y) = some (decide (x = y)) := rfl
theorem cmp_nes {x y : Str} : cmpD .ne (.str x) (.str y) = some (!decide (x = y)) := rfl
theorem eqv_dec {x y : MP.D} {p : Prop} [Decidable p] (hx : noB x = true) (hy : noB y = true) (h : x = y ↔ p) : PyData.eqv x y = decide p := by
  have q := eqv_same x y hx hy
  by_cases hp : p
  · rw [decide_eq_true hp, q.mpr (h.mpr hp)]
  · rw [decide_eq_false hp]
    cases e : PyData.eqv x y with
    | false => rfl
    | true => exact (hp (h.mp (q.mp e))).elim
theorem blt_repr {d : MP.D} (h : showOk d = true) : bltF .repr [d] = some (false, PyData.str d.shown) := by
  show (bif showOk d then some (false, PyData.str d.shown) else none) = _
  rw [h]
  rfl
theorem shp_int (i : Int) : shp (.int i) = true := by
  show (PyData.canLay0 (.int i) && decide (PyData.depth (.int i) ≤ 64)) = true
  simp [PyData.canLay0, PyData.depth]
theorem eqv_int (a b : Int) : PyData.eqv (.int a) (.int b) = decide (a = b) := by
  simp only [PyData.eqv]
  rfl
@[simp] theorem cmp_int_eq (a b : Int) : cmpD .eq (.int a) (.int b) = some (decide (a = b)) := by rw [cmp_eq (shp_int a) (shp_int b), eqv_int]
@[simp] theorem cmp_int_ne (a b : Int) : cmpD .ne (.int a) (.int b) = some (!decide (a = b)) := by rw [cmp_ne (shp_int a) (shp_int b), eqv_int]
@[simp] theorem cmp_int_lt (a b : Int) : cmpD .lt (.int a) (.int b) = some (decide (a < b)) := Eq.trans rfl rfl
@[simp] theorem cmp_int_le (a b : Int) : cmpD .le (.int a) (.int b) = some (decide (a ≤ b)) := Eq.trans rfl rfl
@[simp] theorem cmp_int_gt (a b : Int) : cmpD .gt (.int a) (.int b) = some (decide (b < a)) := Eq.trans rfl rfl
@[simp] theorem cmp_int_ge (a b : Int) : cmpD .ge (.int a) (.int b) = some (decide (b ≤ a)) := Eq.trans rfl rfl
@[simp] theorem bin_int_add (a b : Int) : bin .add (.int a) (.int b) = some (false, .int (a + b)) := Eq.trans rfl rfl
@[simp] theorem bin_int_sub (a b : Int) : bin .sub (.int a) (.int b) = some (false, .int (a - b)) := Eq.trans rfl rfl
@[simp] theorem fits_0 : fits 0 = true := by decide
@[simp] theorem fits_1 : fits 1 = true := by decide
@[simp] theorem fits_2 : fits 2 = true := by decide
@[simp] theorem fits_3 : fits 3 = true := by decide
@[simp] theorem fits_4 : fits 4 = true := by decide
@[simp] theorem fits_5 : fits 5 = true := by decide
@[simp] theorem fits_6 : fits 6 = true := by decide
@[simp] theorem fits_7 : fits 7 = true := by decide
@[simp] theorem fits_8 : fits 8 = true := by decide
@[simp] theorem fits_9 : fits 9 = true := by decide
@[simp] theorem fits_10 : fits 10 = true := by decide
@[simp] theorem fits_11 : fits 11 = true := by decide
@[simp] theorem fits_12 : fits 12 = true := by decide
@[simp] theorem fits_13 : fits 13 = true := by decide
@[simp] theorem fits_14 : fits 14 = true := by decide
@[simp] theorem fits_15 : fits 15 = true := by decide
@[simp] theorem fits_16 : fits 16 = true := by decide
@[simp] theorem fitsS_0 : fitsS 0 = true := by decide
@[simp] theorem fitsS_1 : fitsS 1 = true := by decide
@[simp] theorem fitsS_2 : fitsS 2 = true := by decide
@[simp] theorem fitsS_3 : fitsS 3 = true := by decide
@[simp] theorem fitsS_4 : fitsS 4 = true := by decide
end MP

/-! What must hold ahead of a text of the small language, for something to hold behind it. -/
namespace MP
open PySem PyProof.Rows L2 PySem.Spec
section
variable {α β : Type} {st st1 : Store} {env : Env} {pk : Bool}
inductive Tag {α : Sort u} (a : α) : Type
  | mk
def bT (x : R α) (f : α → Store → R β) (_ : Tag f := .mk) : R β := x.bind f
def sT (x : R α) (env : Env) (f : α → Store → SR) (_ : Tag f := .mk) : SR := x.sr env f
def qT (x : SR) (f : Env → Store → SR) (_ : Tag f := .mk) : SR := x.seq f
def Cb {γ : Type} (c : Bool) (x y : γ) (_ : Tag x := .mk) (_ : Tag y := .mk) : γ := bif c then x else y
def oT {γ : Type} (o : Option Env) (no : γ) (f : Env → γ) (_ : Tag f := .mk) : γ := match o with
  | none => no
  | some e => f e
theorem bT_ok {a : α} {f : α → Store → R β} {t : Tag f} : bT (R.ok a st) f t = f a st := Eq.trans rfl rfl
theorem sT_ok {a : α} {f : α → Store → SR} {t : Tag f} : sT (R.ok a st) env f t = f a st := Eq.trans rfl rfl
theorem qT_nx {f : Env → Store → SR} {t : Tag f} : qT (.nx env st) f t = f env st := Eq.trans rfl rfl
theorem qT_rt {x : RV} {f : Env → Store → SR} {t : Tag f} : qT (.rt x st) f t = .rt x st := Eq.trans rfl rfl
theorem qT_br {f : Env → Store → SR} {t : Tag f} : qT (.br env st) f t = .br env st := Eq.trans rfl rfl
theorem qT_ct {f : Env → Store → SR} {t : Tag f} : qT (.ct env st) f t = .ct env st := Eq.trans rfl rfl
theorem bT_exc {c : Str} {ds : List (Str × MP.D)} {f : α → Store → R β} {t : Tag f} : bT (R.exc c ds st) f t = .exc c ds st := Eq.trans rfl rfl
theorem sT_exc {c : Str} {ds : List (Str × MP.D)} {f : α → Store → SR} {t : Tag f} : sT (R.exc c ds st) env f t = .ex c ds env st := Eq.trans rfl rfl
theorem qT_ex {c : Str} {ds : List (Str × MP.D)} {f : Env → Store → SR} {t : Tag f} : qT (.ex c ds env st) f t = .ex c ds env st := Eq.trans rfl rfl
/-- a try: what its clause does -/
def yT (x : SR) (c : Str) (f : Env → Store → SR) (_ : Tag f := .mk) : SR := match x with
  | .ex c' _ env' st' => bif decide (c' = c) then f env' st' else .no
  | r => r
theorem yT_nx {c : Str} {f : Env → Store → SR} {t : Tag f} : yT (.nx env st) c f t = .nx env st := Eq.trans rfl rfl
theorem yT_rt {c : Str} {x : RV} {f : Env → Store → SR} {t : Tag f} : yT (.rt x st) c f t = .rt x st := Eq.trans rfl rfl
theorem yT_br {c : Str} {f : Env → Store → SR} {t : Tag f} : yT (.br env st) c f t = .br env st := Eq.trans rfl rfl
theorem yT_ct {c : Str} {f : Env → Store → SR} {t : Tag f} : yT (.ct env st) c f t = .ct env st := Eq.trans rfl rfl
theorem yT_ex {c : Str} {ds : List (Str × MP.D)} {f : Env → Store → SR} {t : Tag f} : yT (.ex c ds env st) c f t = f env st := by
  show (bif decide (c = c) then f env st else .no) = _
  rw [decide_eq_true rfl]
  rfl
theorem Cb_t {γ : Type} {x y : γ} {t : Tag x} {u : Tag y} : Cb true x y t u = x := Eq.trans rfl rfl
theorem Cb_f {γ : Type} {x y : γ} {t : Tag x} {u : Tag y} : Cb false x y t u = y := Eq.trans rfl rfl
theorem oT_s {γ : Type} {e : Env} {no : γ} {f : Env → γ} {t : Tag f} : oT (some e) no f t = f e := Eq.trans rfl rfl
structure Wp (x : R α) (Q : α → Store → Prop) (t : Tag Q := .mk) : Prop where
  h : match x with
    | .ok a st => Q a st
    | _ => False
structure Outs where
  nx : Env → Store → Prop
  rt : RV → Store → Prop
  br : Env → Store → Prop
  ct : Env → Store → Prop
structure WpS (x : SR) (O : Outs) (t : Tag O := .mk) : Prop where
  h : match x with
    | .nx e st => O.nx e st
    | .rt x st => O.rt x st
    | .br e st => O.br e st
    | .ct e st => O.ct e st
    | _ => False
theorem wp_ok {a : α} {Q : α → Store → Prop} {t : Tag Q} : Wp (.ok a st) Q t = Q a st := propext ⟨fun h => h.h, fun h => ⟨h⟩⟩
theorem wp_no {Q : α → Store → Prop} {t : Tag Q} : Wp .no Q t = False := propext ⟨fun h => h.h, fun h => h.elim⟩
theorem wp_exc {c : Str} {ds : List (Str × MP.D)} {Q : α → Store → Prop} {t : Tag Q} : Wp (.exc c ds st) Q t = False := propext ⟨fun h => h.h, fun h => h.elim⟩
theorem wps_nx {O : Outs} {t : Tag O} : WpS (.nx env st) O t = O.nx env st := propext ⟨fun h => h.h, fun h => ⟨h⟩⟩
theorem wps_rt {x : RV} {O : Outs} {t : Tag O} : WpS (.rt x st) O t = O.rt x st := propext ⟨fun h => h.h, fun h => ⟨h⟩⟩
theorem wps_br {O : Outs} {t : Tag O} : WpS (.br env st) O t = O.br env st := propext ⟨fun h => h.h, fun h => ⟨h⟩⟩
theorem wps_ct {O : Outs} {t : Tag O} : WpS (.ct env st) O t = O.ct env st := propext ⟨fun h => h.h, fun h => ⟨h⟩⟩
theorem wps_no {O : Outs} {t : Tag O} : WpS .no O t = False := propext ⟨fun h => h.h, fun h => h.elim⟩
theorem wps_ex {c : Str} {ds : List (Str × MP.D)} {O : Outs} {t : Tag O} : WpS (.ex c ds env st) O t = False := propext ⟨fun h => h.h, fun h => h.elim⟩
theorem wp_bind {x : R α} {f : α → Store → R β} {Q : β → Store → Prop} {t : Tag f} {u : Tag Q} : Wp (bT x f t) Q u = Wp x fun a st => Wp (f a st) Q u := by
  cases x with
  | ok a st => rw [wp_ok]; rfl
  | exc c ds st => rw [wp_exc]; exact wp_exc
  | no => rw [wp_no]; exact wp_no
theorem wps_sr {x : R α} {f : α → Store → SR} {O : Outs} {t : Tag f} {u : Tag O} : WpS (sT x env f t) O u = Wp x fun a st => WpS (f a st) O u := by
  cases x with
  | ok a st => rw [wp_ok]; rfl
  | exc c ds st => rw [wp_exc]; exact wps_ex
  | no => rw [wp_no]; exact wps_no
theorem wps_seq {x : SR} {f : Env → Store → SR} {O : Outs} {t : Tag f} {u : Tag O} : WpS (qT x f t) O u = WpS x ⟨fun e st => WpS (f e st) O u, O.rt, O.br, O.ct⟩ := by
  cases x with
  | nx e st => rw [wps_nx]; rfl
  | rt e st => rw [wps_rt]; exact wps_rt
  | br e st => rw [wps_br]; exact wps_br
  | ct e st => rw [wps_ct]; exact wps_ct
  | ex _ _ _ _ => rw [wps_ex]; exact wps_ex
  | no => rw [wps_no]; exact wps_no
theorem wps_turn {x : SR} {f : Env → Store → SR} {O : Outs} : WpS (turn x f) O = WpS x ⟨fun e st => WpS (f e st) O, O.rt, O.nx, fun e st => WpS (f e st) O⟩ := by
  cases x with
  | nx e st => rw [wps_nx]; rfl
  | rt e st => rw [wps_rt]; exact wps_rt
  | br e st => rw [wps_br]; exact wps_nx
  | ct e st => rw [wps_ct]; rfl
  | ex _ _ _ _ => rw [wps_ex]; exact wps_ex
  | no => rw [wps_no]; exact wps_no
theorem Wp.ex {x : R α} {Q : α → Store → Prop} (h : Wp x Q) : ∃ a st, x = .ok a st ∧ Q a st := by
  cases x with
  | ok a st => exact ⟨a, st, rfl, h.h⟩
  | exc _ _ _ => exact h.h.elim
  | no => exact h.h.elim
theorem Wp.of {x : R α} {Q : α → Store → Prop} (h : ∃ a st, x = .ok a st ∧ Q a st) : Wp x Q := by
  obtain ⟨a, st, e, q⟩ := h
  rw [e]
  exact ⟨q⟩
theorem Wp.mono {x : R α} {Q Q' : α → Store → Prop} (h : Wp x Q) (k : ∀ a st, Q a st → Q' a st) : Wp x Q' := by
  obtain ⟨a, st, e, q⟩ := h.ex
  exact .of ⟨a, st, e, k a st q⟩
theorem Wp.eq {x : R α} {a : α} {Q : α → Store → Prop} (e : x = .ok a st) (q : Q a st) : Wp x Q := .of ⟨a, st, e, q⟩
theorem WpS.mono {x : SR} {O O' : Outs} (h : WpS x O) (n : ∀ e st, O.nx e st → O'.nx e st) (r : ∀ x st, O.rt x st → O'.rt x st) (b : ∀ e st, O.br e st → O'.br e st) (c : ∀ e st, O.ct e st → O'.ct e st) : WpS x O' := by
  cases x with
  | nx e st => exact ⟨n e st h.h⟩
  | rt e st => exact ⟨r e st h.h⟩
  | br e st => exact ⟨b e st h.h⟩
  | ct e st => exact ⟨c e st h.h⟩
  | ex _ _ _ _ => exact h.h.elim
  | no => exact h.h.elim
theorem WpS.eq {x : SR} {e : Env} {O : Outs} (h : x = .nx e st) (q : O.nx e st) : WpS x O := by
  rw [h]
  exact ⟨q⟩
theorem wps_if {c : Bool} {x y : SR} {O : Outs} {t : Tag x} {u : Tag y} (h1 : c = true → WpS x O) (h2 : c = false → WpS y O) : WpS (Cb c x y t u) O := by
  cases c with
  | true => exact h1 rfl
  | false => exact h2 rfl
theorem wp_if {c : Bool} {x y : R α} {Q : α → Store → Prop} {t : Tag x} {u : Tag y} (h1 : c = true → Wp x Q) (h2 : c = false → Wp y Q) : Wp (Cb c x y t u) Q := by
  cases c with
  | true => exact h1 rfl
  | false => exact h2 rfl
theorem wp_t {x : R α} {Q : α → Store → Prop} {t : Tag Q} (h : Wp x Q) : Wp x Q t := h
theorem wps_t {x : SR} {O : Outs} {t : Tag O} (h : WpS x O) : WpS x O t := h
def tT (x : SR) (f : Env → Store → SR) (_ : Tag f := .mk) : SR := turn x f
theorem for_n {tg : Tg} {body : Env → Store → SR} : forL tg body [] env st = .nx env st := Eq.trans rfl rfl
theorem for_c {tg : Tg} {body : Env → Store → SR} {d : MP.D} {r : List MP.D} : forL tg body (d :: r) env st = oT (bindTg tg d env) .no fun env' => tT (body env' st) (forL tg body r) := by
  show (match bindTg tg d env with
    | none => SR.no
    | some env' => turn (body env' st) (forL tg body r)) = _
  cases bindTg tg d env <;> rfl
theorem wps_tT {x : SR} {f : Env → Store → SR} {O : Outs} {t : Tag f} {u : Tag O} : WpS (tT x f t) O u = WpS x ⟨fun e st => WpS (f e st) O, O.rt, O.nx, fun e st => WpS (f e st) O⟩ := wps_turn
theorem tT_nx {f : Env → Store → SR} {t : Tag f} : tT (.nx env st) f t = f env st := Eq.trans rfl rfl
theorem tT_ct {f : Env → Store → SR} {t : Tag f} : tT (.ct env st) f t = f env st := Eq.trans rfl rfl
theorem tT_br {f : Env → Store → SR} {t : Tag f} : tT (.br env st) f t = .nx env st := Eq.trans rfl rfl
theorem tT_rt {x : RV} {f : Env → Store → SR} {t : Tag f} : tT (.rt x st) f t = .rt x st := Eq.trans rfl rfl
theorem tT_ex {c : Str} {ds : List (Str × MP.D)} {f : Env → Store → SR} {t : Tag f} : tT (.ex c ds env st) f t = .ex c ds env st := Eq.trans rfl rfl
theorem bt_nm {i : Nat} {d : MP.D} : bindTg (.nm i) d env = some (List.set env i (.val (.dat d))) := Eq.trans rfl rfl
theorem bt_t {ts : Tgs} {ds : List MP.D} : bindTg (.tup ts) (.tuple ds) env = bindTgs ts ds env := Eq.trans rfl rfl
theorem bt_l {ts : Tgs} {ds : List MP.D} : bindTg (.tup ts) (.list ds) env = bindTgs ts ds env := Eq.trans rfl rfl
def btT (o : Option Env) (ts : Tgs) (r : List MP.D) : Option Env := match o with
  | some env' => bindTgs ts r env'
  | none => none
theorem btT_s {ts : Tgs} {r : List MP.D} : btT (some env) ts r = bindTgs ts r env := Eq.trans rfl rfl
theorem bts_n : bindTgs .nil [] env = some env := Eq.trans rfl rfl
theorem bts_c {t : Tg} {ts : Tgs} {d : MP.D} {r : List MP.D} : bindTgs (.cons t ts) (d :: r) env = btT (bindTg t d env) ts r := by
  show (match bindTg t d env with
    | some env' => bindTgs ts r env'
    | none => none) = _
  cases bindTg t d env <;> rfl
def noO : Env → Store → Prop := fun _ _ => False
theorem wp_fn {np ns : Nat} {m : Sms} {vs : List Val} {Q : RV → Store → Prop} (hl : vs.length = np) (h : WpS (evSs m (vs.map Slot.val ++ List.replicate (ns - np) .un) st) ⟨fun _ st => Q ⟨false, .dat .none⟩ st, Q, noO, noO⟩) : Wp (fnOf np ns m vs st) Q := by
  show Wp (bif decide (vs.length = np) then (match evSs m (vs.map Slot.val ++ List.replicate (ns - np) .un) st with
    | .nx _ st => R.ok (plain .none) st
    | .rt x st => R.ok x st
    | .ex c ds _ st => R.exc c ds st
    | _ => R.no) else R.no) Q
  rw [decide_eq_true hl]
  generalize evSs m (vs.map Slot.val ++ List.replicate (ns - np) .un) st = y at h
  cases y with
  | nx e st => exact ⟨h.h⟩
  | rt e st => exact ⟨h.h⟩
  | br e st => exact h.h.elim
  | ct e st => exact h.h.elim
  | ex _ _ _ _ => exact h.h.elim
  | no => exact h.h.elim
theorem fn_eq {np ns : Nat} {m : Sms} {vs : List Val} {r : R RV} (hl : vs.length = np) (h : (match evSs m (vs.map Slot.val ++ List.replicate (ns - np) .un) st with
    | .nx _ st => R.ok (plain .none) st
    | .rt x st => R.ok x st
    | .ex c ds _ st => R.exc c ds st
    | _ => R.no) = r) : fnOf np ns m vs st = r := by
  rw [← h]
  show (bif decide (vs.length = np) then _ else R.no) = _
  rw [decide_eq_true hl]
  rfl
/-- a value that is told alone -/
def Is (x : RV) (st : Store) : RV → Store → Prop := fun y st' => y = x ∧ st' = st
theorem Wp.is {x : RV} {r : R RV} (h : Wp r (Is x st)) : r = .ok x st := by
  obtain ⟨a, st', e, rfl, rfl⟩ := h.ex
  exact e

/-! ### loops -/
variable {tg : Tg} {body : Env → Store → SR} {O : Outs}
theorem wps_for (P : List MP.D → Env → Store → Prop) (step : ∀ d r env st, P (d :: r) env st → ∃ env1, bindTg tg d env = some env1 ∧ WpS (body env1 st) ⟨P r, O.rt, O.nx, P r⟩)
    (fin : ∀ env st, P [] env st → O.nx env st) : ∀ items env st, P items env st → WpS (forL tg body items env st) O
  | [], env, st, h => ⟨fin env st h⟩
  | d :: r, env, st, h => by
    obtain ⟨env1, hb, hw⟩ := step d r env st h
    show WpS (match bindTg tg d env with
      | none => SR.no
      | some env' => turn (body env' st) (forL tg body r)) O
    rw [hb]
    show WpS (turn (body env1 st) (forL tg body r)) O
    rw [wps_turn]
    exact hw.mono (fun e st q => wps_for P step fin r e st q) (fun _ _ q => q) (fun _ _ q => q) fun e st q => wps_for P step fin r e st q
theorem wps_forT {α : Type} (f : α → MP.D) (P : List α → Env → Store → Prop) (step : ∀ a r env st, P (a :: r) env st → ∃ env1, bindTg tg (f a) env = some env1 ∧ WpS (body env1 st) ⟨P r, O.rt, O.nx, P r⟩)
    (fin : ∀ env st, P [] env st → O.nx env st) : ∀ (items : List α) env st, P items env st → WpS (forL tg body (items.map f) env st) O
  | [], env, st, h => ⟨fin env st h⟩
  | d :: r, env, st, h => by
    obtain ⟨env1, hb, hw⟩ := step d r env st h
    show WpS (match bindTg tg (f d) env with
      | none => SR.no
      | some env' => turn (body env' st) (forL tg body (r.map f))) O
    rw [hb]
    show WpS (turn (body env1 st) (forL tg body (r.map f))) O
    rw [wps_turn]
    exact hw.mono (fun e st q => wps_forT f P step fin r e st q) (fun _ _ q => q) (fun _ _ q => q) fun e st q => wps_forT f P step fin r e st q
theorem wps_forI (P : Env → Store → Prop) {items : List MP.D} {env : Env} {st : Store} (h0 : P env st) (step : ∀ d env st, d ∈ items → P env st → ∃ env1, bindTg tg d env = some env1 ∧ WpS (body env1 st) ⟨P, O.rt, O.nx, P⟩)
    (fin : ∀ env st, P env st → O.nx env st) : WpS (forL tg body items env st) O := by
  refine wps_for (fun r e st => P e st ∧ ∀ d ∈ r, d ∈ items) (fun d r env st h => ?_) (fun env st h => fin env st h.1) items env st ⟨h0, fun _ h => h⟩
  obtain ⟨env1, hb, hw⟩ := step d env st (h.2 d List.mem_cons_self) h.1
  have hr : ∀ d' ∈ r, d' ∈ items := fun d' q => h.2 d' (List.mem_cons_of_mem _ q)
  exact ⟨env1, hb, hw.mono (fun _ _ q => ⟨q, hr⟩) (fun _ _ q => q) (fun _ _ q => q) fun _ _ q => ⟨q, hr⟩⟩
theorem rangeUp_cons {i j : Int} (h : i < j) : rangeUp i j = .int i :: rangeUp (i + 1) j := by
  unfold rangeUp
  obtain ⟨n, hn⟩ : ∃ n : Nat, (j - i).toNat = n + 1 := ⟨(j - i).toNat - 1, by omega⟩
  have hm : (j - (i + 1)).toNat = n := by omega
  rw [hn, hm, List.range_succ_eq_map, List.map_cons, List.map_map]
  congr 1
  · simp
  · refine List.map_congr_left fun k _ => ?_
    show PyData.int (i + ((k + 1 : Nat) : Int)) = PyData.int (i + 1 + (k : Int))
    congr 1
    omega
theorem rangeUp_nil {i j : Int} (h : j ≤ i) : rangeUp i j = [] := by
  unfold rangeUp
  have hm : (j - i).toNat = 0 := by omega
  rw [hm]
  rfl
theorem wps_forR (P : Int → Env → Store → Prop) {j : Int} (step : ∀ k env st, k < j → P k env st → ∃ env1, bindTg tg (.int k) env = some env1 ∧ WpS (body env1 st) ⟨P (k + 1), O.rt, O.nx, P (k + 1)⟩)
    (fin : ∀ k env st, j ≤ k → P k env st → O.nx env st) : ∀ (n : Nat) (i : Int) env st, (j - i).toNat = n → P i env st → WpS (forL tg body (rangeUp i j) env st) O
  | 0, i, env, st, hn, h => by
    rw [rangeUp_nil (by omega)]
    exact ⟨fin i env st (by omega) h⟩
  | n + 1, i, env, st, hn, h => by
    have hi : i < j := by omega
    rw [rangeUp_cons hi]
    obtain ⟨env1, hb, hw⟩ := step i env st hi h
    show WpS (match bindTg tg (.int i) env with
      | none => SR.no
      | some env' => turn (body env' st) (forL tg body (rangeUp (i + 1) j))) O
    rw [hb]
    show WpS (turn (body env1 st) (forL tg body (rangeUp (i + 1) j))) O
    rw [wps_turn]
    exact hw.mono (fun e st q => wps_forR P step fin n (i + 1) e st (by omega) q) (fun _ _ q => q) (fun _ _ q => q) fun e st q => wps_forR P step fin n (i + 1) e st (by omega) q
theorem wps_while {test : Env → Store → R Bool} (P : Nat → Env → Store → Prop) (step : ∀ n env st, P n env st → Wp (test env st) fun k st1 => (k = true → WpS (body env st1) ⟨fun e s => ∃ m, m < n ∧ P m e s, O.rt, O.nx, fun e s => ∃ m, m < n ∧ P m e s⟩) ∧ (k = false → O.nx env st1)) : ∀ fuel n env st, n < fuel → P n env st → WpS (whileL test body fuel env st) O := by
  intro fuel
  induction fuel with
  | zero => intro n env st hn; omega
  | succ fuel ih =>
    intro n env st hn p
    have e : whileL test body (fuel + 1) env st = sT (test env st) env fun k st => bif k then turn (body env st) (whileL test body fuel) else .nx env st := rfl
    rw [e, wps_sr]
    refine (step n env st p).mono fun k st1 ⟨q1, q2⟩ => ?_
    cases k with
    | false => exact ⟨q2 rfl⟩
    | true =>
      show WpS (turn (body env st1) (whileL test body fuel)) O
      rw [wps_turn]
      have go : ∀ e s, (∃ m, m < n ∧ P m e s) → WpS (whileL test body fuel e s) O := fun e s ⟨m, hm, q⟩ => ih m e s (by omega) q
      exact (q1 rfl).mono go (fun _ _ q => q) (fun _ _ q => q) go
/-! ### comprehensions -/
theorem wp_compM {α : Type} {f : MP.D → Store → R (Option MP.D)} {Q : List MP.D → Store → Prop} (e g : α → MP.D) {xs : List α} (h : ∀ a ∈ xs, Wp (f (e a) st) fun y st' => y = some (g a) ∧ st' = st) (hl : xs.length ≤ 2 ^ 24) (hq : Q (xs.map g) st) : Wp (compL f (xs.map e) [] st) Q := by
  have go : ∀ (xs : List α) (acc : List MP.D), (∀ a ∈ xs, Wp (f (e a) st) fun y st' => y = some (g a) ∧ st' = st) → acc.length + xs.length ≤ 2 ^ 24 → compL f (xs.map e) acc st = .ok (acc ++ xs.map g) st := by
    intro xs
    induction xs with
    | nil =>
      intro acc _ _
      show R.ok acc st = _
      rw [List.map_nil, List.append_nil]
    | cons a r ih =>
      intro acc h hl
      obtain ⟨_, _, e1, rfl, rfl⟩ := (h a List.mem_cons_self).ex
      show (match f (e a) _ with
        | .ok (some y) st1 => bif fitsS acc.length then compL f (r.map e) (acc ++ [y]) st1 else R.no
        | .ok none st1 => compL f (r.map e) acc st1
        | _ => R.no) = _
      rw [e1]
      have q : fitsS acc.length = true := fitsS_of (by simp at hl; omega)
      show (bif fitsS acc.length then _ else _) = _
      rw [q]
      show compL f (r.map e) (acc ++ [g a]) _ = _
      rw [ih _ (fun b hb => h b (List.mem_cons_of_mem _ hb)) (by simp at hl ⊢; omega), List.append_assoc]
      rfl
  rw [go xs [] h (by simpa using hl)]
  exact ⟨hq⟩
theorem wp_compF {α : Type} {f : MP.D → Store → R (Option MP.D)} {Q : List MP.D → Store → Prop} (e : α → MP.D) (g : α → Option MP.D) {xs : List α} (h : ∀ a ∈ xs, Wp (f (e a) st) fun y st' => y = g a ∧ st' = st) (hl : xs.length ≤ 2 ^ 24) (hq : Q (xs.filterMap g) st) : Wp (compL f (xs.map e) [] st) Q := by
  have go : ∀ (xs : List α) (acc : List MP.D), (∀ a ∈ xs, Wp (f (e a) st) fun y st' => y = g a ∧ st' = st) → acc.length + xs.length ≤ 2 ^ 24 → compL f (xs.map e) acc st = .ok (acc ++ xs.filterMap g) st := by
    intro xs
    induction xs with
    | nil =>
      intro acc _ _
      show R.ok acc st = _
      rw [List.filterMap_nil, List.append_nil]
    | cons a r ih =>
      intro acc h hl
      obtain ⟨_, _, e1, rfl, rfl⟩ := (h a List.mem_cons_self).ex
      show (match f (e a) _ with
        | .ok (some y) st1 => bif fitsS acc.length then compL f (r.map e) (acc ++ [y]) st1 else R.no
        | .ok none st1 => compL f (r.map e) acc st1
        | _ => R.no) = _
      rw [e1]
      have q : fitsS acc.length = true := fitsS_of (by simp at hl; omega)
      cases hg : g a with
      | none =>
        show compL f (r.map e) acc _ = _
        rw [ih _ (fun b hb => h b (List.mem_cons_of_mem _ hb)) (by simp at hl ⊢; omega), List.filterMap_cons_none hg]
      | some y =>
        show (bif fitsS acc.length then _ else _) = _
        rw [q]
        show compL f (r.map e) (acc ++ [y]) _ = _
        rw [ih _ (fun b hb => h b (List.mem_cons_of_mem _ hb)) (by simp at hl ⊢; omega), List.append_assoc, List.filterMap_cons_some hg]
        rfl
  rw [go xs [] h (by simpa using hl)]
  exact ⟨hq⟩
open MK in
theorem wp_draw {α : Type} {f : MP.D → Store → R (Option MP.D)} {Q : List MP.D → Store → Prop} (P : α → Prop) (e : α → MP.D) {items : List MP.D} (hs : IsSrc st) (h : ∀ d st, IsSrc st → Wp (f d st) fun y st' => IsSrc st' ∧ ∃ a, P a ∧ y = some (e a)) (hl : items.length ≤ 2 ^ 24)
    (hq : ∀ (xs : List α) st', IsSrc st' → xs.length = items.length → (∀ a ∈ xs, P a) → Q (xs.map e) st') : Wp (compL f items [] st) Q := by
  obtain ⟨ys, st', e1, h1, xs, rfl, hz, hp⟩ := compL_ind (f := f) (fun r acc st => IsSrc st ∧ ∃ xs : List α, acc = xs.map e ∧ xs.length + r.length = items.length ∧ ∀ a ∈ xs, P a) (fun d r acc st hp => by
    obtain ⟨h1, xs, rfl, hz, hp⟩ := hp
    obtain ⟨_, st1, e1, h2, a, ha, rfl⟩ := (h d st h1).ex
    simp only [List.length_cons] at hz
    refine ⟨some (e a), st1, e1, ?_, h2, xs ++ [a], by simp, by simp; omega, fun b hb => ?_⟩
    · rw [List.length_map]
      exact Nat.lt_of_lt_of_le (by omega : xs.length < 2 ^ 24) (by decide)
    · rcases List.mem_append.mp hb with q | q
      · exact hp b q
      · rw [List.mem_singleton.mp q]
        exact ha) items [] st ⟨hs, [], rfl, by simp, by simp⟩
  rw [e1]
  exact ⟨hq xs st' h1 (by simpa using hz) hp⟩

/-! ### the evaluator, step by step -/
def varR (s : Option Slot) (pk : Bool) (st : Store) : R RV := match s with
  | some (.val v) => .ok ⟨false, v⟩ st
  | some (.own d) => bif pk then .ok (plain d) st else .no
  | _ => .no
def retR (s : Option Slot) (env : Env) (st : Store) : SR := match s with
  | some (.own d) => .rt ⟨true, .dat d⟩ st
  | s => (varR s false st).sr env fun x st => .rt x st
def ixR (o : Option MP.D) (st : Store) : R RV := match o with
  | some d => .ok ⟨false, .dat d⟩ st
  | none => .no
def optS {γ : Type} (o : Option γ) (f : γ → SR) (_ : Tag f := .mk) : SR := match o with
  | some a => f a
  | none => .no
theorem optS_s {γ : Type} {a : γ} {f : γ → SR} {t : Tag f} : optS (some a) f t = f a := Eq.trans rfl rfl
theorem varR_v {v : Val} : varR (some (.val v)) pk st = .ok ⟨false, v⟩ st := Eq.trans rfl rfl
theorem varR_o {d : MP.D} : varR (some (.own d)) true st = .ok ⟨false, .dat d⟩ st := Eq.trans rfl rfl
theorem retR_o {d : MP.D} : retR (some (.own d)) env st = .rt ⟨true, .dat d⟩ st := Eq.trans rfl rfl
theorem retR_v {v : Val} : retR (some (.val v)) env st = .rt ⟨false, v⟩ st := Eq.trans rfl rfl
theorem ixR_s {d : MP.D} : ixR (some d) st = .ok ⟨false, .dat d⟩ st := Eq.trans rfl rfl
theorem ix_l {f1 f2 : Bool} {xs : List MP.D} {k : Int} : ixV ⟨f1, .dat (.list xs)⟩ ⟨f2, .dat (.int k)⟩ st = ixR (ixD xs k) st := Eq.trans rfl rfl
theorem ix_t {f1 f2 : Bool} {xs : List MP.D} {k : Int} : ixV ⟨f1, .dat (.tuple xs)⟩ ⟨f2, .dat (.int k)⟩ st = ixR (ixD xs k) st := Eq.trans rfl rfl
section
variable {i : Nat} {a b c e k : Ex} {es : Exs} {o : Op2} {q q1 q2 : Cp} {x : Str} {d : MP.D} {lo hi m : Opt} {f : Fn} {g : Blt} {ts : List String} {it : It} {elt : Ex} {own : List (Str × Nat)} {tg tg1 : Tg} {s : Sm} {ss sa sb : Sms} {is : List Nat} {us : Tgs} {w : Bool}
theorem ev_var : evE (.var i) pk env st = varR env[i]? pk st := Eq.trans rfl rfl
theorem ev_cst {c : Lit} : evE (.cst c) pk env st = .ok ⟨false, .dat c.d⟩ st := Eq.trans rfl rfl
theorem ev_glob : evE (.glob x d) pk env st = .ok ⟨false, .dat d⟩ st := Eq.trans rfl rfl
theorem ev_neg : evE (.neg a) pk env st = bT (evE a true env st) fun x st => bT (intOf x st) fun i st => .ok ⟨false, .dat (.int (-i))⟩ st := Eq.trans rfl rfl
theorem ev_not : evE (.not a) pk env st = bT (evE a true env st) fun x st => bT (boolOf x st) fun b st => .ok ⟨false, .dat (.bool (!b))⟩ st := Eq.trans rfl rfl
theorem ev_bin : evE (.bin o a b) pk env st = bT (evE a true env st) fun x st => bT (datOf x st) fun x st => bT (evE b true env st) fun y st => bT (datOf y st) fun y st => ofBD (bin o x y) st := Eq.trans rfl rfl
theorem ev_cmp : evE (.cmp q a b) pk env st = bT (evE a true env st) fun x st => bT (datOf x st) fun x st => bT (evE b true env st) fun y st => bT (datOf y st) fun y st => ofB (cmpD q x y) st := Eq.trans rfl rfl
theorem ev_chain : evE (.chain q1 q2 a b c) pk env st = bT (evE a true env st) fun x st => bT (datOf x st) fun x st => bT (evE b true env st) fun y st => bT (datOf y st) fun y st =>
    bT (rOpt (cmpD q1 x y) st) fun k st => Cb k (bT (evE c true env st) fun z st => bT (datOf z st) fun z st => ofB (cmpD q2 y z) st) (.ok ⟨false, .dat (.bool false)⟩ st) := Eq.trans rfl rfl
theorem ev_and : evE (.and a b) pk env st = bT (evE a true env st) fun x st => bT (boolOf x st) fun k st => Cb k (bT (evE b true env st) fun y st => bT (boolOf y st) fun k st => .ok ⟨false, .dat (.bool k)⟩ st) (.ok ⟨false, .dat (.bool false)⟩ st) := Eq.trans rfl rfl
theorem ev_or : evE (.or a b) pk env st = bT (evE a true env st) fun x st => bT (boolOf x st) fun k st => Cb k (.ok ⟨false, .dat (.bool true)⟩ st) (bT (evE b true env st) fun y st => bT (boolOf y st) fun k st => .ok ⟨false, .dat (.bool k)⟩ st) := Eq.trans rfl rfl
theorem ev_ite : evE (.ite c a b) pk env st = bT (evE c true env st) fun x st => bT (boolOf x st) fun k st => Cb k (evE a pk env st) (evE b pk env st) := Eq.trans rfl rfl
theorem ev_tup : evE (.tup es) pk env st = bT (evA es env st) fun ds st => Cb (fits ds.length) (.ok ⟨false, .dat (.tuple ds)⟩ st) .no := Eq.trans rfl rfl
theorem ev_lst : evE (.lst es) pk env st = bT (evA es env st) fun ds st => Cb (fits ds.length) (.ok ⟨true, .dat (.list ds)⟩ st) .no := Eq.trans rfl rfl
theorem ev_ix : evE (.ix a b) pk env st = bT (evE a true env st) fun x st => bT (evE b true env st) fun y st => ixV x y st := Eq.trans rfl rfl
theorem ev_slice : evE (.slice a lo hi) pk env st = bT (evE a true env st) fun x st => bT (datOf x st) fun x st => bT (evO lo env st) fun l st => bT (evO hi env st) fun h st => ofBD (sliceD x l h) st := Eq.trans rfl rfl
theorem ev_rev : evE (.rev a) pk env st = bT (evE a true env st) fun x st => bT (datOf x st) fun x st => ofBD (revD x) st := Eq.trans rfl rfl
theorem ev_call : evE (.call x f es) pk env st = bT (evV es env st) fun vs st => f vs st := Eq.trans rfl rfl
theorem ev_blt : evE (.blt g es) pk env st = bT (evP es env st) fun ds st => ofBD (bltF g ds) st := Eq.trans rfl rfl
theorem ev_isi : evE (.isi a ts) pk env st = bT (evE a true env st) fun x st => bT (datOf x st) fun x st => .ok ⟨false, .dat (.bool (ts.any (isA x)))⟩ st := Eq.trans rfl rfl
theorem ev_comp : evE (.comp elt own tg it m) pk env st = bT (evI it env st) fun items st => bT (compL (compF elt own tg m env) items [] st) fun ys st => .ok ⟨true, .dat (.list ys)⟩ st := Eq.trans rfl rfl
theorem ev_compF {d : MP.D} : compF elt own tg m env d st = oT (bindTg tg d (wipeE env (own.map (·.2)))) .no fun env' => bT (evC m env' st) fun k st => Cb k (bT (evE elt false env' st) fun y st => bT (datOf y st) fun y st => .ok (some y) st) (.ok none st) := by
  unfold compF oT
  cases bindTg tg d (wipeE env (own.map (·.2))) <;> rfl
theorem evA_n : evA .nil env st = .ok [] st := Eq.trans rfl rfl
theorem evA_c : evA (.cons e es) env st = bT (evE e false env st) fun x st => bT (datOf x st) fun d st => bT (evA es env st) fun ds st => .ok (d :: ds) st := Eq.trans rfl rfl
theorem evA_s : evA (.star e es) env st = bT (evE e true env st) fun x st => bT (datOf x st) fun d st => bT (rOpt (seqOf d) st) fun xs st => bT (evA es env st) fun ds st => .ok (xs ++ ds) st := Eq.trans rfl rfl
theorem evV_n : evV .nil env st = .ok [] st := Eq.trans rfl rfl
theorem evV_c : evV (.cons e es) env st = bT (evE e false env st) fun x st => bT (evV es env st) fun ds st => .ok (x.v :: ds) st := Eq.trans rfl rfl
theorem evP_n : evP .nil env st = .ok [] st := Eq.trans rfl rfl
theorem evP_c : evP (.cons e es) env st = bT (evE e true env st) fun x st => bT (datOf x st) fun d st => bT (evP es env st) fun ds st => .ok (d :: ds) st := Eq.trans rfl rfl
theorem evO_n : evO .non env st = .ok none st := Eq.trans rfl rfl
theorem evO_s : evO (.som e) env st = bT (evE e true env st) fun x st => bT (intOf x st) fun i st => .ok (some i) st := Eq.trans rfl rfl
theorem evC_n : evC .non env st = .ok true st := Eq.trans rfl rfl
theorem evC_s : evC (.som e) env st = bT (evE e true env st) fun x st => boolOf x st := Eq.trans rfl rfl
theorem evI_s : evI (.seq e) env st = bT (evE e false env st) fun x st => bT (datOf x st) fun d st => rOpt (seqOf d) st := Eq.trans rfl rfl
theorem evI_1 : evI (.rng1 a) env st = bT (evE a true env st) fun x st => bT (intOf x st) fun i st => Cb (rngOk i) (.ok (rangeUp 0 i) st) .no := Eq.trans rfl rfl
theorem evI_2 : evI (.rng2 a b) env st = bT (evE a true env st) fun x st => bT (intOf x st) fun i st => bT (evE b true env st) fun x st => bT (intOf x st) fun j st => Cb (rngOk i && rngOk j) (.ok (rangeUp i j) st) .no := Eq.trans rfl rfl
theorem evI_3 : evI (.rng3 a b c) env st = bT (evE a true env st) fun x st => bT (intOf x st) fun i st => bT (evE b true env st) fun x st => bT (intOf x st) fun j st => bT (evE c true env st) fun x st => bT (intOf x st) fun k st => Cb (rngOk i && rngOk j && decide (k = -1)) (.ok (rangeDn i j) st) .no := Eq.trans rfl rfl
theorem evI_e : evI (.enum e) env st = bT (evE e false env st) fun x st => bT (datOf x st) fun d st => bT (rOpt (listOf d) st) fun xs st => .ok (enumL 0 xs) st := Eq.trans rfl rfl
theorem evI_z : evI (.zip a b) env st = bT (evE a false env st) fun x st => bT (datOf x st) fun d st => bT (evE b false env st) fun x st => bT (datOf x st) fun e st => rOpt (zipD d e) st := Eq.trans rfl rfl
theorem listOf_l {xs : List MP.D} : listOf (.list xs) = some xs := Eq.trans rfl rfl
theorem zipD_l {xs ys : List MP.D} : zipD (.list xs) (.list ys) = some (zipL xs ys) := Eq.trans rfl rfl
theorem zipD_t {xs ys : List MP.D} : zipD (.tuple xs) (.tuple ys) = some (zipL xs ys) := Eq.trans rfl rfl
theorem es_pass : evS .pass env st = .nx env st := Eq.trans rfl rfl
theorem es_exp : evS (.exp e) env st = sT (evE e true env st) env fun _ st => .nx env st := Eq.trans rfl rfl
theorem es_set : evS (.set i false e) env st = sT (evE e false env st) env fun x st => .nx (List.set env i (.val x.v)) st := Eq.trans rfl rfl
theorem es_setO : evS (.set i true e) env st = sT (evE e false env st) env fun x st => match x with
    | ⟨true, .dat d⟩ => .nx (List.set env i (.own d)) st
    | _ => .no := Eq.trans rfl rfl
theorem es_setT : evS (.setT us e) env st = sT (evE e false env st) env fun x st => sT (datOf x st) env fun d st => oT (bindTg (.tup us) d env) .no fun env' => .nx env' st := by
  show ((evE e false env st).sr env fun x st => (datOf x st).sr env fun d st => match bindTg (.tup us) d env with
    | some env' => .nx env' st
    | none => .no) = ((evE e false env st).sr env fun x st => (datOf x st).sr env fun d st => match bindTg (.tup us) d env with
    | none => .no
    | some env' => .nx env' st)
  congr 1
  funext x st
  congr 1
  funext d st
  cases bindTg (.tup us) d env <;> rfl
theorem es_par : evS (.par is es) env st = sT (evA es env st) env fun ds st => oT (putVals is ds env) .no fun env' => .nx env' st := by
  show ((evA es env st).sr env fun ds st => match putVals is ds env with
    | some env' => .nx env' st
    | none => .no) = ((evA es env st).sr env fun ds st => match putVals is ds env with
    | none => .no
    | some env' => .nx env' st)
  congr 1
  funext ds st
  cases putVals is ds env <;> rfl
def ownOf (x : RV) (st : Store) : R MP.D := match x with
  | ⟨true, .dat d⟩ => .ok d st
  | _ => .no
theorem ownOf_t {d : MP.D} : ownOf ⟨true, .dat d⟩ st = .ok d st := Eq.trans rfl rfl
theorem evR_n : evR [] .nil env st = .ok [] st := Eq.trans rfl rfl
theorem evR_f {fs : List Bool} : evR (false :: fs) (.cons e es) env st = bT (evE e false env st) fun x st => bT (datOf x st) fun d st => bT (evR fs es env st) fun ss st => .ok (.val (.dat d) :: ss) st := Eq.trans rfl rfl
theorem evR_t {fs : List Bool} : evR (true :: fs) (.cons e es) env st = bT (evE e false env st) fun x st => bT (ownOf x st) fun d st => bT (evR fs es env st) fun ss st => .ok (.own d :: ss) st := by
  show ((evE e false env st).bind fun x st => match x with
      | ⟨true, .dat d⟩ => (evR fs es env st).bind fun ss st => R.ok (.own d :: ss) st
      | _ => .no) = (evE e false env st).bind _
  congr 1
  funext x st
  obtain ⟨fr, y⟩ := x
  cases fr <;> cases y <;> rfl
theorem pS_n : putSlots [] [] env = some env := Eq.trans rfl rfl
theorem pS_c {s : Slot} {sl : List Slot} : putSlots (i :: is) (s :: sl) env = putSlots is sl (List.set env i s) := Eq.trans rfl rfl
theorem es_parO {fs : List Bool} : evS (.parO is fs es) env st = sT (evR fs es env st) env fun ss st => oT (putSlots is ss env) .no fun env' => .nx env' st := by
  show ((evR fs es env st).sr env fun ds st => match putSlots is ds env with
    | some env' => .nx env' st
    | none => .no) = ((evR fs es env st).sr env fun ds st => match putSlots is ds env with
    | none => .no
    | some env' => .nx env' st)
  congr 1
  funext ds st
  cases putSlots is ds env <;> rfl
theorem es_ite : evS (.ite c sa sb) env st = sT (evE c true env st) env fun x st => sT (boolOf x st) env fun k st => Cb k (evSs sa env st) (evSs sb env st) := Eq.trans rfl rfl
theorem es_whil : evS (.whil c sb) env st = whileL (fun env st => bT (evE c true env st) fun x st => boolOf x st) (evSs sb) WF env st := Eq.trans rfl rfl
theorem es_for : evS (.forr tg it sb) env st = sT (evI it env st) env fun items st => forL tg (evSs sb) items env st := Eq.trans rfl rfl
theorem es_brk : evS .brk env st = .br env st := Eq.trans rfl rfl
theorem es_cnt : evS .cnt env st = .ct env st := Eq.trans rfl rfl
def appR (s : Option Slot) (i : Nat) (env : Env) (d : MP.D) (st : Store) : SR := match s with
  | some (.own (.list xs)) => Cb (fitsS xs.length) (.nx (List.set env i (.own (.list (xs ++ [d])))) st) .no
  | _ => .no
theorem appR_o {xs : List MP.D} : appR (some (.own (.list xs))) i env d st = Cb (fitsS xs.length) (.nx (List.set env i (.own (.list (xs ++ [d])))) st) .no := Eq.trans rfl rfl
theorem es_app (h : ∃ xs, env[i]? = some (.own (.list xs))) : evS (.app i e) env st = sT (evE e false env st) env fun x st => sT (datOf x st) env fun d st => appR env[i]? i env d st := by
  obtain ⟨xs, h⟩ := h
  show (match env[i]? with
    | some (.own (.list xs)) => (evE e false env st).sr env fun x st => (datOf x st).sr env fun d st => bif fitsS xs.length then .nx (List.set env i (.own (.list (xs ++ [d])))) st else .no
    | _ => .no) = _
  rw [h]
  rfl
def augR (s : Option Slot) (o : Op2) (i : Nat) (env : Env) (b : Int) (st : Store) : SR := match s with
  | some (.val (.dat (.int a))) => (match augI o a b with
    | some k => .nx (List.set env i (.val (.dat (.int k)))) st
    | none => .no)
  | _ => .no
theorem augR_a {n m : Int} : augR (some (.val (.dat (.int n)))) .add i env m st = .nx (List.set env i (.val (.dat (.int (n + m))))) st := Eq.trans rfl rfl
theorem augR_s {n m : Int} : augR (some (.val (.dat (.int n)))) .sub i env m st = .nx (List.set env i (.val (.dat (.int (n - m))))) st := Eq.trans rfl rfl
theorem es_aug (h : ∃ n, env[i]? = some (.val (.dat (.int n)))) : evS (.aug i o e) env st = sT (evE e true env st) env fun x st => sT (intOf x st) env fun b st => augR env[i]? o i env b st := by
  obtain ⟨n, h⟩ := h
  show (match env[i]? with
    | some (.val (.dat (.int a))) => (evE e true env st).sr env fun x st => (intOf x st).sr env fun b st => match augI o a b with
      | some k => .nx (List.set env i (.val (.dat (.int k)))) st
      | none => .no
    | _ => .no) = _
  rw [h]
  rfl
def sixR (s : Option Slot) (i : Nat) (env : Env) (d : MP.D) (n : Int) (st : Store) : SR := match s with
  | some (.own (.list xs)) => (match L2.ixN xs.length n with
    | some j => .nx (List.set env i (.own (.list (xs.set j d)))) st
    | none => .no)
  | _ => .no
theorem sixR_o {xs : List MP.D} {n : Int} {j : Nat} (h : L2.ixN xs.length n = some j) : sixR (some (.own (.list xs))) i env d n st = .nx (List.set env i (.own (.list (xs.set j d)))) st := by
  unfold sixR
  simp only [h]
theorem es_setix (h : ∃ xs, env[i]? = some (.own (.list xs))) : evS (.setix i k e) env st = sT (evE e false env st) env fun x st => sT (datOf x st) env fun d st => sT (evE k true env st) env fun y st => sT (intOf y st) env fun n st => sixR env[i]? i env d n st := by
  obtain ⟨xs, h⟩ := h
  show ((evE e false env st).sr env fun x st => (datOf x st).sr env fun d st => match env[i]? with
    | some (.own (.list xs)) => (evE k true env st).sr env fun y st => (intOf y st).sr env fun n st =>
        match L2.ixN xs.length n with
        | some j => .nx (List.set env i (.own (.list (xs.set j d)))) st
        | none => .no
    | _ => .no) = _
  rw [h]
  rfl
def frzR (s : Option Slot) (i : Nat) (env : Env) (st : Store) : SR := match s with
  | some (.own d) => .nx (List.set env i (.val (.dat d))) st
  | _ => .no
theorem frzR_o {d : MP.D} : frzR (some (.own d)) i env st = .nx (List.set env i (.val (.dat d))) st := Eq.trans rfl rfl
def clrR (s : Option Slot) (i : Nat) (env : Env) (st : Store) : SR := match s with
  | some (.own (.list _)) => .nx (List.set env i (.own (.list []))) st
  | _ => .no
theorem clrR_o {xs : List MP.D} : clrR (some (.own (.list xs))) i env st = .nx (List.set env i (.own (.list []))) st := Eq.trans rfl rfl
theorem es_clr : evS (.clr i) env st = clrR env[i]? i env st := Eq.trans rfl rfl
theorem es_rais {c : Str} : evS (.rais c) env st = .ex c [] env st := Eq.trans rfl rfl
theorem es_try {b : Sms} {c : Str} {e : Ex} : evS (.tryR b c e) env st = yT (evSs b env st) c fun env st => sT (evE e false env st) env fun x st => .rt x st := Eq.trans rfl rfl
theorem es_frz : evS (.frz i) env st = frzR env[i]? i env st := Eq.trans rfl rfl
theorem ess_n : evSs .nil env st = .nx env st := Eq.trans rfl rfl
theorem ess_c : evSs (.cons s ss) env st = qT (evS s env st) (evSs ss) := Eq.trans rfl rfl
theorem er_var : evS (.ret (.var i)) env st = retR env[i]? env st := by
  show (match env[i]? with
      | some (.own d) => SR.rt (fresh d) st
      | _ => (evE (.var i) false env st).sr env fun x st => SR.rt x st) = _
  have e : evE (.var i) false env st = varR env[i]? false st := Eq.trans rfl rfl
  rw [e]
  generalize env[i]? = s
  rcases s with _ | (_ | _ | _) <;> rfl
theorem er_cst {c : Lit} : evS (.ret (.cst c)) env st = .rt ⟨false, .dat c.d⟩ st := Eq.trans rfl rfl
theorem er_glob : evS (.ret (.glob x d)) env st = .rt ⟨false, .dat d⟩ st := Eq.trans rfl rfl
theorem er_neg : evS (.ret (.neg a)) env st = sT (evE (.neg a) false env st) env fun x st => .rt x st := Eq.trans rfl rfl
theorem er_not : evS (.ret (.not a)) env st = sT (evE (.not a) false env st) env fun x st => .rt x st := Eq.trans rfl rfl
theorem er_bin : evS (.ret (.bin o a b)) env st = sT (evE (.bin o a b) false env st) env fun x st => .rt x st := Eq.trans rfl rfl
theorem er_cmp : evS (.ret (.cmp q a b)) env st = sT (evE (.cmp q a b) false env st) env fun x st => .rt x st := Eq.trans rfl rfl
theorem er_chain : evS (.ret (.chain q1 q2 a b c)) env st = sT (evE (.chain q1 q2 a b c) false env st) env fun x st => .rt x st := Eq.trans rfl rfl
theorem er_and : evS (.ret (.and a b)) env st = sT (evE (.and a b) false env st) env fun x st => .rt x st := Eq.trans rfl rfl
theorem er_or : evS (.ret (.or a b)) env st = sT (evE (.or a b) false env st) env fun x st => .rt x st := Eq.trans rfl rfl
theorem er_ite : evS (.ret (.ite c a b)) env st = sT (evE (.ite c a b) false env st) env fun x st => .rt x st := Eq.trans rfl rfl
theorem er_tup : evS (.ret (.tup es)) env st = sT (evE (.tup es) false env st) env fun x st => .rt x st := Eq.trans rfl rfl
theorem er_lst : evS (.ret (.lst es)) env st = sT (evE (.lst es) false env st) env fun x st => .rt x st := Eq.trans rfl rfl
theorem er_ix : evS (.ret (.ix a b)) env st = sT (evE (.ix a b) false env st) env fun x st => .rt x st := Eq.trans rfl rfl
theorem er_slice : evS (.ret (.slice a lo hi)) env st = sT (evE (.slice a lo hi) false env st) env fun x st => .rt x st := Eq.trans rfl rfl
theorem er_rev : evS (.ret (.rev a)) env st = sT (evE (.rev a) false env st) env fun x st => .rt x st := Eq.trans rfl rfl
theorem er_call : evS (.ret (.call x f es)) env st = sT (evE (.call x f es) false env st) env fun x st => .rt x st := Eq.trans rfl rfl
theorem er_blt : evS (.ret (.blt g es)) env st = sT (evE (.blt g es) false env st) env fun x st => .rt x st := Eq.trans rfl rfl
theorem er_isi : evS (.ret (.isi a ts)) env st = sT (evE (.isi a ts) false env st) env fun x st => .rt x st := Eq.trans rfl rfl
theorem er_comp : evS (.ret (.comp elt own tg it m)) env st = sT (evE (.comp elt own tg it m) false env st) env fun x st => .rt x st := Eq.trans rfl rfl
theorem setO_t {d : MP.D} : (match (⟨true, .dat d⟩ : RV) with
    | ⟨true, .dat d⟩ => SR.nx (List.set env i (.own d)) st
    | _ => .no) = .nx (List.set env i (.own d)) st := rfl
end
theorem ix_nat {l : List MP.D} {n : Nat} {d : MP.D} (h : l[n]? = some d) : ixD l n = some d := by
  have hn : n < l.length := (List.getElem?_eq_some_iff.mp h).1
  have e : L2.ixN l.length (n : Int) = some n := by
    unfold L2.ixN
    rw [if_pos (by omega), if_pos (by omega)]
    simp
  unfold ixD L2.atI
  rw [e]
  exact h
@[simp] theorem ix_0 {a : MP.D} {l : List MP.D} : ixD (a :: l) 0 = some a := ix_nat (n := 0) rfl
@[simp] theorem ix_1 {a b : MP.D} {l : List MP.D} : ixD (a :: b :: l) 1 = some b := ix_nat (n := 1) rfl
@[simp] theorem ix_2 {a b c : MP.D} {l : List MP.D} : ixD (a :: b :: c :: l) 2 = some c := ix_nat (n := 2) rfl
@[simp] theorem ix_3 {a b c d : MP.D} {l : List MP.D} : ixD (a :: b :: c :: d :: l) 3 = some d := ix_nat (n := 3) rfl
@[simp] theorem ix_4 {a b c d e : MP.D} {l : List MP.D} : ixD (a :: b :: c :: d :: e :: l) 4 = some e := ix_nat (n := 4) rfl
@[simp] theorem ix_5 {a b c d e f : MP.D} {l : List MP.D} : ixD (a :: b :: c :: d :: e :: f :: l) 5 = some f := ix_nat (n := 5) rfl
@[simp] theorem ix_6 {a b c d e f g : MP.D} {l : List MP.D} : ixD (a :: b :: c :: d :: e :: f :: g :: l) 6 = some g := ix_nat (n := 6) rfl
@[simp] theorem ix_7 {a b c d e f g h : MP.D} {l : List MP.D} : ixD (a :: b :: c :: d :: e :: f :: g :: h :: l) 7 = some h := ix_nat (n := 7) rfl
@[simp] theorem ix_m1 {a : MP.D} {l : List MP.D} : ixD (l ++ [a]) (-1) = some a := L2.atI_last _ _
@[simp] theorem blt_absI {i : Int} : bltF .abs [.int i] = some (false, .int i.natAbs) := Eq.trans rfl rfl
@[simp] theorem blt_intI {i : Int} : bltF .int [.int i] = some (false, .int i) := Eq.trans rfl rfl
@[simp] theorem blt_tupL {i : List MP.D} : bltF .tuple [.list i] = some (false, .tuple i) := Eq.trans rfl rfl
@[simp] theorem blt_tupT {i : List MP.D} : bltF .tuple [.tuple i] = some (false, .tuple i) := Eq.trans rfl rfl
@[simp] theorem blt_lstL {i : List MP.D} : bltF .list [.list i] = some (true, .list i) := Eq.trans rfl rfl
@[simp] theorem blt_lstT {i : List MP.D} : bltF .list [.tuple i] = some (true, .list i) := Eq.trans rfl rfl
@[simp] theorem blt_lenL {i : List MP.D} : bltF .len [.list i] = some (false, .int i.length) := Eq.trans rfl rfl
@[simp] theorem blt_lenT {i : List MP.D} : bltF .len [.tuple i] = some (false, .int i.length) := Eq.trans rfl rfl
theorem blt_lenLm {α : Type} {f : α → MP.D} {i : List α} : bltF .len [.list (i.map f)] = some (false, .int i.length) := by rw [blt_lenL, List.length_map]
theorem blt_lenTm {α : Type} {f : α → MP.D} {i : List α} : bltF .len [.tuple (i.map f)] = some (false, .int i.length) := by rw [blt_lenT, List.length_map]
theorem blt_min2 {i j : Int} : bltF .min [.int i, .int j] = some (false, .int (min i j)) := by
  show some (false, PyData.int (if j < i then j else i)) = _
  rw [show (if j < i then j else i) = min i j by omega]
theorem blt_max2 {i j : Int} : bltF .max [.int i, .int j] = some (false, .int (max i j)) := by
  show some (false, PyData.int (if i < j then j else i)) = _
  rw [show (if i < j then j else i) = max i j by omega]
theorem blt_min3 {i j k : Int} : bltF .min [.int i, .int j, .int k] = some (false, .int (min (min i j) k)) := by
  show some (false, PyData.int (if k < (if j < i then j else i) then k else (if j < i then j else i))) = _
  rw [show (if j < i then j else i) = min i j by omega, show (if k < min i j then k else min i j) = min (min i j) k by omega]
theorem blt_max3 {i j k : Int} : bltF .max [.int i, .int j, .int k] = some (false, .int (max (max i j) k)) := by
  show some (false, PyData.int (if (if i < j then j else i) < k then k else (if i < j then j else i))) = _
  rw [show (if i < j then j else i) = max i j by omega, show (if max i j < k then k else max i j) = max (max i j) k by omega]
theorem isi_n {t : String} : [t].any (isA .none) = false := Eq.trans rfl rfl
theorem isi_b {t : String} {b : Bool} : [t].any (isA (.bool b)) = (t == "bool" || t == "int") := by simp [isA]
theorem isi_i {t : String} {b : Int} : [t].any (isA (.int b)) = (t == "int") := by simp [isA]
theorem isi_s {t : String} {b : Str} : [t].any (isA (.str b)) = (t == "str") := by simp [isA]
theorem isi_l {t : String} {b : List MP.D} : [t].any (isA (.list b)) = (t == "list") := by simp [isA]
theorem isi_t {t : String} {b : List MP.D} : [t].any (isA (.tuple b)) = (t == "tuple") := by simp [isA]
end
end MP
namespace MK
open PySem MP
theorem wp_pick {n : Int} {st : Store} {Q : RV → Store → Prop} (h : IsSrc st) (h2 : 2 ≤ n) (hn : n < 2 ^ 64) (k : ∀ k st', IsSrc st' → 0 ≤ k → k < n → Q ⟨false, .dat (.int k)⟩ st') : Wp (f__law_pick [.loc 1, .dat (.int n)] st) Q := by
  have hl : n.natAbs.log2 < 9000 := by
    have : n.natAbs.log2 < 64 := (Nat.log2_lt (by omega)).mpr (by omega)
    omega
  obtain ⟨x, st', e, h1, h3, h4, _⟩ := pick_ok n hl st h
  rw [e]
  exact ⟨k x st' h1 h3 (h4 h2)⟩
theorem wp_cells {ns : List Int} {Q : RV → Store → Prop} (hn : ns.length ≤ 63) (k : ∀ st', IsSrc st' → Q ⟨false, .loc 1⟩ st') : Wp (f__law_open_cells [.dat (scriptD ns)] []) Q := by
  obtain ⟨st', e, h⟩ := cells_ok ns hn
  rw [e]
  exact ⟨k st' h⟩
theorem c2 {x : Int} (h0 : 0 ≤ x) (h1 : x < 2) : x = 0 ∨ x = 1 := by omega
theorem c3 {x : Int} (h0 : 0 ≤ x) (h1 : x < 3) : x = 0 ∨ x = 1 ∨ x = 2 := by omega
theorem c4 {x : Int} (h0 : 0 ≤ x) (h1 : x < 4) : x = 0 ∨ x = 1 ∨ x = 2 ∨ x = 3 := by omega
theorem c5 {x : Int} (h0 : 0 ≤ x) (h1 : x < 5) : x = 0 ∨ x = 1 ∨ x = 2 ∨ x = 3 ∨ x = 4 := by omega
theorem c6 {x : Int} (h0 : 0 ≤ x) (h1 : x < 6) : x = 0 ∨ x = 1 ∨ x = 2 ∨ x = 3 ∨ x = 4 ∨ x = 5 := by omega
theorem c7 {x : Int} (h0 : 0 ≤ x) (h1 : x < 7) : x = 0 ∨ x = 1 ∨ x = 2 ∨ x = 3 ∨ x = 4 ∨ x = 5 ∨ x = 6 := by omega
theorem c8 {x : Int} (h0 : 0 ≤ x) (h1 : x < 8) : x = 0 ∨ x = 1 ∨ x = 2 ∨ x = 3 ∨ x = 4 ∨ x = 5 ∨ x = 6 ∨ x = 7 := by omega
theorem c9 {x : Int} (h0 : 0 ≤ x) (h1 : x < 9) : x = 0 ∨ x = 1 ∨ x = 2 ∨ x = 3 ∨ x = 4 ∨ x = 5 ∨ x = 6 ∨ x = 7 ∨ x = 8 := by omega
theorem c10 {x : Int} (h0 : 0 ≤ x) (h1 : x < 10) : x = 0 ∨ x = 1 ∨ x = 2 ∨ x = 3 ∨ x = 4 ∨ x = 5 ∨ x = 6 ∨ x = 7 ∨ x = 8 ∨ x = 9 := by omega
theorem c11 {x : Int} (h0 : 0 ≤ x) (h1 : x < 11) : x = 0 ∨ x = 1 ∨ x = 2 ∨ x = 3 ∨ x = 4 ∨ x = 5 ∨ x = 6 ∨ x = 7 ∨ x = 8 ∨ x = 9 ∨ x = 10 := by omega
theorem c12 {x : Int} (h0 : 0 ≤ x) (h1 : x < 12) : x = 0 ∨ x = 1 ∨ x = 2 ∨ x = 3 ∨ x = 4 ∨ x = 5 ∨ x = 6 ∨ x = 7 ∨ x = 8 ∨ x = 9 ∨ x = 10 ∨ x = 11 := by omega
theorem c13 {x : Int} (h0 : 0 ≤ x) (h1 : x < 13) : x = 0 ∨ x = 1 ∨ x = 2 ∨ x = 3 ∨ x = 4 ∨ x = 5 ∨ x = 6 ∨ x = 7 ∨ x = 8 ∨ x = 9 ∨ x = 10 ∨ x = 11 ∨ x = 12 := by omega
theorem c14 {x : Int} (h0 : 0 ≤ x) (h1 : x < 14) : x = 0 ∨ x = 1 ∨ x = 2 ∨ x = 3 ∨ x = 4 ∨ x = 5 ∨ x = 6 ∨ x = 7 ∨ x = 8 ∨ x = 9 ∨ x = 10 ∨ x = 11 ∨ x = 12 ∨ x = 13 := by omega
theorem c15 {x : Int} (h0 : 0 ≤ x) (h1 : x < 15) : x = 0 ∨ x = 1 ∨ x = 2 ∨ x = 3 ∨ x = 4 ∨ x = 5 ∨ x = 6 ∨ x = 7 ∨ x = 8 ∨ x = 9 ∨ x = 10 ∨ x = 11 ∨ x = 12 ∨ x = 13 ∨ x = 14 := by omega
theorem c16 {x : Int} (h0 : 0 ≤ x) (h1 : x < 16) : x = 0 ∨ x = 1 ∨ x = 2 ∨ x = 3 ∨ x = 4 ∨ x = 5 ∨ x = 6 ∨ x = 7 ∨ x = 8 ∨ x = 9 ∨ x = 10 ∨ x = 11 ∨ x = 12 ∨ x = 13 ∨ x = 14 ∨ x = 15 := by omega
theorem c25 {x : Int} (h0 : 0 ≤ x) (h1 : x < 25) : x = 0 ∨ x = 1 ∨ x = 2 ∨ x = 3 ∨ x = 4 ∨ x = 5 ∨ x = 6 ∨ x = 7 ∨ x = 8 ∨ x = 9 ∨ x = 10 ∨ x = 11 ∨ x = 12 ∨ x = 13 ∨ x = 14 ∨ x = 15 ∨ x = 16 ∨ x = 17 ∨ x = 18 ∨ x = 19 ∨ x = 20 ∨ x = 21 ∨ x = 22 ∨ x = 23 ∨ x = 24 := by omega
theorem ixD_mem {l : List MP.D} {k : Int} (h0 : 0 ≤ k) (h1 : k < l.length) : ∃ d, ixD l k = some d ∧ d ∈ l := by
  obtain ⟨n, rfl⟩ : ∃ n : Nat, k = n := ⟨k.toNat, by omega⟩
  have hn : n < l.length := by omega
  exact ⟨l[n], ix_nat (List.getElem?_eq_getElem hn), List.getElem_mem hn⟩
theorem wp_ix {l : List MP.D} {k : Int} {fr : Bool} {st : Store} {Q : RV → Store → Prop} (h0 : 0 ≤ k) (h1 : k < l.length) (q : ∀ d, d ∈ l → Q ⟨false, .dat d⟩ st) : Wp (ixV ⟨fr, .dat (.list l)⟩ ⟨false, .dat (.int k)⟩ st) Q := by
  obtain ⟨d, e, hd⟩ := ixD_mem h0 h1
  show Wp (match ixD l k with | some d => R.ok (plain d) st | none => .no) Q
  rw [e]
  exact ⟨q d hd⟩
theorem wp_pick_ix {n : Int} {l : List MP.D} {fr : Bool} {st : Store} {Q : RV → Store → Prop} (h : IsSrc st) (h2 : 2 ≤ n) (hn : n < 2 ^ 64) (hl : n ≤ l.length) (k : ∀ d, d ∈ l → ∀ st', IsSrc st' → Q ⟨false, .dat d⟩ st') :
    Wp (f__law_pick [.loc 1, .dat (.int n)] st) fun y st' => Wp (ixV ⟨fr, .dat (.list l)⟩ y st') Q :=
  wp_pick h h2 hn fun _ st' h' x0 x1 => wp_ix x0 (by omega) fun d hd => k d hd st' h'
/-! ### flat data: no bools, no dicts -/
structure Fl (k : Nat) (d : MP.D) : Prop where
  n : noB d = true
  c : d.canLay0 = true
  d : d.depth ≤ k
structure Fls (k : Nat) (d : List MP.D) : Prop where
  n : noBs d = true
  c : PyData.canLayAll0 d = true
  d : PyData.depthAll d ≤ k
theorem Fl.int (i : Int) : Fl 0 (.int i) := ⟨rfl, rfl, by simp [PyData.depth]⟩
theorem Fl.none : Fl 0 .none := ⟨rfl, rfl, by simp [PyData.depth]⟩
theorem Fl.up {k l : Nat} {d : MP.D} (h : Fl k d) (hl : k ≤ l) : Fl l d := ⟨h.n, h.c, Nat.le_trans h.d hl⟩
theorem Fls.nil {k : Nat} : Fls k [] := ⟨rfl, rfl, by simp [PyData.depthAll]⟩
theorem Fls.cons {k : Nat} {d : MP.D} {ds : List MP.D} (h : Fl k d) (q : Fls k ds) : Fls k (d :: ds) := ⟨by simp [noBs, h.n, q.n], by simp [PyData.canLayAll0, h.c, q.c], by
  have := h.d
  have := q.d
  simp only [PyData.depthAll]
  omega⟩
theorem Fls.map {α : Type} {k : Nat} {f : α → MP.D} : ∀ {l : List α}, (∀ a ∈ l, Fl k (f a)) → Fls k (l.map f)
  | [], _ => .nil
  | a :: l, h => .cons (h a List.mem_cons_self) (Fls.map fun b hb => h b (List.mem_cons_of_mem _ hb))
theorem Fls.app {k : Nat} : ∀ {l m : List MP.D}, Fls k l → Fls k m → Fls k (l ++ m)
  | [], _, _, q => q
  | a :: l, m, h, q => by
    have h1 := h.n
    have h2 := h.c
    have h3 := h.d
    simp only [noBs, Bool.and_eq_true] at h1
    simp only [PyData.canLayAll0, Bool.and_eq_true] at h2
    simp only [PyData.depthAll] at h3
    exact .cons ⟨h1.1, h2.1, by omega⟩ (Fls.app ⟨h1.2, h2.2, by omega⟩ q)
theorem Fl.tup {k : Nat} {ds : List MP.D} (h : Fls k ds) : Fl (k + 1) (.tuple ds) := ⟨h.n, h.c, by
  have := h.d
  simp only [PyData.depth]
  omega⟩
theorem Fl.lst {k : Nat} {ds : List MP.D} (h : Fls k ds) : Fl (k + 1) (.list ds) := ⟨h.n, h.c, by
  have := h.d
  simp only [PyData.depth]
  omega⟩
theorem Fl.shp {k : Nat} {d : MP.D} (h : Fl k d) (hk : k ≤ 64) : shp d = true := by
  show (d.canLay0 && decide (d.depth ≤ 64)) = true
  rw [h.c, decide_eq_true (Nat.le_trans h.d hk)]
  rfl
theorem Fl.eq {k l : Nat} {x y : MP.D} {p : Prop} [Decidable p] (hx : Fl k x) (hy : Fl l y) (hk : k ≤ 64) (hl : l ≤ 64) (h : x = y ↔ p) : cmpD .eq x y = some (decide p) := by
  rw [cmp_eq (hx.shp hk) (hy.shp hl), eqv_dec hx.n hy.n h]
theorem Fl.ne {k l : Nat} {x y : MP.D} {p : Prop} [Decidable p] (hx : Fl k x) (hy : Fl l y) (hk : k ≤ 64) (hl : l ≤ 64) (h : x = y ↔ p) : cmpD .ne x y = some (!decide p) := by
  rw [cmp_ne (hx.shp hk) (hy.shp hl), eqv_dec hx.n hy.n h]
mutual
theorem eqv_refl : ∀ d : MP.D, d.canLay0 = true → PyData.eqv d d = true
  | .none, _ => by simp [PyData.eqv]
  | .bool _, _ => by simp [PyData.eqv]
  | .int _, _ => by simp [PyData.eqv]
  | .str _, _ => by simp [PyData.eqv]
  | .list xs, h => by
    simp only [PyData.canLay0] at h
    simpa [PyData.eqv] using eqvs_refl xs h
  | .tuple xs, h => by
    simp only [PyData.canLay0] at h
    simpa [PyData.eqv] using eqvs_refl xs h
  | .dict _, h => by simp [PyData.canLay0] at h
theorem eqvs_refl : ∀ d : List MP.D, PyData.canLayAll0 d = true → PyData.eqvAll d d = true
  | [], _ => by simp [PyData.eqvAll]
  | x :: xs, h => by
    simp only [PyData.canLayAll0, Bool.and_eq_true] at h
    simp [PyData.eqvAll, eqv_refl x h.1, eqvs_refl xs h.2]
end
theorem eq_self {x : MP.D} (h : shp x = true) : cmpD .eq x x = some true := by
  have c : x.canLay0 = true := (Bool.and_eq_true_iff.mp (show (x.canLay0 && decide (x.depth ≤ 64)) = true from h)).1
  rw [cmp_eq h h, eqv_refl x c]
theorem ne_self {x : MP.D} (h : shp x = true) : cmpD .ne x x = some false := by
  have c : x.canLay0 = true := (Bool.and_eq_true_iff.mp (show (x.canLay0 && decide (x.depth ≤ 64)) = true from h)).1
  rw [cmp_ne h h, eqv_refl x c]
  rfl
theorem law_of_wp {f : Fn} {vs : List Val} {st : Store} (h : Wp (f vs st) fun x _ => x.v = .dat (.bool true)) : ∃ fr st', f vs st = .ok ⟨fr, .dat (.bool true)⟩ st' := by
  obtain ⟨⟨fr, v⟩, st', e, q⟩ := h.ex
  have q : v = .dat (.bool true) := q
  subst q
  exact ⟨fr, st', e⟩
theorem ok8 : rngOk 8 = true := by decide
theorem ok5 : rngOk 5 = true := by decide
theorem ok6 : rngOk 6 = true := by decide
theorem ok10 : rngOk 10 = true := by decide
theorem ok3 : rngOk 3 = true := by decide
theorem ok2 : rngOk 2 = true := by decide
theorem ok4 : rngOk 4 = true := by decide
theorem ok12 : rngOk 12 = true := by decide
theorem okR {i : Int} (h0 : 0 ≤ i) (h1 : i < 2 ^ 62) : rngOk i = true := by
  simp only [rngOk, Bool.and_eq_true, decide_eq_true_eq]
  omega
theorem bools_map {α : Type} (f : α → Bool) : ∀ l : List α, boolsOf (l.map fun a => .bool (f a)) = some (l.map f)
  | [] => rfl
  | a :: l => by
    show (boolsOf (l.map fun a => .bool (f a))).map _ = _
    rw [bools_map f l]
    rfl
theorem all_map {α : Type} (f : α → Bool) (l : List α) : bltF .all [.list (l.map fun a => .bool (f a))] = some (false, .bool (l.all f)) := by
  show (boolsOf _).map _ = _
  rw [bools_map]
  simp [List.all_map, Function.comp_def]
theorem any_map {α : Type} (f : α → Bool) (l : List α) : bltF .any [.list (l.map fun a => .bool (f a))] = some (false, .bool (l.any f)) := by
  show (boolsOf _).map _ = _
  rw [bools_map]
  simp [List.any_map, Function.comp_def]
end MK

/-! Whole numbers of a law: sizes, powers, the greatest common divisor, fractions. -/
namespace MK
open PySem MP
def n__law_raised : List Str := ["_law_p", "_law_n", "_law_found", "_law_lap"]
def b__law_raised : Sms := (.cons (.set 2 false (.cst (.int 1))) (.cons (.forr (.nm 3) (.rng1 (.var 1)) (.cons (.set 2 false (.bin .mul (.var 2) (.var 0))) .nil)) (.cons (.ret (.var 2)) .nil)))
def f__law_raised : Fn := fnOf 2 4 b__law_raised
def r__law_raised : List Req := [.non "range"]
theorem q__law_raised : rqSs b__law_raised = [0].map fun i => r__law_raised.getD i (.non "") := rfl
def n__law_common : List Str := ["_law_a", "_law_b"]
def b__law_common : Sms := (.cons (.par [0, 1] (.cons (.blt .abs (.cons (.var 0) .nil)) (.cons (.blt .abs (.cons (.var 1) .nil)) .nil))) (.cons (.whil (.cmp .ne (.var 1) (.cst (.int 0))) (.cons (.par [0, 1] (.cons (.var 1) (.cons (.bin .mod (.var 0) (.var 1)) .nil))) .nil)) (.cons (.ret (.var 0)) .nil)))
def f__law_common : Fn := fnOf 2 2 b__law_common
def r__law_common : List Req := [.non "abs"]
theorem q__law_common : rqSs b__law_common = [0, 0].map fun i => r__law_common.getD i (.non "") := rfl
def n__law_fraction : List Str := ["_law_n", "_law_d", "_law_sign", "_law_divisor"]
def b__law_fraction : Sms := (.cons (.set 2 false (.ite (.cmp .gt (.var 1) (.cst (.int 0))) (.cst (.int 1)) (.bin .sub (.cst (.int 0)) (.cst (.int 1))))) (.cons (.set 3 false (.bin .mul (.call "_law_common" f__law_common (.cons (.var 0) (.cons (.var 1) .nil))) (.var 2))) (.cons (.ret (.tup (.cons (.bin .fdiv (.var 0) (.var 3)) (.cons (.bin .fdiv (.var 1) (.var 3)) .nil)))) .nil)))
def f__law_fraction : Fn := fnOf 2 4 b__law_fraction
def r__law_fraction : List Req := [.fn "_law_common" f__law_common]
theorem q__law_fraction : rqSs b__law_fraction = [0].map fun i => r__law_fraction.getD i (.non "") := rfl

/-! ### sizes -/
def Bd (k : Nat) (i : Int) : Prop := i.natAbs < 2 ^ k
theorem Bd.up {k l : Nat} {i : Int} (h : Bd k i) (hl : k ≤ l) : Bd l i := Nat.lt_of_lt_of_le h (Nat.pow_le_pow_right (by decide) hl)
theorem Bd.neg {k : Nat} {i : Int} (h : Bd k i) : Bd k (-i) := by
  unfold Bd
  rw [Int.natAbs_neg]
  exact h
theorem Bd.zero (k : Nat) : Bd k 0 := Nat.two_pow_pos k
theorem Bd.mul {k l : Nat} {i j : Int} (hi : Bd k i) (hj : Bd l j) : Bd (k + l) (i * j) := by
  unfold Bd at *
  rw [Int.natAbs_mul, Nat.pow_add]
  exact Nat.mul_lt_mul'' hi hj
theorem Bd.add {k l : Nat} {i j : Int} (hi : Bd k i) (hj : Bd l j) : Bd (max k l + 1) (i + j) := by
  have h1 : i.natAbs < 2 ^ max k l := hi.up (Nat.le_max_left _ _)
  have h2 : j.natAbs < 2 ^ max k l := hj.up (Nat.le_max_right _ _)
  unfold Bd
  rw [Nat.pow_succ]
  omega
theorem Bd.add' {k : Nat} {i j : Int} (hi : Bd k i) (hj : Bd k j) : Bd (k + 1) (i + j) := by
  have h := hi.add hj
  rwa [Nat.max_self] at h
theorem Bd.sub' {k : Nat} {i j : Int} (hi : Bd k i) (hj : Bd k j) : Bd (k + 1) (i - j) := by
  rw [Int.sub_eq_add_neg]
  exact hi.add' hj.neg
theorem Bd.log {k : Nat} {i : Int} (h : Bd k i) (hk : 0 < k) : i.natAbs.log2 < k := by
  by_cases h0 : i.natAbs = 0
  · rw [h0]
    exact hk
  · exact (Nat.log2_lt h0).mpr h
theorem mulOk_of {k l : Nat} {i j : Int} (hi : Bd k i) (hj : Bd l j) (h : k + l ≤ 1000000) : mulOk i j = true := by
  unfold mulOk
  have q : decide (i.natAbs.log2 + j.natAbs.log2 < 1000000) = true := by
    apply decide_eq_true
    by_cases h1 : k = 0
    · subst h1
      have e : i.natAbs = 0 := by
        have := hi
        unfold Bd at this
        omega
      rw [e]
      by_cases h2 : l = 0
      · subst h2
        have e2 : j.natAbs = 0 := by
          have := hj
          unfold Bd at this
          omega
        rw [e2]
        decide
      · have := hj.log (by omega)
        have e0 : Nat.log2 0 = 0 := by decide
        omega
    · have a := hi.log (by omega)
      by_cases h2 : l = 0
      · subst h2
        have e2 : j.natAbs = 0 := by
          have := hj
          unfold Bd at this
          omega
        rw [e2]
        have e0 : Nat.log2 0 = 0 := by decide
        omega
      · have b := hj.log (by omega)
        omega
  rw [q, Bool.or_true]
theorem bin_mul {k l : Nat} {i j : Int} (hi : Bd k i) (hj : Bd l j) (h : k + l ≤ 1000000) : bin .mul (.int i) (.int j) = some (false, .int (i * j)) := by
  show (bif mulOk i j then some (false, PyData.int (i * j)) else none) = _
  rw [mulOk_of hi hj h]
  rfl
theorem bin_fdiv {k : Nat} {i j : Int} (hj : Bd k j) (h0 : j ≠ 0) (hk : k ≤ 8999) : bin .fdiv (.int i) (.int j) = some (false, .int (i.fdiv j)) := by
  have q : divOk j = true := by
    unfold divOk
    have := (hj.up hk).log (by decide)
    simp [h0]
    omega
  show (bif divOk j then some (false, PyData.int (i.fdiv j)) else none) = _
  rw [q]
  rfl
theorem bin_mod {i j : Int} (h0 : j ≠ 0) : bin .mod (.int i) (.int j) = some (false, .int (i.fmod j)) := by
  show (bif decide (j ≠ 0) then some (false, PyData.int (i.fmod j)) else none) = _
  rw [decide_eq_true h0]
  rfl
/-! ### the greatest common divisor -/
theorem common_while (st : Store) : ∀ (n fuel : Nat) (a b : Nat), n < fuel → (b ≤ a → a * b < 2 ^ n) → (a < b → 1 ≤ n ∧ a * b < 2 ^ (n - 1)) → whileL (fun env st => (evE (.cmp .ne (.var 1) (.cst (.int 0))) true env st).bind fun x st => boolOf x st) (evSs (.cons (.par [0, 1] (.cons (.var 1) (.cons (.bin .mod (.var 0) (.var 1)) .nil))) .nil)) fuel [.val (.dat (.int a)), .val (.dat (.int b))] st =
    .nx [.val (.dat (.int (Nat.gcd a b : Nat))), .val (.dat (.int 0))] st
  | n, 0, a, b, hn, _, _ => by omega
  | n, fuel + 1, a, b, hn, h1, h2 => by
    have e : whileL (fun env st => (evE (.cmp .ne (.var 1) (.cst (.int 0))) true env st).bind fun x st => boolOf x st) (evSs (.cons (.par [0, 1] (.cons (.var 1) (.cons (.bin .mod (.var 0) (.var 1)) .nil))) .nil)) (fuel + 1) [.val (.dat (.int a)), .val (.dat (.int b))] st =
        (bif !decide ((b : Int) = 0) then turn (evSs (.cons (.par [0, 1] (.cons (.var 1) (.cons (.bin .mod (.var 0) (.var 1)) .nil))) .nil) [.val (.dat (.int a)), .val (.dat (.int b))] st) (whileL (fun env st => (evE (.cmp .ne (.var 1) (.cst (.int 0))) true env st).bind fun x st => boolOf x st) (evSs (.cons (.par [0, 1] (.cons (.var 1) (.cons (.bin .mod (.var 0) (.var 1)) .nil))) .nil)) fuel) else .nx [.val (.dat (.int a)), .val (.dat (.int b))] st) := by
      simp [whileL, evE]
    rw [e]
    by_cases hb : b = 0
    · subst hb
      simp
    · have hb' : (b : Int) ≠ 0 := by omega
      rw [decide_eq_false hb']
      have em : bin .mod (.int (a : Int)) (.int (b : Int)) = some (false, .int ((a % b : Nat) : Int)) := by
        rw [bin_mod hb', Int.fmod_eq_emod_of_nonneg _ (by omega)]
        rfl
      have eb : evSs (.cons (.par [0, 1] (.cons (.var 1) (.cons (.bin .mod (.var 0) (.var 1)) .nil))) .nil) [.val (.dat (.int a)), .val (.dat (.int b))] st = .nx [.val (.dat (.int b)), .val (.dat (.int ((a % b : Nat) : Int)))] st := by
        simp [evSs, evS, evE, evA, em, putVals]
      rw [eb]
      show whileL _ _ fuel _ _ = _
      have hlt : a % b < b := Nat.mod_lt _ (by omega)
      rw [Nat.gcd_comm a b, Nat.gcd_rec b a]
      by_cases hab : b ≤ a
      · have hp := h1 hab
        have h3 : b + a % b ≤ a := by
          have := Nat.div_add_mod a b
          have : 1 ≤ a / b := (Nat.one_le_div_iff (by omega)).mpr hab
          have : b * 1 ≤ b * (a / b) := Nat.mul_le_mul_left _ this
          omega
        have hpos : 1 ≤ a * b := Nat.mul_pos (by omega) (by omega)
        have hn0 : n ≠ 0 := fun z => by
          subst z
          simp at hp
          omega
        obtain ⟨m, rfl⟩ : ∃ m, n = m + 1 := ⟨n - 1, by omega⟩
        have h4 : 2 * (b * (a % b)) ≤ a * b := by
          have : (2 * (a % b)) * b ≤ a * b := Nat.mul_le_mul_right _ (by omega)
          have e2 : 2 * (b * (a % b)) = (2 * (a % b)) * b := by
            rw [Nat.mul_assoc, Nat.mul_comm b]
          omega
        rw [Nat.pow_succ] at hp
        rw [Nat.gcd_comm (a % b) b]
        exact common_while st m fuel b (a % b) (by omega) (fun _ => by omega) (fun h => by omega)
      · obtain ⟨hn1, hp⟩ := h2 (by omega)
        have ea : a % b = a := Nat.mod_eq_of_lt (by omega)
        rw [ea, Nat.gcd_comm a b]
        exact common_while st (n - 1) fuel b a (by omega) (fun _ => by rw [Nat.mul_comm]; exact hp) (fun h => by omega)
theorem common_ok {k l : Nat} (a b : Int) (st : Store) (ha : Bd k a) (hb : Bd l b) (h : k + l ≤ 1000000) : f__law_common [.dat (.int a), .dat (.int b)] st = .ok ⟨false, .dat (.int (Int.gcd a b : Nat))⟩ st := by
  have hp : a.natAbs * b.natAbs < 2 ^ (k + l) := by
    rw [Nat.pow_add]
    exact Nat.mul_lt_mul'' ha hb
  refine fn_ret rfl (seq_of (env' := [.val (.dat (.int (a.natAbs : Int))), .val (.dat (.int (b.natAbs : Int)))]) (st' := st) rfl (seq_of (common_while st (k + l + 1) WF a.natAbs b.natAbs (Nat.lt_of_le_of_lt (by omega : k + l + 1 ≤ 1000001) (by decide)) (fun _ => by rw [Nat.pow_succ]; omega) (fun _ => ⟨by omega, by simpa using hp⟩)) rfl))

/-! ### powers -/
theorem Bd.pow {k : Nat} {p : Int} (h : Bd k p) : ∀ n : Nat, Bd (k * n + 1) (p ^ n)
  | 0 => by
    unfold Bd
    simp
  | n + 1 => by
    have q := (Bd.pow h n).mul h
    rw [Int.pow_succ]
    exact q.up (by rw [Nat.mul_succ]; omega)
theorem raised_ok {k : Nat} (p n : Int) (st : Store) (hp : Bd k p) (h1 : -(2 ^ 62) ≤ n) (h2 : n < 2 ^ 62) (hk : k * n.toNat + k + 1 ≤ 1000000) : f__law_raised [.dat (.int p), .dat (.int n)] st = .ok ⟨false, .dat (.int (p ^ n.toNat))⟩ st := by
  obtain ⟨env', st', e, hp'⟩ := forL_nx (tg := .nm 3) (body := evSs (.cons (.set 2 false (.bin .mul (.var 2) (.var 0))) .nil)) (fun r env st' => st' = st ∧ ∃ (i : Nat) (s : Slot), env = [.val (.dat (.int p)), .val (.dat (.int n)), .val (.dat (.int (p ^ i))), s] ∧ i + r.length = n.toNat) (fun d r env st' h => by
      obtain ⟨rfl, i, s, rfl, hi⟩ := h
      simp only [List.length_cons] at hi
      have hm : k * i ≤ k * n.toNat := Nat.mul_le_mul_left _ (by omega)
      refine ⟨_, _, _, rfl, .inl (seq_of (set_of (bin_of rfl rfl (bin_mul (hp.pow i) hp (by omega)))) rfl), rfl, i + 1, .val (.dat d), ?_, by omega⟩
      rw [Int.pow_succ]
      rfl) (rangeUp 0 n) [.val (.dat (.int p)), .val (.dat (.int n)), .val (.dat (.int 1)), .un] st ⟨rfl, 0, .un, by simp, by rw [rangeUp_len, Int.sub_zero, Nat.zero_add]⟩
  obtain ⟨rfl, i, s, rfl, hi⟩ := hp'
  simp at hi
  subst hi
  exact fn_ret rfl (seq_of rfl (seq_of (for_of (rng1_of rfl ⟨h1, h2⟩) e) rfl))
/-! ### fractions -/
def sgn1 (d : Int) : Int := if 0 < d then 1 else -1
def frac (n d : Int) : Int × Int := (n.fdiv ((Int.gcd n d : Nat) * sgn1 d), d.fdiv ((Int.gcd n d : Nat) * sgn1 d))
def eP (q : Int × Int) : MP.D := .tuple [.int q.1, .int q.2]
theorem sgn1_cases (d : Int) : sgn1 d = 1 ∨ sgn1 d = -1 := by
  unfold sgn1
  split
  · exact .inl rfl
  · exact .inr rfl
theorem gcd_pos {n d : Int} (hd : d ≠ 0) : 0 < Int.gcd n d := Int.gcd_pos_of_ne_zero_right n hd
theorem frac_mul {n d : Int} (hd : d ≠ 0) : (Int.gcd n d : Int) * sgn1 d * (frac n d).1 = n ∧ (Int.gcd n d : Int) * sgn1 d * (frac n d).2 = d := by
  have hg := gcd_pos (n := n) hd
  have h0 : (Int.gcd n d : Int) * sgn1 d ≠ 0 := by
    rcases sgn1_cases d with e | e <;> rw [e] <;> omega
  have hn : (Int.gcd n d : Int) * sgn1 d ∣ n := by
    rcases sgn1_cases d with e | e <;> rw [e]
    · rw [Int.mul_one]
      exact Int.gcd_dvd_left ..
    · rw [Int.mul_neg, Int.mul_one, Int.neg_dvd]
      exact Int.gcd_dvd_left ..
  have hd' : (Int.gcd n d : Int) * sgn1 d ∣ d := by
    rcases sgn1_cases d with e | e <;> rw [e]
    · rw [Int.mul_one]
      exact Int.gcd_dvd_right ..
    · rw [Int.mul_neg, Int.mul_one, Int.neg_dvd]
      exact Int.gcd_dvd_right ..
  unfold frac
  refine ⟨?_, ?_⟩
  · obtain ⟨x, hx⟩ := hn
    have e : n.fdiv ((Int.gcd n d : Int) * sgn1 d) = x := by
      conv => lhs; arg 1; rw [hx]
      exact Int.mul_fdiv_cancel_left _ h0
    show (Int.gcd n d : Int) * sgn1 d * n.fdiv ((Int.gcd n d : Int) * sgn1 d) = n
    rw [e]
    exact hx.symm
  · obtain ⟨x, hx⟩ := hd'
    have e : d.fdiv ((Int.gcd n d : Int) * sgn1 d) = x := by
      conv => lhs; arg 1; rw [hx]
      exact Int.mul_fdiv_cancel_left _ h0
    show (Int.gcd n d : Int) * sgn1 d * d.fdiv ((Int.gcd n d : Int) * sgn1 d) = d
    rw [e]
    exact hx.symm
def NF (q : Int × Int) : Prop := 0 < q.2 ∧ Int.gcd q.1 q.2 = 1
theorem pos_of_mul {a b : Int} (ha : 0 < a) (h : 0 < a * b) : 0 < b := by
  rcases Int.lt_trichotomy b 0 with q | q | q
  · have := Int.mul_neg_of_pos_of_neg ha q
    omega
  · subst q
    simp at h
  · exact q
theorem frac_nf {n d : Int} (hd : d ≠ 0) : NF (frac n d) := by
  obtain ⟨h1, h2⟩ := frac_mul (n := n) hd
  have hg := gcd_pos (n := n) hd
  obtain ⟨x, hx⟩ : ∃ x, (frac n d).1 = x := ⟨_, rfl⟩
  obtain ⟨y, hy⟩ : ∃ y, (frac n d).2 = y := ⟨_, rfl⟩
  rw [hx] at h1
  rw [hy] at h2
  have key : Int.gcd x y = 1 := by
    have e : Int.gcd n d = Int.gcd n d * Int.gcd x y := by
      have : Int.gcd ((Int.gcd n d : Int) * sgn1 d * x) ((Int.gcd n d : Int) * sgn1 d * y) = ((Int.gcd n d : Int) * sgn1 d).natAbs * Int.gcd x y := Int.gcd_mul_left ..
      rw [h1, h2] at this
      have e2 : ((Int.gcd n d : Int) * sgn1 d).natAbs = Int.gcd n d := by
        rcases sgn1_cases d with e | e <;> rw [e] <;> simp
      rw [e2] at this
      exact this
    have : Int.gcd n d * Int.gcd x y = Int.gcd n d * 1 := by omega
    exact Nat.eq_of_mul_eq_mul_left hg this
  refine ⟨?_, by rw [hx, hy]; exact key⟩
  rw [hy]
  by_cases hp : 0 < d
  · have e : sgn1 d = 1 := if_pos hp
    rw [e, Int.mul_one] at h2
    exact pos_of_mul (a := (Int.gcd n d : Int)) (by omega) (by omega)
  · have e : sgn1 d = -1 := if_neg hp
    rw [e, Int.mul_neg, Int.mul_one, Int.neg_mul] at h2
    exact pos_of_mul (a := (Int.gcd n d : Int)) (by omega) (by omega)
theorem frac_cross {n d : Int} (hd : d ≠ 0) : (frac n d).1 * d = n * (frac n d).2 := by
  obtain ⟨h1, h2⟩ := frac_mul (n := n) hd
  conv => lhs; arg 2; rw [← h2]
  conv => rhs; arg 1; rw [← h1]
  rw [Int.mul_comm (frac n d).1, Int.mul_assoc, Int.mul_assoc, Int.mul_assoc, Int.mul_assoc, Int.mul_comm (frac n d).2 (frac n d).1]
theorem cop_dvd {a b c : Int} (h : Int.gcd a b = 1) (hd : b ∣ a * c) : b ∣ c := by
  rw [← Int.natAbs_dvd_natAbs] at *
  rw [Int.natAbs_mul] at hd
  exact Nat.Coprime.dvd_of_dvd_mul_left (show Nat.gcd b.natAbs a.natAbs = 1 by rw [Nat.gcd_comm]; exact h) hd
theorem NF_eq {a b : Int × Int} (ha : NF a) (hb : NF b) : a = b ↔ a.1 * b.2 = b.1 * a.2 := by
  constructor
  · rintro rfl
    rfl
  · intro h
    have d1 : a.2 ∣ b.2 := cop_dvd ha.2 ⟨b.1, by rw [h, Int.mul_comm]⟩
    have d2 : b.2 ∣ a.2 := cop_dvd hb.2 ⟨a.1, by rw [← h, Int.mul_comm]⟩
    have e : a.2 = b.2 := Int.dvd_antisymm (Int.le_of_lt ha.1) (Int.le_of_lt hb.1) d1 d2
    have e1 : a.1 = b.1 := by
      rw [e] at h
      exact Int.eq_of_mul_eq_mul_right (Int.ne_of_gt hb.1) h
    exact Prod.ext e1 e
/-- two fractions are the same just if they are so across -/
theorem frac_eq {n d m e : Int} (hd : d ≠ 0) (he : e ≠ 0) : frac n d = frac m e ↔ n * e = m * d := by
  obtain ⟨a1, a2⟩ := frac_mul (n := n) hd
  obtain ⟨b1, b2⟩ := frac_mul (n := m) he
  rw [NF_eq (frac_nf hd) (frac_nf he)]
  have ga : (Int.gcd n d : Int) * sgn1 d ≠ 0 := fun z => by rw [z, Int.zero_mul] at a2; exact hd a2.symm
  have gb : (Int.gcd m e : Int) * sgn1 e ≠ 0 := fun z => by rw [z, Int.zero_mul] at b2; exact he b2.symm
  generalize (Int.gcd n d : Int) * sgn1 d = A at *
  generalize (Int.gcd m e : Int) * sgn1 e = B at *
  generalize (frac n d).1 = x1 at *
  generalize (frac n d).2 = y1 at *
  generalize (frac m e).1 = x2 at *
  generalize (frac m e).2 = y2 at *
  have e1 : n * e = (A * B) * (x1 * y2) := by
    rw [← a1, ← b2]
    ac_rfl
  have e2 : m * d = (A * B) * (x2 * y1) := by
    rw [← b1, ← a2]
    ac_rfl
  rw [e1, e2]
  exact ⟨fun h => by rw [h], fun h => Int.eq_of_mul_eq_mul_left (Int.mul_ne_zero ga gb) h⟩
theorem fdiv_bd {k : Nat} {a b : Int} (h : Bd k a) : Bd k (a.fdiv b) := by
  unfold Bd at *
  have q : (a.fdiv b).natAbs ≤ a.natAbs := Int.natAbs_fdiv_le_natAbs a b
  omega
theorem frac_bd {k l : Nat} {n d : Int} (hn : Bd k n) (hd : Bd l d) : Bd k (frac n d).1 ∧ Bd l (frac n d).2 := ⟨fdiv_bd hn, fdiv_bd hd⟩
theorem gcd_bd {l : Nat} {n d : Int} (h0 : d ≠ 0) (hd : Bd l d) : Bd l (Int.gcd n d : Nat) := by
  unfold Bd at *
  have q : Int.gcd n d ≤ d.natAbs := Nat.le_of_dvd (by omega) (Nat.gcd_dvd_right ..)
  show Int.gcd n d < 2 ^ l
  omega
theorem fraction_ok {k l : Nat} (n d : Int) (st : Store) (hn : Bd k n) (hd : Bd l d) (h0 : d ≠ 0) (hk : k ≤ 900000) (hl : l ≤ 8900) : f__law_fraction [.dat (.int n), .dat (.int d)] st = .ok ⟨false, .dat (eP (frac n d))⟩ st := by
  have hc := common_ok n d st hn hd (by omega)
  have hg := gcd_bd (n := n) h0 hd
  have hs : Bd 1 (sgn1 d) := by rcases sgn1_cases d with e | e <;> rw [e] <;> unfold Bd <;> decide
  have hm := bin_mul hg hs (by omega)
  have hgs : Bd (l + 1) ((Int.gcd n d : Nat) * sgn1 d) := hg.mul hs
  have g0 : ((Int.gcd n d : Nat) : Int) * sgn1 d ≠ 0 := by
    have := gcd_pos (n := n) h0
    rcases sgn1_cases d with e | e <;> rw [e] <;> omega
  have e1 := bin_fdiv (i := n) hgs g0 (by omega)
  have e2 := bin_fdiv (i := d) hgs g0 (by omega)
  refine fn_ret rfl (seq_of (set_of (x := ⟨false, .dat (.int (sgn1 d))⟩) (st1 := st) ?_) (seq_of (set_of (bin_of (call_of (vs := [.dat (.int n), .dat (.int d)]) rfl hc) (y := .int (sgn1 d)) rfl hm)) (seq_end (ret_of ?_))))
  · unfold sgn1
    by_cases h : 0 < d <;> simp [evE, h]
  · simp [evE, evA, e1, e2, eP, frac]
/-! ### data of bounded size -/
structure Sz (k w : Nat) (d : MP.D) : Prop where
  o : okD d = true
  z : d.depth ≤ k
  w : wtD d ≤ w
structure Szs (k w : Nat) (d : List MP.D) : Prop where
  o : okDs d = true
  z : PyData.depthAll d ≤ k
  w : wtDs d ≤ w
theorem Sz.int {b : Nat} {i : Int} (h : Bd b i) (hb : b ≤ 1900) : Sz 0 (b + 2) (.int i) := by
  have h1 : i.natAbs.log2 < 1900 ∧ i.natAbs.log2 ≤ b := by
    by_cases h0 : b = 0
    · subst h0
      have e : i.natAbs = 0 := by
        unfold Bd at h
        omega
      rw [e]
      decide
    · have := h.log (by omega)
      omega
  exact ⟨decide_eq_true h1.1, by simp [PyData.depth], by
    show i.natAbs.log2 + 2 ≤ _
    omega⟩
theorem Sz.bool (b : Bool) : Sz 0 5 (.bool b) := ⟨rfl, by simp [PyData.depth], Nat.le_refl 5⟩
theorem Sz.none : Sz 0 4 .none := ⟨rfl, by simp [PyData.depth], Nat.le_refl 4⟩
theorem Sz.up {k l w u : Nat} {d : MP.D} (h : Sz k w d) (hk : k ≤ l) (hw : w ≤ u) : Sz l u d := ⟨h.o, Nat.le_trans h.z hk, Nat.le_trans h.w hw⟩
theorem Szs.nil {k w : Nat} : Szs k w [] := ⟨rfl, by simp [PyData.depthAll], Nat.zero_le _⟩
theorem Szs.cons {k l w u : Nat} {d : MP.D} {ds : List MP.D} (h : Sz k w d) (q : Szs l u ds) : Szs (max k l) (w + 2 + u) (d :: ds) := ⟨by simp [okDs, h.o, q.o], by
  have := h.z
  have := q.z
  simp only [PyData.depthAll]
  omega, by
  have := h.w
  have := q.w
  show wtD d + 2 + wtDs ds ≤ _
  omega⟩
theorem Szs.map {α : Type} {k w : Nat} {f : α → MP.D} {l : List α} (h : ∀ a ∈ l, Sz k w (f a)) : Szs k ((w + 2) * l.length) (l.map f) := ⟨okDs_map fun a ha => (h a ha).o, depths_map fun a ha => (h a ha).z, wts_map fun a ha => (h a ha).w⟩
theorem Sz.tup {k w : Nat} {ds : List MP.D} (h : Szs k w ds) : Sz (k + 1) (w + 3) (.tuple ds) := ⟨h.o, by
  have := h.z
  simp only [PyData.depth]
  omega, by
  have := h.w
  show wtDs ds + 3 ≤ _
  omega⟩
theorem Sz.lst {k w : Nat} {ds : List MP.D} (h : Szs k w ds) : Sz (k + 1) (w + 3) (.list ds) := ⟨h.o, by
  have := h.z
  simp only [PyData.depth]
  omega, by
  have := h.w
  show wtDs ds + 3 ≤ _
  omega⟩
theorem Sz.repr {k w : Nat} {d : MP.D} (h : Sz k w d) (hk : k ≤ 100) (hw : w ≤ 2 ^ 24) : bltF .repr [d] = some (false, .str d.shown) := blt_repr (showOk_of h.o (Nat.le_trans h.z hk) (Nat.le_trans h.w hw))
theorem Sz.shp {k w : Nat} {d : MP.D} (h : Sz k w d) (hk : k ≤ 64) : MP.shp d = true := shp_of h.o (Nat.le_trans h.z hk)
theorem eP_sz {b : Nat} {q : Int × Int} (h1 : Bd b q.1) (h2 : Bd b q.2) (hb : b ≤ 1900) : Sz 1 (2 * b + 11) (eP q) :=
  (Sz.tup (.cons (.int h1 hb) (.cons (.int h2 hb) (Szs.nil (k := 0) (w := 0))))).up (by omega) (by omega)
theorem eP_fl (q : Int × Int) : Fl 1 (eP q) := .tup (.cons (.int _) (.cons (.int _) .nil))
theorem eP_inj {a b : Int × Int} : eP a = eP b ↔ a = b := by
  obtain ⟨a1, a2⟩ := a
  obtain ⟨b1, b2⟩ := b
  simp [eP]
theorem map_inj {α : Type} {f : α → MP.D} (h : ∀ a b, f a = f b ↔ a = b) (x y : List α) : x.map f = y.map f ↔ x = y := ⟨fun q => (List.map_inj_right fun a b e => (h a b).mp e).mp q, fun q => by rw [q]⟩
@[simp] theorem eq_eP (a b : Int × Int) : cmpD .eq (eP a) (eP b) = some (decide (a = b)) := (eP_fl a).eq (eP_fl b) (by decide) (by decide) eP_inj
@[simp] theorem ne_eP (a b : Int × Int) : cmpD .ne (eP a) (eP b) = some (!decide (a = b)) := (eP_fl a).ne (eP_fl b) (by decide) (by decide) eP_inj
theorem lP_fl (q : List (Int × Int)) : Fl 2 (.list (q.map eP)) := .lst (.map fun a _ => eP_fl a)
theorem lP_inj {a b : List (Int × Int)} : PyData.list (a.map eP) = .list (b.map eP) ↔ a = b := by
  rw [PyData.list.injEq]
  exact map_inj (fun _ _ => eP_inj) a b
@[simp] theorem eq_lP (a b : List (Int × Int)) : cmpD .eq (.list (a.map eP)) (.list (b.map eP)) = some (decide (a = b)) := (lP_fl a).eq (lP_fl b) (by decide) (by decide) lP_inj
@[simp] theorem ne_lP (a b : List (Int × Int)) : cmpD .ne (.list (a.map eP)) (.list (b.map eP)) = some (!decide (a = b)) := (lP_fl a).ne (lP_fl b) (by decide) (by decide) lP_inj
theorem cmp_strE {x y : Str} : cmpD .eq (.str x) (.str y) = some (decide (x = y)) := Eq.trans rfl rfl
theorem cmp_strN {x y : Str} : cmpD .ne (.str x) (.str y) = some (!decide (x = y)) := Eq.trans rfl rfl
theorem eP_i0 {f g : Bool} {q : Int × Int} {st : Store} : ixV ⟨f, .dat (eP q)⟩ ⟨g, .dat (.int 0)⟩ st = .ok ⟨false, .dat (.int q.1)⟩ st := Eq.trans rfl rfl
theorem eP_i1 {f g : Bool} {q : Int × Int} {st : Store} : ixV ⟨f, .dat (eP q)⟩ ⟨g, .dat (.int 1)⟩ st = .ok ⟨false, .dat (.int q.2)⟩ st := Eq.trans rfl rfl
theorem eP_bt {ts : Tgs} {q : Int × Int} {env : MP.Env} : bindTg (.tup ts) (eP q) env = bindTgs ts [.int q.1, .int q.2] env := Eq.trans rfl rfl
theorem eP_mk {a b : Int} : eP (a, b) = .tuple [.int a, .int b] := rfl
end MK

/-! Moves of a law: tables of four numbers in one form. -/
namespace MK
open PySem MP
def n__law_move : List Str := ["_law_a", "_law_b", "_law_c", "_law_d", "_law_divisor", "_law_first", "_law_x"]
def b__law_move : Sms := (.cons (.set 4 false (.call "_law_common" f__law_common (.cons (.call "_law_common" f__law_common (.cons (.var 0) (.cons (.var 1) .nil))) (.cons (.call "_law_common" f__law_common (.cons (.var 2) (.cons (.var 3) .nil))) .nil)))) (.cons (.set 5 false (.ix (.comp (.var 6) [("_law_x", 6)] (.nm 6) (.seq (.tup (.cons (.var 0) (.cons (.var 1) (.cons (.var 2) (.cons (.var 3) .nil)))))) (.som (.cmp .ne (.var 6) (.cst (.int 0))))) (.cst (.int 0)))) (.cons (.set 4 false (.ite (.cmp .gt (.var 5) (.cst (.int 0))) (.var 4) (.bin .sub (.cst (.int 0)) (.var 4)))) (.cons (.ret (.tup (.cons (.bin .fdiv (.var 0) (.var 4)) (.cons (.bin .fdiv (.var 1) (.var 4)) (.cons (.bin .fdiv (.var 2) (.var 4)) (.cons (.bin .fdiv (.var 3) (.var 4)) .nil)))))) .nil))))
def f__law_move : Fn := fnOf 4 7 b__law_move
def r__law_move : List Req := [.fn "_law_common" f__law_common]
theorem q__law_move : rqSs b__law_move = [0, 0, 0].map fun i => r__law_move.getD i (.non "") := rfl
def n__law_after : List Str := ["_law_one", "_law_other", "_law_a", "_law_b", "_law_c", "_law_d", "_law_e", "_law_f", "_law_g", "_law_h"]
def b__law_after : Sms := (.cons (.setT (.cons (.nm 2) (.cons (.nm 3) (.cons (.nm 4) (.cons (.nm 5) .nil)))) (.var 0)) (.cons (.setT (.cons (.nm 6) (.cons (.nm 7) (.cons (.nm 8) (.cons (.nm 9) .nil)))) (.var 1)) (.cons (.ret (.call "_law_move" f__law_move (.cons (.bin .add (.bin .mul (.var 2) (.var 6)) (.bin .mul (.var 3) (.var 8))) (.cons (.bin .add (.bin .mul (.var 2) (.var 7)) (.bin .mul (.var 3) (.var 9))) (.cons (.bin .add (.bin .mul (.var 4) (.var 6)) (.bin .mul (.var 5) (.var 8))) (.cons (.bin .add (.bin .mul (.var 4) (.var 7)) (.bin .mul (.var 5) (.var 9))) .nil)))))) .nil)))
def f__law_after : Fn := fnOf 2 10 b__law_after
def r__law_after : List Req := [.fn "_law_move" f__law_move]
theorem q__law_after : rqSs b__law_after = [0].map fun i => r__law_after.getD i (.non "") := rfl
def n__law_back : List Str := ["_law_m"]
def b__law_back : Sms := (.cons (.ret (.call "_law_move" f__law_move (.cons (.ix (.var 0) (.cst (.int 3))) (.cons (.bin .sub (.cst (.int 0)) (.ix (.var 0) (.cst (.int 1)))) (.cons (.bin .sub (.cst (.int 0)) (.ix (.var 0) (.cst (.int 2)))) (.cons (.ix (.var 0) (.cst (.int 0))) .nil)))))) .nil)
def f__law_back : Fn := fnOf 1 1 b__law_back
def r__law_back : List Req := [.fn "_law_move" f__law_move]
theorem q__law_back : rqSs b__law_back = [0].map fun i => r__law_back.getD i (.non "") := rfl
def n__law_draw_prime : List Str := ["_law_source"]
def b__law_draw_prime : Sms := (.cons (.ret (.ix (.lst (.cons (.cst (.int 2)) (.cons (.cst (.int 3)) (.cons (.cst (.int 2)) (.cons (.cst (.int 5)) (.cons (.cst (.int 7)) .nil)))))) (.call "_law_pick" f__law_pick (.cons (.var 0) (.cons (.cst (.int 5)) .nil))))) .nil)
def f__law_draw_prime : Fn := fnOf 1 1 b__law_draw_prime
def r__law_draw_prime : List Req := [.fn "_law_pick" f__law_pick]
theorem q__law_draw_prime : rqSs b__law_draw_prime = [0].map fun i => r__law_draw_prime.getD i (.non "") := rfl
def n__law_draw_move : List Str := ["_law_source", "_law_p", "_law_way", "_law_n", "_law_found", "_law_pushed", "_law_some", "_law_is_one", "_law_lap"]
def b__law_draw_move_3 : Sms := (.cons (.ret (.var 4)) .nil)
def b__law_draw_move_2a_1 : Sms := (.cons (.set 4 false (.call "_law_after" f__law_after (.cons (.var 5) (.cons (.call "_law_after" f__law_after (.cons (.var 4) (.cons (.call "_law_back" f__law_back (.cons (.var 5) .nil)) .nil))) .nil)))) .nil)
def b__law_draw_move_2a : Sms := (.cons (.set 5 false (.call "_law_move" f__law_move (.cons (.call "_law_raised" f__law_raised (.cons (.var 1) (.cons (.call "_law_pick" f__law_pick (.cons (.var 0) (.cons (.cst (.int 2)) .nil))) .nil))) (.cons (.bin .sub (.call "_law_pick" f__law_pick (.cons (.var 0) (.cons (.cst (.int 5)) .nil))) (.cst (.int 2))) (.cons (.cst (.int 0)) (.cons (.cst (.int 1)) .nil)))))) b__law_draw_move_2a_1)
def b__law_draw_move_2 : Sms := (.cons (.ite (.cmp .eq (.call "_law_pick" f__law_pick (.cons (.var 0) (.cons (.cst (.int 3)) .nil))) (.cst (.int 0))) b__law_draw_move_2a .nil) b__law_draw_move_3)
def b__law_draw_move_1a : Sms := (.cons (.set 4 false (.call "_law_move" f__law_move (.cons (.cst (.int 1)) (.cons (.bin .mul (.var 3) (.ix (.lst (.cons (.cst (.int 1)) (.cons (.var 1) .nil))) (.call "_law_pick" f__law_pick (.cons (.var 0) (.cons (.cst (.int 2)) .nil))))) (.cons (.cst (.int 0)) (.cons (.ix (.lst (.cons (.cst (.int 1)) (.cons (.var 1) (.cons (.bin .mul (.var 1) (.var 1)) .nil)))) (.call "_law_pick" f__law_pick (.cons (.var 0) (.cons (.cst (.int 3)) .nil)))) .nil)))))) .nil)
def b__law_draw_move_1b_0a : Sms := (.cons (.set 4 false (.call "_law_move" f__law_move (.cons (.call "_law_raised" f__law_raised (.cons (.var 1) (.cons (.call "_law_pick" f__law_pick (.cons (.var 0) (.cons (.cst (.int 3)) .nil))) .nil))) (.cons (.cst (.int 0)) (.cons (.cst (.int 0)) (.cons (.ix (.lst (.cons (.cst (.int 1)) (.cons (.cst (.int 2)) (.cons (.cst (.int 3)) (.cons (.bin .sub (.cst (.int 0)) (.cst (.int 1))) .nil))))) (.call "_law_pick" f__law_pick (.cons (.var 0) (.cons (.cst (.int 4)) .nil)))) .nil)))))) .nil)
def b__law_draw_move_1b_0b_0a : Sms := (.cons (.set 4 false (.call "_law_move" f__law_move (.cons (.cst (.int 0)) (.cons (.ix (.lst (.cons (.cst (.int 1)) (.cons (.var 1) (.cons (.bin .sub (.cst (.int 0)) (.cst (.int 1))) (.cons (.bin .sub (.cst (.int 0)) (.var 1)) .nil))))) (.call "_law_pick" f__law_pick (.cons (.var 0) (.cons (.cst (.int 4)) .nil)))) (.cons (.cst (.int 1)) (.cons (.var 3) .nil)))))) .nil)
def b__law_draw_move_1b_0b_0b_2 : Sms := (.cons (.set 4 false (.ite (.var 7) (.call "_law_move" f__law_move (.cons (.cst (.int 1)) (.cons (.var 3) (.cons (.cst (.int 0)) (.cons (.cst (.int 1)) .nil))))) (.call "_law_move" f__law_move (.cons (.ix (.var 6) (.cst (.int 0))) (.cons (.ix (.var 6) (.cst (.int 1))) (.cons (.ix (.var 6) (.cst (.int 2))) (.cons (.ix (.var 6) (.cst (.int 3))) .nil))))))) .nil)
def b__law_draw_move_1b_0b_0b_1 : Sms := (.cons (.set 7 false (.cmp .eq (.bin .mul (.ix (.var 6) (.cst (.int 0))) (.ix (.var 6) (.cst (.int 3)))) (.bin .mul (.ix (.var 6) (.cst (.int 1))) (.ix (.var 6) (.cst (.int 2)))))) b__law_draw_move_1b_0b_0b_2)
def b__law_draw_move_1b_0b_0b : Sms := (.cons (.set 6 false (.comp (.bin .sub (.call "_law_pick" f__law_pick (.cons (.var 0) (.cons (.cst (.int 9)) .nil))) (.cst (.int 4))) [("_law_lap", 8)] (.nm 8) (.rng1 (.cst (.int 4))) .non)) b__law_draw_move_1b_0b_0b_1)
def b__law_draw_move_1b_0b : Sms := (.cons (.ite (.cmp .eq (.var 2) (.cst (.int 2))) b__law_draw_move_1b_0b_0a b__law_draw_move_1b_0b_0b) .nil)
def b__law_draw_move_1b : Sms := (.cons (.ite (.cmp .eq (.var 2) (.cst (.int 1))) b__law_draw_move_1b_0a b__law_draw_move_1b_0b) .nil)
def b__law_draw_move_1 : Sms := (.cons (.ite (.cmp .eq (.var 2) (.cst (.int 0))) b__law_draw_move_1a b__law_draw_move_1b) b__law_draw_move_2)
def b__law_draw_move : Sms := (.cons (.par [2, 3] (.cons (.call "_law_pick" f__law_pick (.cons (.var 0) (.cons (.cst (.int 6)) .nil))) (.cons (.bin .sub (.call "_law_pick" f__law_pick (.cons (.var 0) (.cons (.cst (.int 9)) .nil))) (.cst (.int 4))) .nil))) b__law_draw_move_1)
def f__law_draw_move : Fn := fnOf 2 9 b__law_draw_move
def r__law_draw_move : List Req := [.fn "_law_pick" f__law_pick, .fn "_law_move" f__law_move, .fn "_law_raised" f__law_raised, .non "range", .fn "_law_after" f__law_after, .fn "_law_back" f__law_back]
theorem q__law_draw_move : rqSs b__law_draw_move = [0, 0, 1, 0, 0, 1, 2, 0, 0, 1, 0, 3, 0, 1, 1, 0, 1, 2, 0, 0, 4, 4, 5].map fun i => r__law_draw_move.getD i (.non "") := rfl

@[ext] structure M4 where
  a : Int
  b : Int
  c : Int
  d : Int
  deriving DecidableEq
def eM (m : M4) : MP.D := .tuple [.int m.a, .int m.b, .int m.c, .int m.d]
def det4 (m : M4) : Int := m.a * m.d - m.b * m.c
def gcd4 (m : M4) : Nat := Nat.gcd (Int.gcd m.a m.b) (Int.gcd m.c m.d)
def fst4 (m : M4) : Int := if m.a ≠ 0 then m.a else if m.b ≠ 0 then m.b else if m.c ≠ 0 then m.c else m.d
def scl (t : Int) (m : M4) : M4 := ⟨t * m.a, t * m.b, t * m.c, t * m.d⟩
def sc4 (m : M4) : Int := (gcd4 m : Nat) * sgn1 (fst4 m)
def nm (m : M4) : M4 := ⟨m.a.fdiv (sc4 m), m.b.fdiv (sc4 m), m.c.fdiv (sc4 m), m.d.fdiv (sc4 m)⟩
def Non0 (m : M4) : Prop := m.a ≠ 0 ∨ m.b ≠ 0 ∨ m.c ≠ 0 ∨ m.d ≠ 0
def BdM (k : Nat) (m : M4) : Prop := Bd k m.a ∧ Bd k m.b ∧ Bd k m.c ∧ Bd k m.d
def NFM (m : M4) : Prop := gcd4 m = 1 ∧ 0 < fst4 m
theorem det_non0 {m : M4} (h : det4 m ≠ 0) : Non0 m := by
  by_cases ha : m.a = 0
  · by_cases hb : m.b = 0
    · exfalso
      apply h
      unfold det4
      rw [ha, hb]
      omega
    · exact .inr (.inl hb)
  · exact .inl ha
theorem gcd4_pos {m : M4} (h : Non0 m) : 0 < gcd4 m := by
  unfold gcd4
  rcases h with h | h | h | h
  · exact Nat.gcd_pos_of_pos_left _ (Int.gcd_pos_of_ne_zero_left _ h)
  · exact Nat.gcd_pos_of_pos_left _ (Int.gcd_pos_of_ne_zero_right _ h)
  · exact Nat.gcd_pos_of_pos_right _ (Int.gcd_pos_of_ne_zero_left _ h)
  · exact Nat.gcd_pos_of_pos_right _ (Int.gcd_pos_of_ne_zero_right _ h)
theorem fst4_ne {m : M4} (h : Non0 m) : fst4 m ≠ 0 := by
  unfold fst4
  by_cases ha : m.a = 0
  · by_cases hb : m.b = 0
    · by_cases hc : m.c = 0
      · have hd : m.d ≠ 0 := by rcases h with h | h | h | h <;> first | exact absurd ‹_› h | exact h
        simp [ha, hb, hc, hd]
      · simp [ha, hb, hc]
    · simp [ha, hb]
  · simp [ha]
theorem sc4_ne {m : M4} (h : Non0 m) : sc4 m ≠ 0 := by
  have := gcd4_pos h
  unfold sc4
  rcases sgn1_cases (fst4 m) with e | e <;> rw [e] <;> omega
theorem gcd4_dvd (m : M4) : (gcd4 m : Int) ∣ m.a ∧ (gcd4 m : Int) ∣ m.b ∧ (gcd4 m : Int) ∣ m.c ∧ (gcd4 m : Int) ∣ m.d := by
  have l : (gcd4 m : Int) ∣ (Int.gcd m.a m.b : Nat) := Int.natCast_dvd_natCast.mpr (Nat.gcd_dvd_left ..)
  have r : (gcd4 m : Int) ∣ (Int.gcd m.c m.d : Nat) := Int.natCast_dvd_natCast.mpr (Nat.gcd_dvd_right ..)
  exact ⟨Int.dvd_trans l (Int.gcd_dvd_left ..), Int.dvd_trans l (Int.gcd_dvd_right ..), Int.dvd_trans r (Int.gcd_dvd_left ..), Int.dvd_trans r (Int.gcd_dvd_right ..)⟩
theorem nm_mul {m : M4} (h : Non0 m) : scl (sc4 m) (nm m) = m := by
  obtain ⟨h1, h2, h3, h4⟩ := gcd4_dvd m
  have h0 := sc4_ne h
  have one : ∀ x : Int, (gcd4 m : Int) ∣ x → sc4 m * x.fdiv (sc4 m) = x := by
    intro x hx
    have hs : sc4 m ∣ x := by
      unfold sc4
      rcases sgn1_cases (fst4 m) with e | e <;> rw [e]
      · rw [Int.mul_one]
        exact hx
      · rw [Int.mul_neg, Int.mul_one, Int.neg_dvd]
        exact hx
    obtain ⟨y, rfl⟩ := hs
    rw [Int.mul_fdiv_cancel_left _ h0]
  exact M4.ext (one _ h1) (one _ h2) (one _ h3) (one _ h4)
theorem det_scl (t : Int) (m : M4) : det4 (scl t m) = t * t * det4 m := by
  simp only [det4, scl, Int.mul_sub]
  congr 1 <;> ac_rfl
theorem det_nm {m : M4} (h : det4 m ≠ 0) : det4 (nm m) ≠ 0 := by
  intro z
  apply h
  have e := det_scl (sc4 m) (nm m)
  rw [nm_mul (det_non0 h), z, Int.mul_zero] at e
  exact e
theorem gcd4_scl (t : Int) (m : M4) : gcd4 (scl t m) = t.natAbs * gcd4 m := by
  unfold gcd4 scl
  rw [Int.gcd_mul_left, Int.gcd_mul_left, Nat.gcd_mul_left]
theorem fst4_scl {t : Int} (ht : t ≠ 0) (m : M4) : fst4 (scl t m) = t * fst4 m := by
  unfold fst4 scl
  by_cases ha : m.a = 0
  · by_cases hb : m.b = 0
    · by_cases hc : m.c = 0
      · simp [ha, hb, hc]
      · simp [ha, hb, hc, ht]
    · simp [ha, hb, ht]
  · simp [ha, ht]
theorem nm_nf {m : M4} (h : Non0 m) : NFM (nm m) := by
  have h0 := sc4_ne h
  have hg := gcd4_pos h
  have e1 := gcd4_scl (sc4 m) (nm m)
  have e2 := fst4_scl h0 (nm m)
  rw [nm_mul h] at e1 e2
  have ea : (sc4 m).natAbs = gcd4 m := by
    unfold sc4
    rcases sgn1_cases (fst4 m) with e | e <;> rw [e] <;> simp
  rw [ea] at e1
  refine ⟨Nat.eq_of_mul_eq_mul_left hg (by omega), ?_⟩
  have hf := fst4_ne h
  by_cases hp : 0 < fst4 m
  · have e : sc4 m = gcd4 m := by
      unfold sc4
      rw [show sgn1 (fst4 m) = 1 from if_pos hp, Int.mul_one]
    rw [e] at e2
    exact pos_of_mul (a := (gcd4 m : Int)) (by omega) (by omega)
  · have e : sc4 m = -(gcd4 m : Int) := by
      unfold sc4
      rw [show sgn1 (fst4 m) = -1 from if_neg hp, Int.mul_neg, Int.mul_one]
    rw [e, Int.neg_mul] at e2
    exact pos_of_mul (a := (gcd4 m : Int)) (by omega) (by omega)
theorem nm_bd {k : Nat} {m : M4} (h : BdM k m) : BdM k (nm m) := ⟨fdiv_bd h.1, fdiv_bd h.2.1, fdiv_bd h.2.2.1, fdiv_bd h.2.2.2⟩
theorem gcd_bdl {l : Nat} {n d : Int} (hn : Bd l n) (hd : Bd l d) : Bd l (Int.gcd n d : Nat) := by
  by_cases h : d = 0
  · subst h
    unfold Bd at *
    rw [Int.gcd_zero_right]
    exact hn
  · exact gcd_bd h hd
theorem law_move_ok {k : Nat} (m : M4) (st : Store) (hb : BdM k m) (h0 : Non0 m) (hk : k ≤ 8000) : f__law_move [.dat (.int m.a), .dat (.int m.b), .dat (.int m.c), .dat (.int m.d)] st = .ok ⟨false, .dat (eM (nm m))⟩ st := by
  obtain ⟨h1, h2, h3, h4⟩ := hb
  have c1 := common_ok m.a m.b st h1 h2 (by omega)
  have c2 := common_ok m.c m.d st h3 h4 (by omega)
  have g1 := gcd_bdl h1 h2
  have g2 := gcd_bdl h3 h4
  have c3 : f__law_common [.dat (.int (Int.gcd m.a m.b : Nat)), .dat (.int (Int.gcd m.c m.d : Nat))] st = .ok ⟨false, .dat (.int (gcd4 m : Nat))⟩ st := common_ok (Int.gcd m.a m.b : Nat) (Int.gcd m.c m.d : Nat) st g1 g2 (by omega)
  have g3 : Bd k (gcd4 m : Nat) := by
    have := gcd_bdl g1 g2
    exact this
  have gs : Bd (k + 1) (sc4 m) := g3.mul (l := 1) (by rcases sgn1_cases (fst4 m) with e | e <;> rw [e] <;> unfold Bd <;> decide)
  have s0 := sc4_ne h0
  have hf := fst4_ne h0
  have q := fun i => bin_fdiv (i := i) gs s0 (by omega)
  have ef : evE (.comp (.var 6) [("_law_x", 6)] (.nm 6) (.seq (.tup (.cons (.var 0) (.cons (.var 1) (.cons (.var 2) (.cons (.var 3) .nil)))))) (.som (.cmp .ne (.var 6) (.cst (.int 0))))) true [.val (.dat (.int m.a)), .val (.dat (.int m.b)), .val (.dat (.int m.c)), .val (.dat (.int m.d)), .val (.dat (.int (gcd4 m : Nat))), .un, .un] st =
      .ok ⟨true, .dat (.list ([PyData.int m.a, .int m.b, .int m.c, .int m.d].filterMap fun d => match d with | .int n => if n = 0 then none else some (.int n) | d => some d))⟩ st := by
    refine comp_of rfl ?_
    rw [compL_opt (fun d => match d with | .int n => if n = 0 then none else some (.int n) | d => some d) (fun d hd => ?_) (by simp [sizeLine])]
    · rfl
    · simp at hd
      rcases hd with rfl | rfl | rfl | rfl <;> simp [compF, bindTg, wipeE, evC, evE] <;> split <;> simp_all
  have ei : ixD ([PyData.int m.a, .int m.b, .int m.c, .int m.d].filterMap fun d => match d with | .int n => if n = 0 then none else some (.int n) | d => some d) 0 = some (.int (fst4 m)) := by
    unfold fst4
    by_cases ha : m.a = 0
    · by_cases hb : m.b = 0
      · by_cases hc : m.c = 0
        · have hd : m.d ≠ 0 := by rcases h0 with h | h | h | h <;> first | exact absurd ‹_› h | exact h
          simp [ha, hb, hc, hd, ixD, L2.atI, L2.ixN]
        · by_cases hd : m.d = 0 <;> simp [ha, hb, hc, hd, ixD, L2.atI, L2.ixN]
      · by_cases hc : m.c = 0 <;> by_cases hd : m.d = 0 <;> simp [ha, hb, hc, hd, ixD, L2.atI, L2.ixN] <;> omega
    · by_cases hb : m.b = 0 <;> by_cases hc : m.c = 0 <;> by_cases hd : m.d = 0 <;> simp [ha, hb, hc, hd, ixD, L2.atI, L2.ixN] <;> omega
  refine fn_ret rfl (seq_of (set_of (x := ⟨false, .dat (.int (gcd4 m : Nat))⟩) (st1 := st) ?_) (seq_of (set_of (x := ⟨false, .dat (.int (fst4 m))⟩) (st1 := st) ?_) (seq_of (set_of (x := ⟨false, .dat (.int (sc4 m))⟩) (st1 := st) ?_) (seq_end (ret_of ?_)))))
  · exact call_of (vs := [.dat (.int (Int.gcd m.a m.b : Nat)), .dat (.int (Int.gcd m.c m.d : Nat))]) (by simp [evE, evV, c1, c2]) c3
  · show ((evE (.comp (.var 6) [("_law_x", 6)] (.nm 6) (.seq (.tup (.cons (.var 0) (.cons (.var 1) (.cons (.var 2) (.cons (.var 3) .nil)))))) (.som (.cmp .ne (.var 6) (.cst (.int 0))))) true [.val (.dat (.int m.a)), .val (.dat (.int m.b)), .val (.dat (.int m.c)), .val (.dat (.int m.d)), .val (.dat (.int (gcd4 m : Nat))), .un, .un] st).bind fun x st => (evE (.cst (.int 0)) true _ st).bind fun y st => ixV x y st) = _
    rw [ef]
    simp [evE, ixV, ei]
  · unfold sc4 sgn1
    by_cases hp : 0 < fst4 m <;> simp [evE, hp]
  · simp [evE, evA, q, eM, nm]
local macro_rules | `(tactic| simp! [$ls,*]) => `(tactic| simp only [$ls,*, ev_var, ev_cst, ev_glob, ev_neg, ev_not, ev_bin, ev_cmp, ev_chain, ev_and, ev_or, ev_ite, ev_tup, ev_lst, ev_ix, ev_slice, ev_rev, ev_call, ev_blt, ev_isi, ev_comp, ev_compF, evA_n, evA_c, evA_s, evV_n, evV_c, evP_n, evP_c, evO_n, evO_s, evC_n, evC_s, evI_s, evI_1, evI_2, es_pass, es_exp, es_set, es_setO, es_setT, es_par, es_parO, ownOf_t, evR_n, evR_f, evR_t, pS_n, pS_c, es_ite, es_whil, es_for, es_brk, es_cnt, es_frz, ess_n, ess_c, er_var, er_cst, er_glob, er_neg, er_not, er_bin, er_cmp, er_chain, er_and, er_or, er_ite, er_tup, er_lst, er_ix, er_slice, er_rev, er_call, er_blt, er_isi, er_comp, appR_o, augR_a, augR_s, frzR_o, varR_v, varR_o, retR_o, retR_v, ixR_s, ix_l, ix_t, bT_ok, sT_ok, qT_nx, qT_rt, qT_br, qT_ct, Cb_t, Cb_f, oT_s, tT_nx, tT_ct, tT_br, tT_rt, turn_nx, turn_ct, turn_br, turn_rt, datOf_dat, intOf_int, boolOf_bool, plain_eq, fresh_eq, ofBD_some, ofB_some, rOpt_some, seqOf_l, seqOf_t, lit_int, lit_str, lit_bool, lit_none, wp_ok, wp_bind, wps_sr, wps_seq, wps_nx, wps_rt, wps_br, wps_ct, List.getElem?_cons_zero, List.getElem?_cons_succ, List.set_cons_zero, List.set_cons_succ, List.map_cons, List.map_nil, Nat.reduceSub, List.replicate_succ, List.replicate_zero, List.cons_append, List.nil_append, List.append_nil, putVals, bt_nm, bt_t, bt_l, btT_s, bts_n, bts_c, wipeE, bin_int_add, bin_int_sub, cmp_int_eq, cmp_int_ne, cmp_int_lt, cmp_int_le, cmp_int_gt, cmp_int_ge, ix_0, ix_1, ix_2, ix_3, ix_4, ix_5, ix_6, ix_7, ix_m1, blt_absI, blt_intI, blt_tupL, blt_tupT, blt_lstL, blt_lstT, blt_lenL, blt_lenT, blt_lenLm, blt_lenTm, isi_n, isi_b, isi_i, isi_s, isi_l, isi_t, fits_0, fits_1, fits_2, fits_3, fits_4, fits_5, fits_6, fits_7, fits_8, fits_9, fits_10, fits_11, fits_12, fits_13, fits_14, fits_15, fits_16, fitsS_0, fitsS_1, fitsS_2, fitsS_3, fitsS_4, List.length_cons, List.length_nil, Nat.zero_add, Nat.reduceAdd, Bool.not_true, Bool.not_false, decide_true, decide_false, Int.reduceNeg, Int.reduceSub, Int.reduceAdd, Int.reduceLT, Int.reduceLE, Int.reduceEq, Int.reduceMul])
local macro_rules | `(tactic| simp!) => `(tactic| simp only [ev_var, ev_cst, ev_glob, ev_neg, ev_not, ev_bin, ev_cmp, ev_chain, ev_and, ev_or, ev_ite, ev_tup, ev_lst, ev_ix, ev_slice, ev_rev, ev_call, ev_blt, ev_isi, ev_comp, ev_compF, evA_n, evA_c, evA_s, evV_n, evV_c, evP_n, evP_c, evO_n, evO_s, evC_n, evC_s, evI_s, evI_1, evI_2, es_pass, es_exp, es_set, es_setO, es_setT, es_par, es_parO, ownOf_t, evR_n, evR_f, evR_t, pS_n, pS_c, es_ite, es_whil, es_for, es_brk, es_cnt, es_frz, ess_n, ess_c, er_var, er_cst, er_glob, er_neg, er_not, er_bin, er_cmp, er_chain, er_and, er_or, er_ite, er_tup, er_lst, er_ix, er_slice, er_rev, er_call, er_blt, er_isi, er_comp, appR_o, augR_a, augR_s, frzR_o, varR_v, varR_o, retR_o, retR_v, ixR_s, ix_l, ix_t, bT_ok, sT_ok, qT_nx, qT_rt, qT_br, qT_ct, Cb_t, Cb_f, oT_s, tT_nx, tT_ct, tT_br, tT_rt, turn_nx, turn_ct, turn_br, turn_rt, datOf_dat, intOf_int, boolOf_bool, plain_eq, fresh_eq, ofBD_some, ofB_some, rOpt_some, seqOf_l, seqOf_t, lit_int, lit_str, lit_bool, lit_none, wp_ok, wp_bind, wps_sr, wps_seq, wps_nx, wps_rt, wps_br, wps_ct, List.getElem?_cons_zero, List.getElem?_cons_succ, List.set_cons_zero, List.set_cons_succ, List.map_cons, List.map_nil, Nat.reduceSub, List.replicate_succ, List.replicate_zero, List.cons_append, List.nil_append, List.append_nil, putVals, bt_nm, bt_t, bt_l, btT_s, bts_n, bts_c, wipeE, bin_int_add, bin_int_sub, cmp_int_eq, cmp_int_ne, cmp_int_lt, cmp_int_le, cmp_int_gt, cmp_int_ge, ix_0, ix_1, ix_2, ix_3, ix_4, ix_5, ix_6, ix_7, ix_m1, blt_absI, blt_intI, blt_tupL, blt_tupT, blt_lstL, blt_lstT, blt_lenL, blt_lenT, blt_lenLm, blt_lenTm, isi_n, isi_b, isi_i, isi_s, isi_l, isi_t, fits_0, fits_1, fits_2, fits_3, fits_4, fits_5, fits_6, fits_7, fits_8, fits_9, fits_10, fits_11, fits_12, fits_13, fits_14, fits_15, fits_16, fitsS_0, fitsS_1, fitsS_2, fitsS_3, fitsS_4, List.length_cons, List.length_nil, Nat.zero_add, Nat.reduceAdd, Bool.not_true, Bool.not_false, decide_true, decide_false, Int.reduceNeg, Int.reduceSub, Int.reduceAdd, Int.reduceLT, Int.reduceLE, Int.reduceEq, Int.reduceMul])
def mulM (m n : M4) : M4 := ⟨m.a * n.a + m.b * n.c, m.a * n.b + m.b * n.d, m.c * n.a + m.d * n.c, m.c * n.b + m.d * n.d⟩
def adj (m : M4) : M4 := ⟨m.d, -m.b, -m.c, m.a⟩
def aft (m n : M4) : M4 := nm (mulM m n)
def bk (m : M4) : M4 := nm (adj m)
theorem det_mul (m n : M4) : det4 (mulM m n) = det4 m * det4 n := by
  simp only [det4, mulM]
  grind
theorem det_adj (m : M4) : det4 (adj m) = det4 m := by
  simp only [det4, adj]
  grind
theorem mul_bd {k l : Nat} {m n : M4} (h : BdM k m) (q : BdM l n) : BdM (k + l + 1) (mulM m n) := by
  obtain ⟨a1, a2, a3, a4⟩ := h
  obtain ⟨b1, b2, b3, b4⟩ := q
  exact ⟨(a1.mul b1).add' (a2.mul b3), (a1.mul b2).add' (a2.mul b4), (a3.mul b1).add' (a4.mul b3), (a3.mul b2).add' (a4.mul b4)⟩
theorem adj_bd {k : Nat} {m : M4} (h : BdM k m) : BdM k (adj m) := ⟨h.2.2.2, h.2.1.neg, h.2.2.1.neg, h.1⟩
theorem BdM.up {k l : Nat} {m : M4} (h : BdM k m) (hl : k ≤ l) : BdM l m := ⟨h.1.up hl, h.2.1.up hl, h.2.2.1.up hl, h.2.2.2.up hl⟩
theorem law_after_ok {k l : Nat} (m n : M4) (st : Store) (hm : BdM k m) (hn : BdM l n) (dm : det4 m ≠ 0) (dn : det4 n ≠ 0) (hk : k + l + 1 ≤ 8000) : f__law_after [.dat (eM m), .dat (eM n)] st = .ok ⟨false, .dat (eM (aft m n))⟩ st := by
  obtain ⟨a1, a2, a3, a4⟩ := hm
  obtain ⟨b1, b2, b3, b4⟩ := hn
  have h := law_move_ok (mulM m n) st (mul_bd ⟨a1, a2, a3, a4⟩ ⟨b1, b2, b3, b4⟩) (det_non0 (by rw [det_mul]; exact Int.mul_ne_zero dm dn)) hk
  have w : ∀ {i j : Int}, Bd k i → Bd l j → bin .mul (.int i) (.int j) = some (false, .int (i * j)) := fun hi hj => bin_mul hi hj (by omega)
  refine fn_eq rfl ?_
  simp only [eM] at h ⊢
  simp! [b__law_after, w a1 b1, w a1 b2, w a2 b3, w a2 b4, w a3 b1, w a3 b2, w a4 b3, w a4 b4]
  simp only [mulM] at h
  rw [h]
  rfl
theorem law_back_ok {k : Nat} (m : M4) (st : Store) (hm : BdM k m) (dm : det4 m ≠ 0) (hk : k ≤ 8000) : f__law_back [.dat (eM m)] st = .ok ⟨false, .dat (eM (bk m))⟩ st := by
  have h := law_move_ok (adj m) st (adj_bd hm) (det_non0 (by rw [det_adj]; exact dm)) hk
  refine fn_eq rfl ?_
  simp only [eM] at h ⊢
  simp! [b__law_back]
  simp only [adj] at h
  simp only [Int.zero_sub]
  rw [h]
  rfl

def P4 (p : Int) : Prop := p = 2 ∨ p = 3 ∨ p = 5 ∨ p = 7
theorem P4.bd {p : Int} (h : P4 p) : Bd 3 p := by
  rcases h with rfl | rfl | rfl | rfl <;> (unfold Bd; decide)
theorem wp_prime {st : Store} {Q : RV → Store → Prop} (h : IsSrc st) (k : ∀ p st', IsSrc st' → P4 p → Q ⟨false, .dat (.int p)⟩ st') : Wp (f__law_draw_prime [.loc 1] st) Q := by
  refine wp_fn rfl ?_
  simp! [b__law_draw_prime]
  refine wp_pick h (by decide) (by decide) fun x st' h' x0 x1 => ?_
  rcases c5 x0 x1 with rfl | rfl | rfl | rfl | rfl <;> simp! <;> exact k _ _ h' (by unfold P4; decide)
/-- a move in its form, of numbers below 2 ^ k -/
structure GM (k : Nat) (m : M4) : Prop where
  b : BdM k m
  d : det4 m ≠ 0
  f : NFM m
theorem GM.up {k l : Nat} {m : M4} (h : GM k m) (hl : k ≤ l) : GM l m := ⟨h.b.up hl, h.d, h.f⟩
theorem nm_gm {k : Nat} {m : M4} (hb : BdM k m) (h : det4 m ≠ 0) : GM k (nm m) := ⟨nm_bd hb, det_nm h, nm_nf (det_non0 h)⟩
theorem GM.aft {k l : Nat} {m n : M4} (h : GM k m) (q : GM l n) : GM (k + l + 1) (aft m n) := nm_gm (mul_bd h.b q.b) (by rw [det_mul]; exact Int.mul_ne_zero h.d q.d)
theorem GM.bk {k : Nat} {m : M4} (h : GM k m) : GM k (bk m) := nm_gm (adj_bd h.b) (by rw [det_adj]; exact h.d)
theorem bd_of {k : Nat} {i : Int} (h : i.natAbs < 2 ^ k) : Bd k i := h
theorem mv_ok {k : Nat} (a b c d : Int) (st : Store) (hb : BdM k ⟨a, b, c, d⟩) (h0 : a * d - b * c ≠ 0) (hk : k ≤ 8000) : f__law_move [.dat (.int a), .dat (.int b), .dat (.int c), .dat (.int d)] st = .ok ⟨false, .dat (eM (nm ⟨a, b, c, d⟩))⟩ st := law_move_ok ⟨a, b, c, d⟩ st hb (det_non0 h0) hk
theorem wp_mv {k : Nat} {a b c d : Int} {st : Store} {Q : RV → Store → Prop} (hb : BdM k ⟨a, b, c, d⟩) (h0 : a * d - b * c ≠ 0) (hk : k ≤ 8000) (q : ∀ m, GM k m → Q ⟨false, .dat (eM m)⟩ st) : Wp (f__law_move [.dat (.int a), .dat (.int b), .dat (.int c), .dat (.int d)] st) Q := by
  rw [mv_ok a b c d st hb h0 hk]
  exact ⟨q _ (nm_gm hb h0)⟩
theorem wp_raised {p n : Int} {st : Store} {Q : RV → Store → Prop} (hp : P4 p) (h0 : 0 ≤ n) (h1 : n ≤ 1000) (q : Q ⟨false, .dat (.int (p ^ n.toNat))⟩ st) : Wp (f__law_raised [.dat (.int p), .dat (.int n)] st) Q := by
  rw [raised_ok (k := 3) p n st hp.bd (by omega) (by omega) (by omega)]
  exact ⟨q⟩
theorem bm_s {i j : Int} (h : i.natAbs < 2 ^ 64) : bin .mul (.int i) (.int j) = some (false, .int (i * j)) := by
  show (bif mulOk i j then some (false, PyData.int (i * j)) else none) = _
  have e : mulOk i j = true := by
    unfold mulOk
    rw [decide_eq_true h]
    rfl
  rw [e]
  rfl
theorem eM_i0 {f g : Bool} {m : M4} {st : Store} : ixV ⟨f, .dat (eM m)⟩ ⟨g, .dat (.int 0)⟩ st = .ok ⟨false, .dat (.int m.a)⟩ st := Eq.trans rfl rfl
theorem eM_i1 {f g : Bool} {m : M4} {st : Store} : ixV ⟨f, .dat (eM m)⟩ ⟨g, .dat (.int 1)⟩ st = .ok ⟨false, .dat (.int m.b)⟩ st := Eq.trans rfl rfl
theorem eM_i2 {f g : Bool} {m : M4} {st : Store} : ixV ⟨f, .dat (eM m)⟩ ⟨g, .dat (.int 2)⟩ st = .ok ⟨false, .dat (.int m.c)⟩ st := Eq.trans rfl rfl
theorem eM_i3 {f g : Bool} {m : M4} {st : Store} : ixV ⟨f, .dat (eM m)⟩ ⟨g, .dat (.int 3)⟩ st = .ok ⟨false, .dat (.int m.d)⟩ st := Eq.trans rfl rfl
theorem eM_bt {ts : Tgs} {m : M4} {env : MP.Env} : bindTg (.tup ts) (eM m) env = bindTgs ts [.int m.a, .int m.b, .int m.c, .int m.d] env := Eq.trans rfl rfl
theorem eM_inj {m n : M4} : eM m = eM n ↔ m = n := by
  obtain ⟨a, b, c, d⟩ := m
  obtain ⟨e, f, g, h⟩ := n
  simp [eM]
theorem eM_fl (m : M4) : Fl 1 (eM m) := .tup (.cons (.int _) (.cons (.int _) (.cons (.int _) (.cons (.int _) .nil))))
@[simp] theorem eq_eM (a b : M4) : cmpD .eq (eM a) (eM b) = some (decide (a = b)) := (eM_fl a).eq (eM_fl b) (by decide) (by decide) eM_inj
@[simp] theorem ne_eM (a b : M4) : cmpD .ne (eM a) (eM b) = some (!decide (a = b)) := (eM_fl a).ne (eM_fl b) (by decide) (by decide) eM_inj
theorem lM_fl (q : List M4) : Fl 2 (.list (q.map eM)) := .lst (.map fun a _ => eM_fl a)
theorem lM_inj {a b : List M4} : PyData.list (a.map eM) = .list (b.map eM) ↔ a = b := by
  rw [PyData.list.injEq]
  exact map_inj (fun _ _ => eM_inj) a b
@[simp] theorem eq_lM (a b : List M4) : cmpD .eq (.list (a.map eM)) (.list (b.map eM)) = some (decide (a = b)) := (lM_fl a).eq (lM_fl b) (by decide) (by decide) lM_inj
@[simp] theorem ne_lM (a b : List M4) : cmpD .ne (.list (a.map eM)) (.list (b.map eM)) = some (!decide (a = b)) := (lM_fl a).ne (lM_fl b) (by decide) (by decide) lM_inj
theorem eM_sz {b : Nat} {m : M4} (h : BdM b m) (hb : b ≤ 1900) : Sz 1 (4 * b + 19) (eM m) :=
  (Sz.tup (.cons (.int h.1 hb) (.cons (.int h.2.1 hb) (.cons (.int h.2.2.1 hb) (.cons (.int h.2.2.2 hb) (Szs.nil (k := 0) (w := 0))))))).up (by omega) (by omega)
end MK

namespace MK
open PySem MP
local macro_rules | `(tactic| simp! [$ls,*]) => `(tactic| simp only [$ls,*, ev_var, ev_cst, ev_glob, ev_neg, ev_not, ev_bin, ev_cmp, ev_chain, ev_and, ev_or, ev_ite, ev_tup, ev_lst, ev_ix, ev_slice, ev_rev, ev_call, ev_blt, ev_isi, ev_comp, ev_compF, evA_n, evA_c, evA_s, evV_n, evV_c, evP_n, evP_c, evO_n, evO_s, evC_n, evC_s, evI_s, evI_1, evI_2, es_pass, es_exp, es_set, es_setO, es_setT, es_par, es_parO, ownOf_t, evR_n, evR_f, evR_t, pS_n, pS_c, es_ite, es_whil, es_for, es_brk, es_cnt, es_frz, ess_n, ess_c, er_var, er_cst, er_glob, er_neg, er_not, er_bin, er_cmp, er_chain, er_and, er_or, er_ite, er_tup, er_lst, er_ix, er_slice, er_rev, er_call, er_blt, er_isi, er_comp, appR_o, augR_a, augR_s, frzR_o, varR_v, varR_o, retR_o, retR_v, ixR_s, ix_l, ix_t, bT_ok, sT_ok, qT_nx, qT_rt, qT_br, qT_ct, Cb_t, Cb_f, oT_s, tT_nx, tT_ct, tT_br, tT_rt, turn_nx, turn_ct, turn_br, turn_rt, datOf_dat, intOf_int, boolOf_bool, plain_eq, fresh_eq, ofBD_some, ofB_some, rOpt_some, seqOf_l, seqOf_t, lit_int, lit_str, lit_bool, lit_none, wp_ok, wp_bind, wps_sr, wps_seq, wps_nx, wps_rt, wps_br, wps_ct, List.getElem?_cons_zero, List.getElem?_cons_succ, List.set_cons_zero, List.set_cons_succ, List.map_cons, List.map_nil, Nat.reduceSub, List.replicate_succ, List.replicate_zero, List.cons_append, List.nil_append, List.append_nil, putVals, bt_nm, bt_t, bt_l, btT_s, bts_n, bts_c, wipeE, bin_int_add, bin_int_sub, cmp_int_eq, cmp_int_ne, cmp_int_lt, cmp_int_le, cmp_int_gt, cmp_int_ge, ix_0, ix_1, ix_2, ix_3, ix_4, ix_5, ix_6, ix_7, ix_m1, blt_absI, blt_intI, blt_tupL, blt_tupT, blt_lstL, blt_lstT, blt_lenL, blt_lenT, blt_lenLm, blt_lenTm, isi_n, isi_b, isi_i, isi_s, isi_l, isi_t, fits_0, fits_1, fits_2, fits_3, fits_4, fits_5, fits_6, fits_7, fits_8, fits_9, fits_10, fits_11, fits_12, fits_13, fits_14, fits_15, fits_16, fitsS_0, fitsS_1, fitsS_2, fitsS_3, fitsS_4, List.length_cons, List.length_nil, Nat.zero_add, Nat.reduceAdd, Bool.not_true, Bool.not_false, decide_true, decide_false, Int.reduceNeg, Int.reduceSub, Int.reduceAdd, Int.reduceLT, Int.reduceLE, Int.reduceEq, Int.reduceMul])
local macro_rules | `(tactic| simp!) => `(tactic| simp only [ev_var, ev_cst, ev_glob, ev_neg, ev_not, ev_bin, ev_cmp, ev_chain, ev_and, ev_or, ev_ite, ev_tup, ev_lst, ev_ix, ev_slice, ev_rev, ev_call, ev_blt, ev_isi, ev_comp, ev_compF, evA_n, evA_c, evA_s, evV_n, evV_c, evP_n, evP_c, evO_n, evO_s, evC_n, evC_s, evI_s, evI_1, evI_2, es_pass, es_exp, es_set, es_setO, es_setT, es_par, es_parO, ownOf_t, evR_n, evR_f, evR_t, pS_n, pS_c, es_ite, es_whil, es_for, es_brk, es_cnt, es_frz, ess_n, ess_c, er_var, er_cst, er_glob, er_neg, er_not, er_bin, er_cmp, er_chain, er_and, er_or, er_ite, er_tup, er_lst, er_ix, er_slice, er_rev, er_call, er_blt, er_isi, er_comp, appR_o, augR_a, augR_s, frzR_o, varR_v, varR_o, retR_o, retR_v, ixR_s, ix_l, ix_t, bT_ok, sT_ok, qT_nx, qT_rt, qT_br, qT_ct, Cb_t, Cb_f, oT_s, tT_nx, tT_ct, tT_br, tT_rt, turn_nx, turn_ct, turn_br, turn_rt, datOf_dat, intOf_int, boolOf_bool, plain_eq, fresh_eq, ofBD_some, ofB_some, rOpt_some, seqOf_l, seqOf_t, lit_int, lit_str, lit_bool, lit_none, wp_ok, wp_bind, wps_sr, wps_seq, wps_nx, wps_rt, wps_br, wps_ct, List.getElem?_cons_zero, List.getElem?_cons_succ, List.set_cons_zero, List.set_cons_succ, List.map_cons, List.map_nil, Nat.reduceSub, List.replicate_succ, List.replicate_zero, List.cons_append, List.nil_append, List.append_nil, putVals, bt_nm, bt_t, bt_l, btT_s, bts_n, bts_c, wipeE, bin_int_add, bin_int_sub, cmp_int_eq, cmp_int_ne, cmp_int_lt, cmp_int_le, cmp_int_gt, cmp_int_ge, ix_0, ix_1, ix_2, ix_3, ix_4, ix_5, ix_6, ix_7, ix_m1, blt_absI, blt_intI, blt_tupL, blt_tupT, blt_lstL, blt_lstT, blt_lenL, blt_lenT, blt_lenLm, blt_lenTm, isi_n, isi_b, isi_i, isi_s, isi_l, isi_t, fits_0, fits_1, fits_2, fits_3, fits_4, fits_5, fits_6, fits_7, fits_8, fits_9, fits_10, fits_11, fits_12, fits_13, fits_14, fits_15, fits_16, fitsS_0, fitsS_1, fitsS_2, fitsS_3, fitsS_4, List.length_cons, List.length_nil, Nat.zero_add, Nat.reduceAdd, Bool.not_true, Bool.not_false, decide_true, decide_false, Int.reduceNeg, Int.reduceSub, Int.reduceAdd, Int.reduceLT, Int.reduceLE, Int.reduceEq, Int.reduceMul])
theorem raised_cases {p : Int} (h : P4 p) (n : Nat) (hn : n ≤ 2) : Bd 6 (p ^ n) ∧ p ^ n ≠ 0 := by
  have : n = 0 ∨ n = 1 ∨ n = 2 := by omega
  rcases this with rfl | rfl | rfl <;> rcases h with rfl | rfl | rfl | rfl <;> (unfold Bd; decide)
theorem bd1 (k : Nat) : Bd (k + 1) 1 := by
  unfold Bd
  rw [Nat.pow_succ]
  have := Nat.two_pow_pos k
  omega
theorem bds {k : Nat} {i : Int} (h : i.natAbs < 2 ^ k) : Bd k i := h
theorem bdM {k : Nat} {a b c d : Int} (ha : Bd k a) (hb : Bd k b) (hc : Bd k c) (hd : Bd k d) : BdM k ⟨a, b, c, d⟩ := ⟨ha, hb, hc, hd⟩
theorem move_tail {s2 s3 s5 s6 s7 s8 : Slot} {p : Int} {m : M4} {st : Store} {Q : RV → Store → Prop} (h : IsSrc st) (hp : P4 p) (hm : GM 12 m) (k : ∀ m st', IsSrc st' → GM 32 m → Q ⟨false, .dat (eM m)⟩ st') :
    WpS (evSs b__law_draw_move_2 [.val (.loc 1), .val (.dat (.int p)), s2, s3, .val (.dat (eM m)), s5, s6, s7, s8] st) ⟨fun _ st => Q ⟨false, .dat .none⟩ st, Q, noO, noO⟩ := by
  simp! [b__law_draw_move_2]
  refine wp_pick h (by decide) (by decide) fun x st1 h1 x0 x1 => ?_
  simp!
  refine wps_if (fun hc => ?_) fun hc => ?_
  · simp! [b__law_draw_move_2a]
    refine wp_pick h1 (by decide) (by decide) fun y st2 h2 y0 y1 => ?_
    simp!
    refine wp_raised hp y0 (by omega) ?_
    simp!
    refine wp_pick h2 (by decide) (by decide) fun z st3 h3 z0 z1 => ?_
    simp!
    have hq := raised_cases hp y.toNat (by omega)
    have hz : Bd 6 (z - 2) := by unfold Bd; omega
    refine wp_mv (k := 6) ⟨hq.1, hz, Bd.zero _, bd1 _⟩ (by simpa using hq.2) (by decide) fun w hw => ?_
    simp! [b__law_draw_move_2a_1, law_back_ok w st3 hw.b hw.d (by decide), law_after_ok m (bk w) st3 hm.b (hw.bk).b hm.d (hw.bk).d (by decide), law_after_ok w (aft m (bk w)) st3 hw.b (hm.aft hw.bk).b hw.d (hm.aft hw.bk).d (by decide), b__law_draw_move_3]
    exact k _ _ h3 ((hw.aft (hm.aft hw.bk)).up (by decide))
  · simp! [b__law_draw_move_3]
    exact k _ _ h1 (hm.up (by decide))
theorem wp_move {p : Int} {st : Store} {Q : RV → Store → Prop} (h : IsSrc st) (hp : P4 p) (k : ∀ m st', IsSrc st' → GM 32 m → Q ⟨false, .dat (eM m)⟩ st') : Wp (f__law_draw_move [.loc 1, .dat (.int p)] st) Q := by
  refine wp_fn rfl ?_
  simp! [b__law_draw_move]
  refine wp_pick h (by decide) (by decide) fun x st1 h1 x0 x1 => ?_
  simp!
  refine wp_pick h1 (by decide) (by decide) fun y st2 h2 y0 y1 => ?_
  simp! [b__law_draw_move_1]
  have hb : (p * p).natAbs < 2 ^ 6 ∧ p.natAbs < 2 ^ 6 ∧ p ≠ 0 ∧ p * p ≠ 0 ∧ (-p).natAbs < 2 ^ 6 := by rcases hp with rfl | rfl | rfl | rfl <;> decide
  obtain ⟨b1, b2, b3, b4, b5⟩ := hb
  have b6 : bin .mul (.int p) (.int p) = some (false, .int (p * p)) := bm_s (by omega)
  have hy : Bd 6 (y - 4) := by unfold Bd; omega
  have hy2 : (y - 4).natAbs < 2 ^ 64 := by omega
  refine wps_if (fun hc => ?_) fun hc => ?_
  · simp! [b__law_draw_move_1a]
    refine wp_pick_ix h2 (by decide) (by decide) (by simp) fun d hd st3 h3 => ?_
    obtain ⟨t, rfl, ht⟩ : ∃ t, d = .int t ∧ Bd 6 t := by
      simp at hd
      rcases hd with rfl | rfl
      · exact ⟨_, rfl, bd1 _⟩
      · exact ⟨_, rfl, b2⟩
    simp! [bm_s hy2, b6]
    refine wp_pick_ix h3 (by decide) (by decide) (by simp) fun d hd st4 h4 => ?_
    obtain ⟨u, rfl, hu, u0⟩ : ∃ t, d = .int t ∧ Bd 6 t ∧ t ≠ 0 := by
      simp at hd
      rcases hd with rfl | rfl | rfl
      · exact ⟨_, rfl, bd1 _, by decide⟩
      · exact ⟨_, rfl, b2, b3⟩
      · exact ⟨_, rfl, b1, b4⟩
    simp!
    refine wp_mv (k := 12) ⟨bd1 _, hy.mul ht, Bd.zero _, hu.up (by decide)⟩ (by simpa using u0) (by decide) fun w hw => ?_
    simp!
    exact move_tail h4 hp hw k
  · simp! [b__law_draw_move_1b]
    refine wps_if (fun hc => ?_) fun hc => ?_
    · simp! [b__law_draw_move_1b_0a]
      refine wp_pick h2 (by decide) (by decide) fun z st3 h3 z0 z1 => ?_
      simp!
      refine wp_raised hp z0 (by omega) ?_
      simp!
      refine wp_pick_ix h3 (by decide) (by decide) (by simp) fun d hd st4 h4 => ?_
      obtain ⟨u, rfl, hu, u0⟩ : ∃ t, d = .int t ∧ Bd 6 t ∧ t ≠ 0 := by
        simp at hd
        rcases hd with rfl | rfl | rfl | rfl <;> exact ⟨_, rfl, by unfold Bd; decide, by decide⟩
      simp!
      have hq := raised_cases hp z.toNat (by omega)
      refine wp_mv (k := 6) ⟨hq.1, Bd.zero _, Bd.zero _, hu⟩ (by simpa using ⟨hq.2, u0⟩) (by decide) fun w hw => ?_
      simp!
      exact move_tail h4 hp (hw.up (by decide)) k
    · simp! [b__law_draw_move_1b_0b]
      refine wps_if (fun hc => ?_) fun hc => ?_
      · simp! [b__law_draw_move_1b_0b_0a]
        refine wp_pick_ix h2 (by decide) (by decide) (by simp) fun d hd st4 h4 => ?_
        obtain ⟨u, rfl, hu, u0⟩ : ∃ t, d = .int t ∧ Bd 6 t ∧ t ≠ 0 := by
          simp at hd
          rcases hd with rfl | rfl | rfl | rfl
          · exact ⟨_, rfl, bd1 _, by decide⟩
          · exact ⟨_, rfl, b2, b3⟩
          · exact ⟨_, rfl, by unfold Bd; decide, by decide⟩
          · exact ⟨_, rfl, b5, by omega⟩
        simp!
        refine wp_mv (k := 6) ⟨Bd.zero _, hu, bd1 _, hy⟩ (by simpa using u0) (by decide) fun w hw => ?_
        simp!
        exact move_tail h4 hp (hw.up (by decide)) k
      · simp! [b__law_draw_move_1b_0b_0b, show rngOk 4 = true by decide]
        refine wp_draw (fun a : Int => a.natAbs < 2 ^ 6) PyData.int h2 (fun d st h => ?_) (by simp [rangeUp_len]) fun xs st3 h3 hz hx => ?_
        · simp!
          refine wp_pick h (by decide) (by decide) fun z st3 h3 z0 z1 => ?_
          simp!
          exact ⟨h3, z - 4, by omega, rfl⟩
        · rw [rangeUp_len] at hz
          obtain ⟨a, b, c, d, rfl⟩ : ∃ a b c d, xs = [a, b, c, d] := by
            match xs, hz with
            | [a, b, c, d], _ => exact ⟨a, b, c, d, rfl⟩
          simp at hx
          obtain ⟨ha, hb, hc', hd⟩ := hx
          simp! [b__law_draw_move_1b_0b_0b_1, bm_s (show a.natAbs < 2 ^ 64 by omega), bm_s (show b.natAbs < 2 ^ 64 by omega), b__law_draw_move_1b_0b_0b_2]
          refine wp_if (fun he => ?_) fun he => ?_
          · refine wp_mv (k := 6) ⟨bd1 _, hy, Bd.zero _, bd1 _⟩ (by simp) (by decide) fun w hw => ?_
            simp!
            exact move_tail h3 hp (hw.up (by decide)) k
          · have he := of_decide_eq_false he
            refine wp_mv (k := 6) ⟨ha, hb, hc', hd⟩ (by omega) (by decide) fun w hw => ?_
            simp!
            exact move_tail h3 hp (hw.up (by decide)) k
end MK

namespace MK
open PySem MP
local macro_rules | `(tactic| simp! [$ls,*]) => `(tactic| simp only [$ls,*, eP_i0, eP_i1, eP_bt, eM_i0, eM_i1, eM_i2, eM_i3, eM_bt, eq_eP, ne_eP, eq_lP, ne_lP, eq_eM, ne_eM, eq_lM, ne_lM, cmp_strN, cmp_strE, ev_var, ev_cst, ev_glob, ev_neg, ev_not, ev_bin, ev_cmp, ev_chain, ev_and, ev_or, ev_ite, ev_tup, ev_lst, ev_ix, ev_slice, ev_rev, ev_call, ev_blt, ev_isi, ev_comp, ev_compF, evA_n, evA_c, evA_s, evV_n, evV_c, evP_n, evP_c, evO_n, evO_s, evC_n, evC_s, evI_s, evI_1, evI_2, es_pass, es_exp, es_set, es_setO, es_setT, es_par, es_parO, ownOf_t, evR_n, evR_f, evR_t, pS_n, pS_c, es_ite, es_whil, es_for, es_brk, es_cnt, es_frz, ess_n, ess_c, er_var, er_cst, er_glob, er_neg, er_not, er_bin, er_cmp, er_chain, er_and, er_or, er_ite, er_tup, er_lst, er_ix, er_slice, er_rev, er_call, er_blt, er_isi, er_comp, appR_o, augR_a, augR_s, frzR_o, varR_v, varR_o, retR_o, retR_v, ixR_s, ix_l, ix_t, bT_ok, sT_ok, qT_nx, qT_rt, qT_br, qT_ct, Cb_t, Cb_f, oT_s, tT_nx, tT_ct, tT_br, tT_rt, turn_nx, turn_ct, turn_br, turn_rt, datOf_dat, intOf_int, boolOf_bool, plain_eq, fresh_eq, ofBD_some, ofB_some, rOpt_some, seqOf_l, seqOf_t, lit_int, lit_str, lit_bool, lit_none, wp_ok, wp_bind, wps_sr, wps_seq, wps_nx, wps_rt, wps_br, wps_ct, List.getElem?_cons_zero, List.getElem?_cons_succ, List.set_cons_zero, List.set_cons_succ, List.map_cons, List.map_nil, Nat.reduceSub, List.replicate_succ, List.replicate_zero, List.cons_append, List.nil_append, List.append_nil, putVals, bt_nm, bt_t, bt_l, btT_s, bts_n, bts_c, wipeE, bin_int_add, bin_int_sub, cmp_int_eq, cmp_int_ne, cmp_int_lt, cmp_int_le, cmp_int_gt, cmp_int_ge, ix_0, ix_1, ix_2, ix_3, ix_4, ix_5, ix_6, ix_7, ix_m1, blt_absI, blt_intI, blt_tupL, blt_tupT, blt_lstL, blt_lstT, blt_lenL, blt_lenT, blt_lenLm, blt_lenTm, isi_n, isi_b, isi_i, isi_s, isi_l, isi_t, fits_0, fits_1, fits_2, fits_3, fits_4, fits_5, fits_6, fits_7, fits_8, fits_9, fits_10, fits_11, fits_12, fits_13, fits_14, fits_15, fits_16, fitsS_0, fitsS_1, fitsS_2, fitsS_3, fitsS_4, List.length_cons, List.length_nil, Nat.zero_add, Nat.reduceAdd, Bool.not_true, Bool.not_false, decide_true, decide_false, Int.reduceNeg, Int.reduceSub, Int.reduceAdd, Int.reduceLT, Int.reduceLE, Int.reduceEq, Int.reduceMul])
local macro_rules | `(tactic| simp!) => `(tactic| simp only [eP_i0, eP_i1, eP_bt, eM_i0, eM_i1, eM_i2, eM_i3, eM_bt, eq_eP, ne_eP, eq_lP, ne_lP, eq_eM, ne_eM, eq_lM, ne_lM, cmp_strN, cmp_strE, ev_var, ev_cst, ev_glob, ev_neg, ev_not, ev_bin, ev_cmp, ev_chain, ev_and, ev_or, ev_ite, ev_tup, ev_lst, ev_ix, ev_slice, ev_rev, ev_call, ev_blt, ev_isi, ev_comp, ev_compF, evA_n, evA_c, evA_s, evV_n, evV_c, evP_n, evP_c, evO_n, evO_s, evC_n, evC_s, evI_s, evI_1, evI_2, es_pass, es_exp, es_set, es_setO, es_setT, es_par, es_parO, ownOf_t, evR_n, evR_f, evR_t, pS_n, pS_c, es_ite, es_whil, es_for, es_brk, es_cnt, es_frz, ess_n, ess_c, er_var, er_cst, er_glob, er_neg, er_not, er_bin, er_cmp, er_chain, er_and, er_or, er_ite, er_tup, er_lst, er_ix, er_slice, er_rev, er_call, er_blt, er_isi, er_comp, appR_o, augR_a, augR_s, frzR_o, varR_v, varR_o, retR_o, retR_v, ixR_s, ix_l, ix_t, bT_ok, sT_ok, qT_nx, qT_rt, qT_br, qT_ct, Cb_t, Cb_f, oT_s, tT_nx, tT_ct, tT_br, tT_rt, turn_nx, turn_ct, turn_br, turn_rt, datOf_dat, intOf_int, boolOf_bool, plain_eq, fresh_eq, ofBD_some, ofB_some, rOpt_some, seqOf_l, seqOf_t, lit_int, lit_str, lit_bool, lit_none, wp_ok, wp_bind, wps_sr, wps_seq, wps_nx, wps_rt, wps_br, wps_ct, List.getElem?_cons_zero, List.getElem?_cons_succ, List.set_cons_zero, List.set_cons_succ, List.map_cons, List.map_nil, Nat.reduceSub, List.replicate_succ, List.replicate_zero, List.cons_append, List.nil_append, List.append_nil, putVals, bt_nm, bt_t, bt_l, btT_s, bts_n, bts_c, wipeE, bin_int_add, bin_int_sub, cmp_int_eq, cmp_int_ne, cmp_int_lt, cmp_int_le, cmp_int_gt, cmp_int_ge, ix_0, ix_1, ix_2, ix_3, ix_4, ix_5, ix_6, ix_7, ix_m1, blt_absI, blt_intI, blt_tupL, blt_tupT, blt_lstL, blt_lstT, blt_lenL, blt_lenT, blt_lenLm, blt_lenTm, isi_n, isi_b, isi_i, isi_s, isi_l, isi_t, fits_0, fits_1, fits_2, fits_3, fits_4, fits_5, fits_6, fits_7, fits_8, fits_9, fits_10, fits_11, fits_12, fits_13, fits_14, fits_15, fits_16, fitsS_0, fitsS_1, fitsS_2, fitsS_3, fitsS_4, List.length_cons, List.length_nil, Nat.zero_add, Nat.reduceAdd, Bool.not_true, Bool.not_false, decide_true, decide_false, Int.reduceNeg, Int.reduceSub, Int.reduceAdd, Int.reduceLT, Int.reduceLE, Int.reduceEq, Int.reduceMul])
def n_is_number : List Str := ["value"]
def b_is_number : Sms := (.cons (.ret (.and (.isi (.var 0) ["int"]) (.not (.isi (.var 0) ["bool"])))) .nil)
def f_is_number : Fn := fnOf 1 1 b_is_number
def r_is_number : List Req := [.non "isinstance", .non "int", .non "bool"]
theorem q_is_number : rqSs b_is_number = [0, 1, 0, 2].map fun i => r_is_number.getD i (.non "") := rfl
def n_is_row_of_numbers : List Str := ["value", "many", "one"]
def b_is_row_of_numbers : Sms := (.cons (.ret (.and (.isi (.var 0) ["tuple"]) (.and (.cmp .eq (.blt .len (.cons (.var 0) .nil)) (.var 1)) (.blt .all (.cons (.comp (.call "is_number" f_is_number (.cons (.var 2) .nil)) [("one", 2)] (.nm 2) (.seq (.var 0)) .non) .nil))))) .nil)
def f_is_row_of_numbers : Fn := fnOf 2 3 b_is_row_of_numbers
def r_is_row_of_numbers : List Req := [.non "isinstance", .non "tuple", .non "len", .non "all", .fn "is_number" f_is_number]
theorem q_is_row_of_numbers : rqSs b_is_row_of_numbers = [0, 1, 2, 3, 4].map fun i => r_is_row_of_numbers.getD i (.non "") := rfl
def n_point : List Str := ["x", "y", "divisor"]
def b_point_3 : Sms := (.cons (.ret (.tup (.cons (.bin .fdiv (.var 0) (.var 2)) (.cons (.bin .fdiv (.var 1) (.var 2)) .nil)))) .nil)
def b_point_2 : Sms := (.cons (.set 2 false (.ite (.cmp .gt (.var 1) (.cst (.int 0))) (.blt .gcd (.cons (.var 0) (.cons (.var 1) .nil))) (.neg (.blt .gcd (.cons (.var 0) (.cons (.var 1) .nil)))))) b_point_3)
def b_point_1a : Sms := (.cons (.ret (.glob "FAR" (.tuple [(.int 1), (.int 0)]))) .nil)
def b_point_1 : Sms := (.cons (.ite (.cmp .eq (.var 1) (.cst (.int 0))) b_point_1a .nil) b_point_2)
def b_point_0a : Sms := (.cons .never .nil)
def b_point : Sms := (.cons (.ite (.or (.not (.call "is_number" f_is_number (.cons (.var 0) .nil))) (.or (.not (.call "is_number" f_is_number (.cons (.var 1) .nil))) (.chain .eq .eq (.var 0) (.var 1) (.cst (.int 0))))) b_point_0a .nil) b_point_1)
def f_point : Fn := fnOf 2 3 b_point
def r_point : List Req := [.fn "is_number" f_is_number, .cst "FAR" (.tuple [(.int 1), (.int 0)]), .bltin "gcd" (.builtin "math.gcd")]
theorem q_point : rqSs b_point = [0, 0, 1, 2, 2].map fun i => r_point.getD i (.non "") := rfl
def n_is_point : List Str := ["value"]
def b_is_point_1 : Sms := (.cons (.ret (.or (.cmp .gt (.ix (.var 0) (.cst (.int 1))) (.cst (.int 0))) (.cmp .eq (.var 0) (.glob "FAR" (.tuple [(.int 1), (.int 0)]))))) .nil)
def b_is_point_0a : Sms := (.cons (.ret (.cst (.bool false))) .nil)
def b_is_point : Sms := (.cons (.ite (.or (.not (.call "is_row_of_numbers" f_is_row_of_numbers (.cons (.var 0) (.cons (.cst (.int 2)) .nil)))) (.cmp .ne (.blt .gcd (.cons (.ix (.var 0) (.cst (.int 0))) (.cons (.ix (.var 0) (.cst (.int 1))) .nil))) (.cst (.int 1)))) b_is_point_0a .nil) b_is_point_1)
def f_is_point : Fn := fnOf 1 1 b_is_point
def r_is_point : List Req := [.fn "is_row_of_numbers" f_is_row_of_numbers, .bltin "gcd" (.builtin "math.gcd"), .cst "FAR" (.tuple [(.int 1), (.int 0)])]
theorem q_is_point : rqSs b_is_point = [0, 1, 2].map fun i => r_is_point.getD i (.non "") := rfl
def n_led_point : List Str := ["m", "q", "a", "b", "c", "d"]
def b_led_point_1 : Sms := (.cons (.ret (.call "point" f_point (.cons (.bin .add (.bin .mul (.var 2) (.ix (.var 1) (.cst (.int 0)))) (.bin .mul (.var 3) (.ix (.var 1) (.cst (.int 1))))) (.cons (.bin .add (.bin .mul (.var 4) (.ix (.var 1) (.cst (.int 0)))) (.bin .mul (.var 5) (.ix (.var 1) (.cst (.int 1))))) .nil)))) .nil)
def b_led_point : Sms := (.cons (.setT (.cons (.nm 2) (.cons (.nm 3) (.cons (.nm 4) (.cons (.nm 5) .nil)))) (.var 0)) b_led_point_1)
def f_led_point : Fn := fnOf 2 6 b_led_point
def r_led_point : List Req := [.fn "point" f_point]
theorem q_led_point : rqSs b_led_point = [0].map fun i => r_led_point.getD i (.non "") := rfl
def n__law_draw_fraction : List Str := ["_law_source", "_law_p", "_law_wide", "_law_n", "_law_d"]
def b__law_draw_fraction_1 : Sms := (.cons (.ret (.call "_law_fraction" f__law_fraction (.cons (.bin .mul (.var 3) (.ix (.lst (.cons (.cst (.int 1)) (.cons (.cst (.int 1)) (.cons (.var 1) .nil)))) (.call "_law_pick" f__law_pick (.cons (.var 0) (.cons (.cst (.int 3)) .nil))))) (.cons (.var 4) .nil)))) .nil)
def b__law_draw_fraction : Sms := (.cons (.par [3, 4] (.cons (.bin .sub (.call "_law_pick" f__law_pick (.cons (.var 0) (.cons (.bin .add (.bin .mul (.cst (.int 2)) (.var 2)) (.cst (.int 1))) .nil))) (.var 2)) (.cons (.ix (.lst (.cons (.cst (.int 1)) (.cons (.cst (.int 1)) (.cons (.var 1) (.cons (.cst (.int 2)) (.cons (.cst (.int 3)) (.cons (.bin .mul (.var 1) (.var 1)) .nil))))))) (.call "_law_pick" f__law_pick (.cons (.var 0) (.cons (.cst (.int 6)) .nil)))) .nil))) b__law_draw_fraction_1)
def f__law_draw_fraction : Fn := fnOf 3 5 b__law_draw_fraction
def r__law_draw_fraction : List Req := [.fn "_law_pick" f__law_pick, .fn "_law_fraction" f__law_fraction]
theorem q__law_draw_fraction : rqSs b__law_draw_fraction = [0, 0, 1, 0].map fun i => r__law_draw_fraction.getD i (.non "") := rfl
def n__law_draw_point : List Str := ["_law_source", "_law_p"]
def b__law_draw_point : Sms := (.cons (.ret (.ite (.cmp .eq (.call "_law_pick" f__law_pick (.cons (.var 0) (.cons (.cst (.int 6)) .nil))) (.cst (.int 0))) (.tup (.cons (.cst (.int 1)) (.cons (.cst (.int 0)) .nil))) (.call "_law_draw_fraction" f__law_draw_fraction (.cons (.var 0) (.cons (.var 1) (.cons (.cst (.int 9)) .nil)))))) .nil)
def f__law_draw_point : Fn := fnOf 2 2 b__law_draw_point
def r__law_draw_point : List Req := [.fn "_law_pick" f__law_pick, .fn "_law_draw_fraction" f__law_draw_fraction]
theorem q__law_draw_point : rqSs b__law_draw_point = [0, 1].map fun i => r__law_draw_point.getD i (.non "") := rfl
def n__law_led_point : List Str := ["_law_m", "_law_q", "_law_upper", "_law_lower"]
def b__law_led_point_1 : Sms := (.cons (.ret (.ite (.cmp .eq (.var 3) (.cst (.int 0))) (.tup (.cons (.cst (.int 1)) (.cons (.cst (.int 0)) .nil))) (.call "_law_fraction" f__law_fraction (.cons (.var 2) (.cons (.var 3) .nil))))) .nil)
def b__law_led_point : Sms := (.cons (.par [2, 3] (.cons (.bin .add (.bin .mul (.ix (.var 0) (.cst (.int 0))) (.ix (.var 1) (.cst (.int 0)))) (.bin .mul (.ix (.var 0) (.cst (.int 1))) (.ix (.var 1) (.cst (.int 1))))) (.cons (.bin .add (.bin .mul (.ix (.var 0) (.cst (.int 2))) (.ix (.var 1) (.cst (.int 0)))) (.bin .mul (.ix (.var 0) (.cst (.int 3))) (.ix (.var 1) (.cst (.int 1))))) .nil))) b__law_led_point_1)
def f__law_led_point : Fn := fnOf 2 4 b__law_led_point
def r__law_led_point : List Req := [.fn "_law_fraction" f__law_fraction]
theorem q__law_led_point : rqSs b__law_led_point = [0].map fun i => r__law_led_point.getD i (.non "") := rfl
/-! points -/
abbrev Pt := Int × Int
def far : Pt := (1, 0)
def pt (x y : Int) : Pt := if y = 0 then far else frac x y
def Nz (q : Pt) : Prop := q.1 ≠ 0 ∨ q.2 ≠ 0
def IsPt (q : Pt) : Prop := q = far ∨ NF q
theorem IsPt.nz {q : Pt} (h : IsPt q) : Nz q := by
  rcases h with rfl | h
  · exact .inl (by decide)
  · exact .inr (by have := h.1; omega)
theorem NF.frac {q : Pt} (h : NF q) : frac q.1 q.2 = q := by
  have h2 : q.2 ≠ 0 := by have := h.1; omega
  exact (NF_eq (frac_nf h2) h).mpr (frac_cross h2)
theorem IsPt.pt {q : Pt} (h : IsPt q) : pt q.1 q.2 = q := by
  rcases h with rfl | h
  · rfl
  · have h2 : q.2 ≠ 0 := by have := h.1; omega
    unfold MK.pt
    rw [if_neg h2]
    exact h.frac
theorem pt_is (x y : Int) : IsPt (pt x y) := by
  unfold pt
  by_cases h : y = 0
  · rw [if_pos h]
    exact .inl rfl
  · rw [if_neg h]
    exact .inr (frac_nf h)
theorem pt_eq {x y u v : Int} (h : x ≠ 0 ∨ y ≠ 0) (q : u ≠ 0 ∨ v ≠ 0) : pt x y = pt u v ↔ x * v = u * y := by
  unfold pt
  by_cases hy : y = 0
  · subst hy
    rw [if_pos rfl]
    have hx : x ≠ 0 := by omega
    by_cases hv : v = 0
    · subst hv
      simp
    · rw [if_neg hv]
      constructor
      · intro e
        have := (frac_nf (n := u) hv).1
        rw [← e] at this
        exact absurd this (by decide)
      · intro e
        rw [Int.mul_zero] at e
        exact absurd e (Int.mul_ne_zero hx hv)
  · rw [if_neg hy]
    by_cases hv : v = 0
    · subst hv
      have hu : u ≠ 0 := by omega
      rw [if_pos rfl]
      constructor
      · intro e
        have := (frac_nf (n := x) hy).1
        rw [e] at this
        exact absurd this (by decide)
      · intro e
        rw [Int.mul_zero] at e
        exact absurd e.symm (Int.mul_ne_zero hu hy)
    · rw [if_neg hv]
      exact frac_eq hy hv
theorem pt_self {x y : Int} (h : x ≠ 0 ∨ y ≠ 0) : (pt x y).1 * y = x * (pt x y).2 := by
  have e := (pt_eq (u := (pt x y).1) (v := (pt x y).2) h (pt_is x y).nz).mp (pt_is x y).pt.symm
  exact e.symm
theorem pt_bd {k l : Nat} {x y : Int} (hx : Bd k x) (hy : Bd l y) : Bd (k + 1) (pt x y).1 ∧ Bd (l + 1) (pt x y).2 := by
  unfold pt
  by_cases h : y = 0
  · rw [if_pos h]
    exact ⟨bd1 _, Bd.zero _⟩
  · rw [if_neg h]
    have := frac_bd hx hy
    exact ⟨this.1.up (by omega), this.2.up (by omega)⟩
def BdP (k : Nat) (q : Pt) : Prop := Bd k q.1 ∧ Bd k q.2
theorem BdP.up {k l : Nat} {q : Pt} (h : BdP k q) (hl : k ≤ l) : BdP l q := ⟨h.1.up hl, h.2.up hl⟩
/-- where a move leads a point -/
def ledU (m : M4) (q : Pt) : Int := m.a * q.1 + m.b * q.2
def ledL (m : M4) (q : Pt) : Int := m.c * q.1 + m.d * q.2
def ledP (m : M4) (q : Pt) : Pt := pt (ledU m q) (ledL m q)
theorem led_nz {m : M4} (h : det4 m ≠ 0) {q : Pt} (hq : Nz q) : ledU m q ≠ 0 ∨ ledL m q ≠ 0 := by
  by_cases hu : ledU m q = 0
  · by_cases hl : ledL m q = 0
    · exfalso
      unfold ledU at hu
      unfold ledL at hl
      unfold det4 at h
      have e1 : (m.a * m.d - m.b * m.c) * q.1 = 0 := by grind
      have e2 : (m.a * m.d - m.b * m.c) * q.2 = 0 := by grind
      rcases hq with hq | hq
      · exact (Int.mul_ne_zero h hq) e1
      · exact (Int.mul_ne_zero h hq) e2
    · exact .inr hl
  · exact .inl hu
theorem led_inj {m : M4} (h : det4 m ≠ 0) {q r : Pt} (hq : IsPt q) (hr : IsPt r) : ledP m q = ledP m r ↔ q = r := by
  unfold ledP
  rw [pt_eq (led_nz h hq.nz) (led_nz h hr.nz)]
  have e : q = r ↔ q.1 * r.2 = r.1 * q.2 := by
    conv => lhs; rw [← hq.pt, ← hr.pt]
    exact pt_eq hq.nz hr.nz
  rw [e]
  unfold ledU ledL
  unfold det4 at h
  constructor
  · intro e
    have : (m.a * m.d - m.b * m.c) * (q.1 * r.2 - r.1 * q.2) = 0 := by grind
    rcases Int.mul_eq_zero.mp this with z | z
    · exact absurd z h
    · omega
  · intro e
    grind
theorem led_bd {k l : Nat} {m : M4} {q : Pt} (hm : BdM k m) (hq : BdP l q) : BdP (k + l + 2) (ledP m q) := by
  obtain ⟨a1, a2, a3, a4⟩ := hm
  exact pt_bd ((a1.mul hq.1).add' (a2.mul hq.2)) ((a3.mul hq.1).add' (a4.mul hq.2))
def idM : M4 := ⟨1, 0, 0, 1⟩
theorem led_id {q : Pt} (h : IsPt q) : ledP idM q = q := by
  unfold ledP ledU ledL idM
  simp [h.pt]
theorem isnum_ok (d : MP.D) (st : Store) : f_is_number [.dat d] st = .ok ⟨false, .dat (.bool (isA d "int" && !isA d "bool"))⟩ st := by
  refine fn_eq rfl ?_
  simp! [b_is_number, List.any_cons, List.any_nil, Bool.or_false]
  cases isA d "int" <;> simp! <;> simp
theorem isnum_int (i : Int) (st : Store) : f_is_number [.dat (.int i)] st = .ok ⟨false, .dat (.bool true)⟩ st := isnum_ok _ _
theorem point_ok {k l : Nat} (x y : Int) (st : Store) (hx : Bd k x) (hy : Bd l y) (h : x ≠ 0 ∨ y ≠ 0) (hl : l ≤ 8000) : f_point [.dat (.int x), .dat (.int y)] st = .ok ⟨false, .dat (eP (pt x y))⟩ st := by
  refine fn_eq rfl ?_
  have go : evSs b_point_1 [.val (.dat (.int x)), .val (.dat (.int y)), .un] st = .rt ⟨false, .dat (eP (pt x y))⟩ st := by
    unfold pt
    by_cases h0 : y = 0
    · rw [if_pos h0]
      subst h0
      simp! [b_point_1, b_point_1a]
      rfl
    · rw [if_neg h0]
      simp! [b_point_1, b_point_2, decide_eq_false h0]
      have hg : Bd l (Int.gcd x y : Nat) := gcd_bd h0 hy
      have gp := gcd_pos (n := x) h0
      have ge : bltF .gcd [.int x, .int y] = some (false, .int (Int.gcd x y : Nat)) := rfl
      by_cases hp : 0 < y
      · have e : sgn1 y = 1 := if_pos hp
        simp! [decide_eq_true hp, ge, b_point_3, bin_fdiv (i := x) hg (by omega) (by omega), bin_fdiv (i := y) hg (by omega) (by omega)]
        simp [eP, frac, e]
      · have e : sgn1 y = -1 := if_neg hp
        simp! [decide_eq_false hp, ge, b_point_3, bin_fdiv (i := x) hg.neg (by omega) (by omega), bin_fdiv (i := y) hg.neg (by omega) (by omega)]
        simp [eP, frac, e]
  by_cases hxy : x = y
  · have h0 : y ≠ 0 := by omega
    simp! [b_point, isnum_int, decide_eq_true hxy, decide_eq_false h0, go]
  · simp! [b_point, isnum_int, decide_eq_false hxy, go]
theorem ledU_bd {k l : Nat} {m : M4} {q : Pt} (hm : BdM k m) (hq : BdP l q) : Bd (k + l + 1) (ledU m q) := (hm.1.mul hq.1).add' (hm.2.1.mul hq.2)
theorem ledL_bd {k l : Nat} {m : M4} {q : Pt} (hm : BdM k m) (hq : BdP l q) : Bd (k + l + 1) (ledL m q) := (hm.2.2.1.mul hq.1).add' (hm.2.2.2.mul hq.2)
theorem led_point_ok {k l : Nat} (m : M4) (q : Pt) (st : Store) (hm : BdM k m) (hq : BdP l q) (h : det4 m ≠ 0) (n : Nz q) (hl : k + l + 1 ≤ 8000) : f_led_point [.dat (eM m), .dat (eP q)] st = .ok ⟨false, .dat (eP (ledP m q))⟩ st := by
  obtain ⟨a1, a2, a3, a4⟩ := hm
  have w : ∀ {i j : Int}, Bd k i → Bd l j → bin .mul (.int i) (.int j) = some (false, .int (i * j)) := fun hi hj => bin_mul hi hj (by omega)
  have e := point_ok (ledU m q) (ledL m q) st (ledU_bd ⟨a1, a2, a3, a4⟩ hq) (ledL_bd ⟨a1, a2, a3, a4⟩ hq) (led_nz h n) hl
  refine fn_eq rfl ?_
  simp! [b_led_point, eM, eP, b_led_point_1, w a1 hq.1, w a2 hq.2, w a3 hq.1, w a4 hq.2]
  simp only [ledU, ledL] at e
  rw [e]
  rfl
theorem law_led_point_ok {k l : Nat} (m : M4) (q : Pt) (st : Store) (hm : BdM k m) (hq : BdP l q) (hl : k + l + 1 ≤ 8000) : f__law_led_point [.dat (eM m), .dat (eP q)] st = .ok ⟨false, .dat (eP (ledP m q))⟩ st := by
  obtain ⟨a1, a2, a3, a4⟩ := hm
  have w : ∀ {i j : Int}, Bd k i → Bd l j → bin .mul (.int i) (.int j) = some (false, .int (i * j)) := fun hi hj => bin_mul hi hj (by omega)
  refine fn_eq rfl ?_
  simp! [b__law_led_point, eM, eP, b__law_led_point_1, w a1 hq.1, w a2 hq.2, w a3 hq.1, w a4 hq.2]
  by_cases h0 : m.c * q.1 + m.d * q.2 = 0
  · simp! [decide_eq_true h0]
    simp [ledP, ledU, ledL, pt, h0, far]
  · have e := fraction_ok (ledU m q) (ledL m q) st (ledU_bd ⟨a1, a2, a3, a4⟩ hq) (ledL_bd ⟨a1, a2, a3, a4⟩ hq) h0 (by omega) (by omega)
    simp only [ledU, ledL] at e
    simp! [decide_eq_false h0, e]
    simp [ledP, ledU, ledL, pt, h0, eP]
theorem isrow_ok (ds : List MP.D) (n : Int) (st : Store) (hl : ds.length ≤ 2 ^ 20) : f_is_row_of_numbers [.dat (.tuple ds), .dat (.int n)] st = .ok ⟨false, .dat (.bool (decide ((ds.length : Int) = n) && ds.all fun d => isA d "int" && !isA d "bool"))⟩ st := by
  refine Wp.is (wp_fn rfl ?_)
  simp! [b_is_row_of_numbers]
  by_cases h : (ds.length : Int) = n
  · simp! [decide_eq_true h, beq_self_eq_true]
    have e := wp_compM (st := st) (f := compF (.call "is_number" f_is_number (.cons (.var 2) .nil)) [("one", 2)] (.nm 2) .non [.val (.dat (.tuple ds)), .val (.dat (.int n)), .un]) (Q := fun l st' => l = ds.map (fun d => .bool (isA d "int" && !isA d "bool")) ∧ st' = st) id (fun d => .bool (isA d "int" && !isA d "bool")) (xs := ds) (fun d _ => by simp! [isnum_ok, id]; simp) (by omega) ⟨rfl, rfl⟩
    rw [List.map_id] at e
    refine e.mono ?_
    rintro _ _ ⟨rfl, rfl⟩
    have e2 : ∀ l : List MP.D, boolsOf (l.map fun d => .bool (isA d "int" && !isA d "bool")) = some (l.map fun d => isA d "int" && !isA d "bool") := fun l => by
      induction l with
      | nil => rfl
      | cons a l ih =>
        show (boolsOf (l.map fun d => .bool (isA d "int" && !isA d "bool"))).map _ = _
        rw [ih]
        rfl
    have e3 : bltF .all [.list (ds.map fun d => .bool (isA d "int" && !isA d "bool"))] = some (false, .bool (ds.all fun d => isA d "int" && !isA d "bool")) := by
      show (boolsOf _).map _ = _
      rw [e2]
      simp [List.all_map, Function.comp_def]
    simp! [e3]
    simp [Is, h]
  · simp! [decide_eq_false h, beq_self_eq_true]
    simp [Is, h]
theorem gcd_eq (x y : Int) : bltF .gcd [.int x, .int y] = some (false, .int (Int.gcd x y : Nat)) := rfl
theorem is_point_ok (q : Pt) (st : Store) (h : IsPt q) : f_is_point [.dat (eP q)] st = .ok ⟨false, .dat (.bool true)⟩ st := by
  have e := isrow_ok [.int q.1, .int q.2] 2 st (by simp)
  have e2 : ((([.int q.1, .int q.2] : List MP.D).length : Int) = 2) := rfl
  have e3 : (([.int q.1, .int q.2] : List MP.D).all fun d => isA d "int" && !isA d "bool") = true := rfl
  rw [decide_eq_true e2, e3] at e
  have hg : Int.gcd q.1 q.2 = 1 := by
    rcases h with rfl | h
    · rfl
    · exact h.2
  have hc : bltF .gcd [.int q.1, .int q.2] = some (false, .int 1) := by
    rw [gcd_eq, hg]
    rfl
  have hf : cmpD .eq (.tuple [.int q.1, .int q.2]) (.tuple [.int 1, .int 0]) = some (decide (q = far)) := eq_eP q far
  refine fn_eq rfl ?_
  simp! [b_is_point, eP, e, hc, b_is_point_1, hf, Bool.true_and]
  rcases h with rfl | h
  · have e4 : cmpD .eq (.tuple [.int 1, .int 0]) (.tuple [.int 1, .int 0]) = some true := eq_self rfl
    simp! [far, e4]
  · simp! [decide_eq_true h.1]
theorem P4.pos {p : Int} (h : P4 p) : 2 ≤ p ∧ p ≤ 7 := by
  rcases h with rfl | rfl | rfl | rfl <;> decide
theorem wp_fraction {k l : Nat} {n d : Int} {st : Store} {Q : RV → Store → Prop} (hn : Bd k n) (hd : Bd l d) (h0 : d ≠ 0) (hk : k ≤ 8000) (hl : l ≤ 8000) (q : ∀ x, NF x → BdP (max k l) x → x = frac n d → Q ⟨false, .dat (eP x)⟩ st) : Wp (f__law_fraction [.dat (.int n), .dat (.int d)] st) Q := by
  rw [fraction_ok n d st hn hd h0 (by omega) (by omega)]
  have hb := frac_bd hn hd
  exact ⟨q _ (frac_nf h0) ⟨hb.1.up (Nat.le_max_left _ _), hb.2.up (Nat.le_max_right _ _)⟩ rfl⟩
theorem wp_drawF {p w : Int} {st : Store} {Q : RV → Store → Prop} (h : IsSrc st) (hp : P4 p) (hw : 1 ≤ w) (hw2 : w ≤ 1000) (k : ∀ q st', IsSrc st' → NF q → BdP 13 q → Q ⟨false, .dat (eP q)⟩ st') : Wp (f__law_draw_fraction [.loc 1, .dat (.int p), .dat (.int w)] st) Q := by
  have hpp := hp.pos
  have b1 : (p * p).natAbs < 2 ^ 6 ∧ p * p ≠ 0 := by rcases hp with rfl | rfl | rfl | rfl <;> decide
  refine wp_fn rfl ?_
  simp! [b__law_draw_fraction, bm_s (show (2 : Int).natAbs < 2 ^ 64 by decide)]
  refine wp_pick h (by omega) (by omega) fun x st1 h1 x0 x1 => ?_
  simp! [bm_s (show p.natAbs < 2 ^ 64 by omega)]
  refine wp_pick_ix h1 (by decide) (by decide) (by simp) fun d hd st2 h2 => ?_
  obtain ⟨u, rfl, hu, u0⟩ : ∃ t, d = .int t ∧ Bd 6 t ∧ t ≠ 0 := by
    simp at hd
    rcases hd with rfl | rfl | rfl | rfl | rfl
    · exact ⟨_, rfl, bd1 _, by decide⟩
    · exact ⟨_, rfl, by unfold Bd; omega, by omega⟩
    · exact ⟨_, rfl, by unfold Bd; decide, by decide⟩
    · exact ⟨_, rfl, by unfold Bd; decide, by decide⟩
    · exact ⟨_, rfl, b1.1, b1.2⟩
  simp! [b__law_draw_fraction_1]
  refine wp_pick_ix h2 (by decide) (by decide) (by simp) fun d hd st3 h3 => ?_
  obtain ⟨t, rfl, ht⟩ : ∃ t, d = .int t ∧ Bd 3 t := by
    simp at hd
    rcases hd with rfl | rfl
    · exact ⟨_, rfl, bd1 _⟩
    · exact ⟨_, rfl, hp.bd⟩
  have hx : Bd 10 (x - w) := by unfold Bd; omega
  simp! [bin_mul hx ht (by decide)]
  refine wp_fraction (hx.mul ht) hu u0 (by decide) (by decide) fun q hq hb _ => ?_
  exact ⟨k q st3 h3 hq hb⟩
theorem wp_drawP {p : Int} {st : Store} {Q : RV → Store → Prop} (h : IsSrc st) (hp : P4 p) (k : ∀ q st', IsSrc st' → IsPt q → BdP 13 q → Q ⟨false, .dat (eP q)⟩ st') : Wp (f__law_draw_point [.loc 1, .dat (.int p)] st) Q := by
  refine wp_fn rfl ?_
  simp! [b__law_draw_point]
  refine wp_pick h (by decide) (by decide) fun x st1 h1 x0 x1 => ?_
  simp!
  refine wp_if (fun hc => ?_) fun hc => ?_
  · simp!
    exact k far st1 h1 (.inl rfl) ⟨bd1 _, Bd.zero _⟩
  · refine wp_drawF h1 hp (by decide) (by decide) fun q st2 h2 hq hb => ?_
    exact ⟨k q st2 h2 (.inr hq) hb⟩
end MK

namespace MK
open PySem MP
local macro_rules | `(tactic| simp! [$ls,*]) => `(tactic| simp only [$ls,*, eP_i0, eP_i1, eP_bt, eM_i0, eM_i1, eM_i2, eM_i3, eM_bt, eq_eP, ne_eP, eq_lP, ne_lP, eq_eM, ne_eM, eq_lM, ne_lM, cmp_strN, cmp_strE, ev_var, ev_cst, ev_glob, ev_neg, ev_not, ev_bin, ev_cmp, ev_chain, ev_and, ev_or, ev_ite, ev_tup, ev_lst, ev_ix, ev_slice, ev_rev, ev_call, ev_blt, ev_isi, ev_comp, ev_compF, evA_n, evA_c, evA_s, evV_n, evV_c, evP_n, evP_c, evO_n, evO_s, evC_n, evC_s, evI_s, evI_1, evI_2, evI_3, evI_e, evI_z, listOf_l, zipD_l, zipD_t, es_pass, es_exp, es_set, es_setO, es_setT, es_par, es_parO, ownOf_t, evR_n, evR_f, evR_t, pS_n, pS_c, es_ite, es_whil, es_for, es_brk, es_cnt, es_frz, ess_n, ess_c, er_var, er_cst, er_glob, er_neg, er_not, er_bin, er_cmp, er_chain, er_and, er_or, er_ite, er_tup, er_lst, er_ix, er_slice, er_rev, er_call, er_blt, er_isi, er_comp, appR_o, augR_a, augR_s, frzR_o, varR_v, varR_o, retR_o, retR_v, ixR_s, ix_l, ix_t, bT_ok, sT_ok, qT_nx, qT_rt, qT_br, qT_ct, qT_ex, bT_exc, sT_exc, tT_ex, es_rais, es_try, yT_nx, yT_rt, yT_br, yT_ct, yT_ex, es_clr, clrR_o, Cb_t, Cb_f, oT_s, tT_nx, tT_ct, tT_br, tT_rt, turn_nx, turn_ct, turn_br, turn_rt, datOf_dat, intOf_int, boolOf_bool, plain_eq, fresh_eq, ofBD_some, ofB_some, rOpt_some, seqOf_l, seqOf_t, lit_int, lit_str, lit_bool, lit_none, wp_ok, wp_bind, wps_sr, wps_seq, wps_tT, wps_nx, wps_rt, wps_br, wps_ct, List.getElem?_cons_zero, List.getElem?_cons_succ, List.set_cons_zero, List.set_cons_succ, List.map_cons, List.map_nil, Nat.reduceSub, List.replicate_succ, List.replicate_zero, List.cons_append, List.nil_append, List.append_nil, putVals, bt_nm, bt_t, bt_l, btT_s, bts_n, bts_c, wipeE, bin_int_add, bin_int_sub, cmp_int_eq, cmp_int_ne, cmp_int_lt, cmp_int_le, cmp_int_gt, cmp_int_ge, ix_0, ix_1, ix_2, ix_3, ix_4, ix_5, ix_6, ix_7, ix_m1, blt_absI, blt_intI, blt_tupL, blt_tupT, blt_lstL, blt_lstT, blt_lenL, blt_lenT, blt_lenLm, blt_lenTm, blt_min2, blt_max2, blt_min3, blt_max3, isi_n, isi_b, isi_i, isi_s, isi_l, isi_t, fits_0, fits_1, fits_2, fits_3, fits_4, fits_5, fits_6, fits_7, fits_8, fits_9, fits_10, fits_11, fits_12, fits_13, fits_14, fits_15, fits_16, fitsS_0, fitsS_1, fitsS_2, fitsS_3, fitsS_4, List.length_cons, List.length_nil, Nat.zero_add, Nat.reduceAdd, Bool.not_true, Bool.not_false, decide_true, decide_false, Int.reduceNeg, Int.reduceSub, Int.reduceAdd, Int.reduceLT, Int.reduceLE, Int.reduceEq, Int.reduceMul])
local macro_rules | `(tactic| simp!) => `(tactic| simp only [eP_i0, eP_i1, eP_bt, eM_i0, eM_i1, eM_i2, eM_i3, eM_bt, eq_eP, ne_eP, eq_lP, ne_lP, eq_eM, ne_eM, eq_lM, ne_lM, cmp_strN, cmp_strE, ev_var, ev_cst, ev_glob, ev_neg, ev_not, ev_bin, ev_cmp, ev_chain, ev_and, ev_or, ev_ite, ev_tup, ev_lst, ev_ix, ev_slice, ev_rev, ev_call, ev_blt, ev_isi, ev_comp, ev_compF, evA_n, evA_c, evA_s, evV_n, evV_c, evP_n, evP_c, evO_n, evO_s, evC_n, evC_s, evI_s, evI_1, evI_2, evI_3, evI_e, evI_z, listOf_l, zipD_l, zipD_t, es_pass, es_exp, es_set, es_setO, es_setT, es_par, es_parO, ownOf_t, evR_n, evR_f, evR_t, pS_n, pS_c, es_ite, es_whil, es_for, es_brk, es_cnt, es_frz, ess_n, ess_c, er_var, er_cst, er_glob, er_neg, er_not, er_bin, er_cmp, er_chain, er_and, er_or, er_ite, er_tup, er_lst, er_ix, er_slice, er_rev, er_call, er_blt, er_isi, er_comp, appR_o, augR_a, augR_s, frzR_o, varR_v, varR_o, retR_o, retR_v, ixR_s, ix_l, ix_t, bT_ok, sT_ok, qT_nx, qT_rt, qT_br, qT_ct, qT_ex, bT_exc, sT_exc, tT_ex, es_rais, es_try, yT_nx, yT_rt, yT_br, yT_ct, yT_ex, es_clr, clrR_o, Cb_t, Cb_f, oT_s, tT_nx, tT_ct, tT_br, tT_rt, turn_nx, turn_ct, turn_br, turn_rt, datOf_dat, intOf_int, boolOf_bool, plain_eq, fresh_eq, ofBD_some, ofB_some, rOpt_some, seqOf_l, seqOf_t, lit_int, lit_str, lit_bool, lit_none, wp_ok, wp_bind, wps_sr, wps_seq, wps_tT, wps_nx, wps_rt, wps_br, wps_ct, List.getElem?_cons_zero, List.getElem?_cons_succ, List.set_cons_zero, List.set_cons_succ, List.map_cons, List.map_nil, Nat.reduceSub, List.replicate_succ, List.replicate_zero, List.cons_append, List.nil_append, List.append_nil, putVals, bt_nm, bt_t, bt_l, btT_s, bts_n, bts_c, wipeE, bin_int_add, bin_int_sub, cmp_int_eq, cmp_int_ne, cmp_int_lt, cmp_int_le, cmp_int_gt, cmp_int_ge, ix_0, ix_1, ix_2, ix_3, ix_4, ix_5, ix_6, ix_7, ix_m1, blt_absI, blt_intI, blt_tupL, blt_tupT, blt_lstL, blt_lstT, blt_lenL, blt_lenT, blt_lenLm, blt_lenTm, blt_min2, blt_max2, blt_min3, blt_max3, isi_n, isi_b, isi_i, isi_s, isi_l, isi_t, fits_0, fits_1, fits_2, fits_3, fits_4, fits_5, fits_6, fits_7, fits_8, fits_9, fits_10, fits_11, fits_12, fits_13, fits_14, fits_15, fits_16, fitsS_0, fitsS_1, fitsS_2, fitsS_3, fitsS_4, List.length_cons, List.length_nil, Nat.zero_add, Nat.reduceAdd, Bool.not_true, Bool.not_false, decide_true, decide_false, Int.reduceNeg, Int.reduceSub, Int.reduceAdd, Int.reduceLT, Int.reduceLE, Int.reduceEq, Int.reduceMul])
def n__law_draw_word : List Str := ["_law_source", "_law_many", "_law_most", "_law_found", "_law_lap"]
def b__law_draw_word_2 : Sms := (.cons (.ret (.blt .tuple (.cons (.var 3) .nil))) .nil)
def b__law_draw_word_1a : Sms := (.cons (.app 3 (.tup (.cons (.call "_law_pick" f__law_pick (.cons (.var 0) (.cons (.var 1) .nil))) (.cons (.ix (.lst (.cons (.cst (.int 1)) (.cons (.bin .sub (.cst (.int 0)) (.cst (.int 1))) .nil))) (.call "_law_pick" f__law_pick (.cons (.var 0) (.cons (.cst (.int 2)) .nil)))) .nil)))) .nil)
def b__law_draw_word_1 : Sms := (.cons (.forr (.nm 4) (.rng1 (.call "_law_pick" f__law_pick (.cons (.var 0) (.cons (.bin .add (.var 2) (.cst (.int 1))) .nil)))) b__law_draw_word_1a) b__law_draw_word_2)
def b__law_draw_word : Sms := (.cons (.set 3 true (.lst .nil)) b__law_draw_word_1)
def f__law_draw_word : Fn := fnOf 3 5 b__law_draw_word
def r__law_draw_word : List Req := [.non "range", .fn "_law_pick" f__law_pick, .non "tuple"]
theorem q__law_draw_word : rqSs b__law_draw_word = [0, 1, 1, 1, 2].map fun i => r__law_draw_word.getD i (.non "") := rfl
def n_is_letter : List Str := ["value", "many", "one"]
def b_is_letter_1 : Sms := (.cons (.ret (.and (.chain .le .lt (.cst (.int 0)) (.ix (.var 0) (.cst (.int 0))) (.var 1)) (.cmp .isIn (.ix (.var 0) (.cst (.int 1))) (.tup (.cons (.cst (.int 1)) (.cons (.neg (.cst (.int 1))) .nil)))))) .nil)
def b_is_letter_0a : Sms := (.cons (.ret (.cst (.bool false))) .nil)
def b_is_letter : Sms := (.cons (.ite (.or (.not (.isi (.var 0) ["tuple"])) (.or (.cmp .ne (.blt .len (.cons (.var 0) .nil)) (.cst (.int 2))) (.not (.blt .all (.cons (.comp (.call "is_number" f_is_number (.cons (.var 2) .nil)) [("one", 2)] (.nm 2) (.seq (.var 0)) .non) .nil))))) b_is_letter_0a .nil) b_is_letter_1)
def f_is_letter : Fn := fnOf 2 3 b_is_letter
def r_is_letter : List Req := [.non "isinstance", .non "tuple", .non "len", .non "all", .fn "is_number" f_is_number]
theorem q_is_letter : rqSs b_is_letter = [0, 1, 2, 3, 4].map fun i => r_is_letter.getD i (.non "") := rfl
def n_is_word : List Str := ["value", "many", "one"]
def b_is_word : Sms := (.cons (.ret (.and (.isi (.var 0) ["tuple"]) (.blt .all (.cons (.comp (.call "is_letter" f_is_letter (.cons (.var 2) (.cons (.var 1) .nil))) [("one", 2)] (.nm 2) (.seq (.var 0)) .non) .nil)))) .nil)
def f_is_word : Fn := fnOf 2 3 b_is_word
def r_is_word : List Req := [.non "isinstance", .non "tuple", .non "all", .fn "is_letter" f_is_letter]
theorem q_is_word : rqSs b_is_word = [0, 1, 2, 3].map fun i => r_is_word.getD i (.non "") := rfl
def n_back_letter : List Str := ["letter"]
def b_back_letter : Sms := (.cons (.ret (.tup (.cons (.ix (.var 0) (.cst (.int 0))) (.cons (.neg (.ix (.var 0) (.cst (.int 1)))) .nil)))) .nil)
def f_back_letter : Fn := fnOf 1 1 b_back_letter
def r_back_letter : List Req := []
theorem q_back_letter : rqSs b_back_letter = ([] : List Nat).map fun i => r_back_letter.getD i (.non "") := rfl
def n_back_word : List Str := ["word", "letter"]
def b_back_word : Sms := (.cons (.ret (.blt .tuple (.cons (.comp (.call "back_letter" f_back_letter (.cons (.var 1) .nil)) [("letter", 1)] (.nm 1) (.seq (.rev (.var 0))) .non) .nil))) .nil)
def f_back_word : Fn := fnOf 1 2 b_back_word
def r_back_word : List Req := [.non "tuple", .fn "back_letter" f_back_letter]
theorem q_back_word : rqSs b_back_word = [0, 1].map fun i => r_back_word.getD i (.non "") := rfl
def n_shortened : List Str := ["word", "found", "letter"]
def b_shortened_2 : Sms := (.cons (.ret (.blt .tuple (.cons (.var 1) .nil))) .nil)
def b_shortened_1a_0a : Sms := (.cons (.popd 1) .nil)
def b_shortened_1a_0b : Sms := (.cons (.app 1 (.var 2)) .nil)
def b_shortened_1a : Sms := (.cons (.ite (.and (.cmp .ne (.var 1) (.lst .nil)) (.cmp .eq (.ix (.var 1) (.neg (.cst (.int 1)))) (.call "back_letter" f_back_letter (.cons (.var 2) .nil)))) b_shortened_1a_0a b_shortened_1a_0b) .nil)
def b_shortened_1 : Sms := (.cons (.forr (.nm 2) (.seq (.var 0)) b_shortened_1a) b_shortened_2)
def b_shortened : Sms := (.cons (.set 1 true (.lst .nil)) b_shortened_1)
def f_shortened : Fn := fnOf 1 3 b_shortened
def r_shortened : List Req := [.fn "back_letter" f_back_letter, .non "tuple"]
theorem q_shortened : rqSs b_shortened = [0, 1].map fun i => r_shortened.getD i (.non "") := rfl
def n_joined : List Str := ["one", "other"]
def b_joined : Sms := (.cons (.ret (.call "shortened" f_shortened (.cons (.bin .add (.var 0) (.var 1)) .nil))) .nil)
def f_joined : Fn := fnOf 2 2 b_joined
def r_joined : List Req := [.fn "shortened" f_shortened]
theorem q_joined : rqSs b_joined = [0].map fun i => r_joined.getD i (.non "") := rfl
/-! words: letters (number, 1 or -1) -/
abbrev Wd := List (Int × Int)
abbrev eW (w : Wd) : MP.D := .tuple (w.map eP)
def inv (x : Int × Int) : Int × Int := (x.1, -x.2)
theorem inv_inv (x : Int × Int) : inv (inv x) = x := by unfold inv; simp
/-- the stack, its last letter first -/
def rs (s : Wd) (x : Int × Int) : Wd := match s with
  | [] => [x]
  | y :: t => if y = inv x then t else x :: y :: t
def red (w : Wd) : Wd := (w.foldl rs []).reverse
def binv (w : Wd) : Wd := w.reverse.map inv
/-- no letter beside its back -/
def Rd : Wd → Prop
  | x :: y :: t => y ≠ inv x ∧ Rd (y :: t)
  | _ => True
theorem rd_nil : Rd [] := True.intro
theorem Rd.tail {x : Int × Int} {t : Wd} (h : Rd (x :: t)) : Rd t := by
  cases t with
  | nil => exact trivial
  | cons y t => exact h.2
theorem rd_rs {s : Wd} {x : Int × Int} (h : Rd s) : Rd (rs s x) := by
  cases s with
  | nil => exact trivial
  | cons y t =>
    unfold rs
    simp only
    split
    · exact h.tail
    · exact ⟨‹_›, h⟩
theorem rd_fold {w : Wd} : ∀ {s : Wd}, Rd s → Rd (w.foldl rs s) := by
  induction w with
  | nil => exact fun h => h
  | cons x w ih => exact fun h => ih (rd_rs h)
theorem rs_back {s : Wd} {x : Int × Int} (h : Rd s) : rs (rs s x) (inv x) = s := by
  cases s with
  | nil => simp [rs, inv_inv]
  | cons y t =>
    by_cases e : y = inv x
    · have e1 : rs (y :: t) x = t := by simp [rs, e]
      rw [e1]
      cases t with
      | nil => simp [rs, e]
      | cons z t =>
        have := h.1
        rw [e, inv_inv] at this
        simp [rs, inv_inv, this, e]
    · have e1 : rs (y :: t) x = x :: y :: t := by simp [rs, e]
      rw [e1]
      simp [rs, inv_inv]
theorem rs_back2 {s : Wd} {x y : Int × Int} (h : Rd s) (e : y = inv x) : rs (rs s x) y = s := by rw [e, rs_back h]
/-- what stands beside its back may be left out -/
theorem red_cut {a b : Wd} {x y : Int × Int} (e : y = inv x) : red (a ++ x :: y :: b) = red (a ++ b) := by
  unfold red
  rw [List.foldl_append, List.foldl_append, List.foldl_cons, List.foldl_cons, rs_back2 (rd_fold rd_nil) e]
theorem rd_id {w : Wd} : ∀ {s : Wd}, Rd (w.reverse ++ s) → w.foldl rs s = w.reverse ++ s := by
  induction w with
  | nil => intro s _; simp
  | cons x w ih =>
    intro s h
    rw [List.reverse_cons, List.append_assoc] at h
    have h2 : ∀ {u v : Wd}, Rd (u ++ v) → Rd v := by
      intro u
      induction u with
      | nil => exact fun h => h
      | cons a u ih2 => exact fun h => ih2 h.tail
    have hs : Rd (x :: s) := h2 h
    have e : rs s x = x :: s := by
      cases s with
      | nil => rfl
      | cons y t => simp [rs, hs.1]
    have h : Rd (w.reverse ++ (x :: s)) := h
    rw [List.foldl_cons, e, ih h, List.reverse_cons, List.append_assoc]
    rfl
theorem rd_app {u v : Wd} {x : Int × Int} : Rd (u ++ [x]) → Rd (x :: v) → Rd (u ++ x :: v) := by
  induction u with
  | nil => exact fun _ h => h
  | cons a u ih =>
    intro h1 h2
    cases u with
    | nil => exact ⟨h1.1, h2⟩
    | cons b u => exact ⟨h1.1, ih h1.2 h2⟩
theorem rd_rev {w : Wd} (h : Rd w) : Rd w.reverse := by
  induction w with
  | nil => exact trivial
  | cons x w ih =>
    rw [List.reverse_cons]
    cases w with
    | nil => exact trivial
    | cons y t =>
      have i := ih h.2
      rw [List.reverse_cons] at i ⊢
      rw [List.append_assoc]
      refine rd_app i ⟨fun e => h.1 ?_, trivial⟩
      rw [e, inv_inv]
theorem red_id {w : Wd} (h : Rd w) : red w = w := by
  unfold red
  rw [rd_id (by rw [List.append_nil]; exact rd_rev h), List.append_nil, List.reverse_reverse]
theorem red_rd (w : Wd) : Rd (red w) := rd_rev (rd_fold rd_nil)
theorem red_red (w : Wd) : red (red w) = red w := red_id (red_rd w)
theorem fold_binv {w : Wd} : ∀ {s : Wd}, Rd s → (w ++ binv w).foldl rs s = s := by
  induction w with
  | nil => intro s _; rfl
  | cons x w ih =>
    intro s h
    have e : binv (x :: w) = binv w ++ [inv x] := by simp [binv]
    rw [e, List.cons_append, List.foldl_cons, ← List.append_assoc, List.foldl_append, ih (rd_rs h)]
    simp [rs_back h]
theorem red_binv (w : Wd) : red (w ++ binv w) = [] := by
  unfold red
  rw [fold_binv rd_nil]
  rfl
theorem rs_mem {s : Wd} {x z : Int × Int} (h : z ∈ rs s x) : z ∈ s ∨ z = x := by
  cases s with
  | nil => simp [rs] at h; exact .inr h
  | cons y t =>
    unfold rs at h
    simp only at h
    split at h
    · exact .inl (List.mem_cons_of_mem _ h)
    · rcases List.mem_cons.mp h with q | q
      · exact .inr q
      · exact .inl q
theorem red_mem {w : Wd} {z : Int × Int} (h : z ∈ red w) : z ∈ w := by
  have : ∀ {w s : Wd}, z ∈ w.foldl rs s → z ∈ s ∨ z ∈ w := by
    intro w
    induction w with
    | nil => intro s h; exact .inl h
    | cons x w ih =>
      intro s h
      rcases ih h with q | q
      · rcases rs_mem q with q | q
        · exact .inl q
        · exact .inr (q ▸ List.mem_cons_self)
      · exact .inr (List.mem_cons_of_mem _ q)
  have := this (List.mem_reverse.mp h)
  simpa using this
theorem rs_len {s : Wd} {x : Int × Int} : (rs s x).length ≤ s.length + 1 := by
  cases s with
  | nil => simp [rs]
  | cons y t =>
    unfold rs
    simp only
    split <;> simp <;> omega
theorem red_len (w : Wd) : (red w).length ≤ w.length := by
  have : ∀ {w s : Wd}, (w.foldl rs s).length ≤ s.length + w.length := by
    intro w
    induction w with
    | nil => intro s; exact Nat.le_refl _
    | cons x w ih =>
      intro s
      have := ih (s := rs s x)
      have := rs_len (s := s) (x := x)
      simp only [List.foldl_cons, List.length_cons]
      omega
  have := this (w := w) (s := [])
  unfold red
  rw [List.length_reverse]
  simpa using this
/-- letters of so many moves -/
def Lok (n : Int) (x : Int × Int) : Prop := 0 ≤ x.1 ∧ x.1 < n ∧ (x.2 = 1 ∨ x.2 = -1)
theorem Lok.inv {n : Int} {x : Int × Int} (h : Lok n x) : Lok n (inv x) := ⟨h.1, h.2.1, by
  unfold MK.inv
  rcases h.2.2 with e | e <;> simp [e]⟩
def Wok (n : Int) (w : Wd) : Prop := ∀ x ∈ w, Lok n x
theorem Wok.red {n : Int} {w : Wd} (h : Wok n w) : Wok n (red w) := fun x hx => h x (red_mem hx)
theorem Wok.app {n : Int} {v w : Wd} (h : Wok n v) (q : Wok n w) : Wok n (v ++ w) := fun x hx => (List.mem_append.mp hx).elim (h x) (q x)
theorem Wok.binv {n : Int} {w : Wd} (h : Wok n w) : Wok n (binv w) := by
  intro x hx
  obtain ⟨y, hy, rfl⟩ := List.mem_map.mp hx
  exact (h y (List.mem_reverse.mp hy)).inv
theorem binv_len (w : Wd) : (binv w).length = w.length := by simp [binv]
/-! the program's -/
theorem tW_fl (q : Wd) : Fl 2 (eW q) := .tup (.map fun a _ => eP_fl a)
theorem tW_inj {a b : Wd} : eW a = eW b ↔ a = b := by
  unfold eW
  rw [PyData.tuple.injEq]
  constructor
  · intro h
    have : ∀ {a b : Wd}, a.map eP = b.map eP → a = b := by
      intro a
      induction a with
      | nil =>
        intro b h
        cases b with
        | nil => rfl
        | cons y b => simp at h
      | cons x a ih =>
        intro b h
        cases b with
        | nil => simp at h
        | cons y b =>
          simp only [List.map_cons, List.cons.injEq] at h
          rw [eP_inj.mp h.1, ih h.2]
    exact this h
  · intro h
    rw [h]
theorem eq_eW (a b : Wd) : cmpD .eq (.tuple (a.map eP)) (.tuple (b.map eP)) = some (decide (a = b)) := (tW_fl a).eq (tW_fl b) (by decide) (by decide) tW_inj
theorem ne_eW (a b : Wd) : cmpD .ne (.tuple (a.map eP)) (.tuple (b.map eP)) = some (!decide (a = b)) := (tW_fl a).ne (tW_fl b) (by decide) (by decide) tW_inj
section
variable {st : Store} {n : Int} {x : Int × Int} {v w : Wd}
theorem bl_ok (st : Store) (x : Int × Int) : f_back_letter [.dat (eP x)] st = .ok ⟨false, .dat (eP (inv x))⟩ st := by
  refine fn_eq rfl ?_
  simp! [b_back_letter]
  rfl
theorem es_popd {env : MP.Env} {i : Nat} {l : List MP.D} {a : MP.D} (h : env[i]? = some (.own (.list (l ++ [a])))) : evS (.popd i) env st = .nx (List.set env i (.own (.list l))) st := by
  show (match env[i]? with
    | some (.own (.list xs)) => (match xs.getLast? with
      | some _ => SR.nx (List.set env i (.own (.list xs.dropLast))) st
      | none => .no)
    | _ => .no) = _
  rw [h]
  simp
theorem ne_nil_r (l : Wd) (a : Int × Int) : cmpD .ne (.list (l.map eP ++ [eP a])) (.list []) = some true := by
  have := ne_lP (l ++ [a]) []
  simpa using this
theorem short_ok (st : Store) (w : Wd) (hl : w.length ≤ 1000) : f_shortened [.dat (.tuple (w.map eP))] st = .ok ⟨false, .dat (.tuple ((red w).map eP))⟩ st := by
  refine Wp.is (wp_fn rfl ?_)
  simp! [b_shortened, b_shortened_1]
  refine wps_forT eP (fun r env st' => ∃ (s : Wd) (s2 : Slot), s.length + r.length ≤ 1000 ∧ r.foldl rs s = w.foldl rs [] ∧ st' = st ∧ env = [.val (.dat (.tuple (w.map eP))), .own (.list (s.reverse.map eP)), s2]) ?_ ?_ w _ _ ⟨[], .un, by simpa using hl, rfl, rfl, rfl⟩
  · rintro a r env st' ⟨s, s2, hz, hf, rfl, rfl⟩
    refine ⟨_, rfl, ?_⟩
    simp only [List.length_cons] at hz
    rw [List.foldl_cons] at hf
    cases s with
    | nil =>
      simp! [b_shortened_1a, List.reverse_nil]
      have c : cmpD .ne (.list []) (.list []) = some false := rfl
      simp! [c, b_shortened_1a_0b]
      have ap := fun st => es_app (i := 1) (e := .var 2) (env := [.val (.dat (.tuple (w.map eP))), .own (.list []), .val (.dat (eP a))]) (st := st) ⟨[], rfl⟩
      simp! [ap]
      refine ⟨[a], _, ?_, hf, trivial, rfl⟩
      simp at hz ⊢
      omega
    | cons y t =>
      have e1 : (y :: t).reverse.map eP = t.reverse.map eP ++ [eP y] := by simp
      rw [e1]
      simp! [b_shortened_1a, ne_nil_r, ix_m1, bl_ok]
      by_cases q : y = inv a
      · have pd := fun st => es_popd (i := 1) (st := st) (env := [.val (.dat (.tuple (w.map eP))), .own (.list (t.reverse.map eP ++ [eP y])), .val (.dat (eP a))]) rfl
        simp! [decide_eq_true q, b_shortened_1a_0a, pd]
        have : rs (y :: t) a = t := by simp [rs, q]
        rw [this] at hf
        simp only [List.length_cons] at hz
        exact ⟨t, _, by omega, hf, trivial, rfl⟩
      · have ap := fun st => es_app (i := 1) (e := .var 2) (env := [.val (.dat (.tuple (w.map eP))), .own (.list (t.reverse.map eP ++ [eP y])), .val (.dat (eP a))]) (st := st) ⟨_, rfl⟩
        have fz : fitsS (t.reverse.map eP ++ [eP y]).length = true := fitsS_of (by simp at hz ⊢; omega)
        simp! [decide_eq_false q, b_shortened_1a_0b, ap, fz]
        have : rs (y :: t) a = a :: y :: t := by simp [rs, q]
        rw [this] at hf
        have e2 : (a :: y :: t).reverse.map eP = t.reverse.map eP ++ [eP y] ++ [eP a] := by simp
        refine ⟨a :: y :: t, .val (.dat (eP a)), by simp only [List.length_cons] at hz ⊢; omega, hf, trivial, ?_⟩
        rw [e2]
  · rintro env st' ⟨s, s2, hz, hf, rfl, rfl⟩
    rw [List.foldl_nil] at hf
    simp! [b_shortened_2]
    refine ⟨?_, rfl⟩
    unfold red
    rw [← hf]
theorem bin_add_t {a b : List MP.D} (h : a.length + b.length ≤ 2 ^ 20) : bin .add (.tuple a) (.tuple b) = some (false, .tuple (a ++ b)) := by
  show (bif fits (a.length + b.length) then some (false, PyData.tuple (a ++ b)) else none) = _
  rw [show fits (a.length + b.length) = true from decide_eq_true (Nat.le_trans h (by decide))]
  rfl
theorem add_w (h : v.length + w.length ≤ 1000) : bin .add (.tuple (v.map eP)) (.tuple (w.map eP)) = some (false, .tuple ((v ++ w).map eP)) := by
  rw [bin_add_t (by simp; omega), List.map_append]
theorem joined_ok (st : Store) (h : v.length + w.length ≤ 1000) : f_joined [.dat (.tuple (v.map eP)), .dat (.tuple (w.map eP))] st = .ok ⟨false, .dat (.tuple ((red (v ++ w)).map eP))⟩ st := by
  refine fn_eq rfl ?_
  simp! [b_joined, add_w h, short_ok st (v ++ w) (by simp; omega)]
theorem rev_w : revD (.tuple (w.map eP)) = some (false, .tuple (w.reverse.map eP)) := by
  show some (false, PyData.tuple (w.map eP).reverse) = _
  rw [List.map_reverse]
theorem back_word_ok (st : Store) (w : Wd) (hl : w.length ≤ 1000) : f_back_word [.dat (.tuple (w.map eP))] st = .ok ⟨false, .dat (.tuple ((binv w).map eP))⟩ st := by
  refine Wp.is (wp_fn rfl ?_)
  simp! [b_back_word, rev_w]
  refine wp_compM (xs := w.reverse) eP (fun x => eP (inv x)) (fun x hx => ?_) (by simp; omega) ?_
  · simp! [bl_ok]
    simp
  · simp!
    refine ⟨?_, rfl⟩
    simp [binv]
/-! what is a letter -/
theorem wc2 : ((2 : Nat) : Int) = 2 := rfl
theorem is_letter_ok (st : Store) (h : Lok n x) : f_is_letter [.dat (eP x), .dat (.int n)] st = .ok ⟨false, .dat (.bool true)⟩ st := by
  obtain ⟨h1, h2, h3⟩ := h
  have i : cmpD .isIn (.int x.2) (.tuple [.int 1, .int (-1)]) = some true := by
    rcases h3 with e | e <;> rw [e] <;> rfl
  have al : bltF .all [.list [.bool true, .bool true]] = some (false, .bool true) := rfl
  refine Wp.is (wp_fn rfl ?_)
  simp! [b_is_letter, eP, beq_self_eq_true, wc2]
  refine wp_compM (xs := [x.1, x.2]) PyData.int (fun _ => .bool true) (fun x hx => ?_) (by simp) ?_
  · simp! [isnum_int]
    simp
  simp! [al, b_is_letter_1, decide_eq_true h1, decide_eq_true h2, i]
  simp [Is]
/-- whether things are letters, told one by one -/
theorem is_word_t (st : Store) (xs : List (MP.D × Bool)) (hl : xs.length ≤ 2000) (h : ∀ x ∈ xs, ∀ st, f_is_letter [.dat x.1, .dat (.int n)] st = .ok ⟨false, .dat (.bool x.2)⟩ st) : f_is_word [.dat (.tuple (xs.map fun x => x.1)), .dat (.int n)] st = .ok ⟨false, .dat (.bool (xs.all fun x => x.2))⟩ st := by
  refine Wp.is (wp_fn rfl ?_)
  simp! [b_is_word, beq_self_eq_true]
  refine wp_compM (xs := xs) (fun x => x.1) (fun x => .bool x.2) (fun x hx => ?_) (by omega) ?_
  · simp! [h x hx]
    simp
  · have := all_map (fun x : MP.D × Bool => x.2) xs
    simp! [this]
    exact ⟨rfl, rfl⟩
theorem is_word_ok (st : Store) (h : Wok n w) (hl : w.length ≤ 1000) : f_is_word [.dat (.tuple (w.map eP)), .dat (.int n)] st = .ok ⟨false, .dat (.bool true)⟩ st := by
  have := is_word_t (n := n) st (w.map fun x => (eP x, true)) (by simp; omega) (fun x hx st => by
    obtain ⟨y, hy, rfl⟩ := List.mem_map.mp hx
    exact is_letter_ok st (h y hy))
  rw [List.map_map] at this
  have e : (w.map fun x => (eP x, true)).all (fun x => x.2) = true := by simp
  rw [e] at this
  exact this
end
section
variable {st : Store}
theorem wp_pickW {n : Int} {Q : RV → Store → Prop} (h : IsSrc st) (h1 : 1 ≤ n) (hn : n < 2 ^ 64) (k : ∀ k st', IsSrc st' → 0 ≤ k → k < n → Q ⟨false, .dat (.int k)⟩ st') : Wp (f__law_pick [.loc 1, .dat (.int n)] st) Q := by
  have hl : n.natAbs.log2 < 9000 := by
    have : n.natAbs.log2 < 64 := (Nat.log2_lt (by omega)).mpr (by omega)
    omega
  obtain ⟨x, st', e, a1, a2, a3, a4⟩ := pick_ok n hl st h
  rw [e]
  refine ⟨k x st' a1 a2 ?_⟩
  by_cases q : 2 ≤ n
  · exact a3 q
  · rw [a4 (by omega)]
    omega
theorem okRw {i : Int} (h0 : 0 ≤ i) (h1 : i ≤ 100000) : rngOk i = true := by
  unfold rngOk
  rw [decide_eq_true (by omega), decide_eq_true (by omega)]
  rfl
theorem wp_word {n m : Int} {Q : RV → Store → Prop} (h : IsSrc st) (h1 : 1 ≤ n) (hn : n < 2 ^ 60) (m1 : 1 ≤ m) (hm : m ≤ 1000) (k : ∀ w st', IsSrc st' → Wok n w → (w.length : Int) ≤ m → Q ⟨false, .dat (.tuple (w.map eP))⟩ st') : Wp (f__law_draw_word [.loc 1, .dat (.int n), .dat (.int m)] st) Q := by
  refine wp_fn rfl ?_
  simp! [b__law_draw_word, b__law_draw_word_1]
  refine wp_pick h (by omega) (by omega) fun x st h x0 x1 => ?_
  simp! [okRw (i := x) x0 (by omega)]
  refine wps_forR (fun j env st => IsSrc st ∧ ∃ (w : Wd) (s4 : Slot), j = w.length ∧ (w.length : Int) ≤ x ∧ Wok n w ∧ env = [.val (.loc 1), .val (.dat (.int n)), .val (.dat (.int m)), .own (.list (w.map eP)), s4]) ?_ ?_ _ 0 _ _ rfl ⟨h, [], _, rfl, by simpa using x0, by intro y hy; simp at hy, rfl⟩
  · rintro j env st hj ⟨h, w, s4, rfl, hl, hw, rfl⟩
    refine ⟨_, rfl, ?_⟩
    have fz : fitsS (w.map eP).length = true := fitsS_of (by simp; omega)
    simp! [b__law_draw_word_1a]
    rw [es_app ⟨_, rfl⟩]
    simp!
    refine wp_pickW h h1 (by omega) fun y st h y0 y1 => ?_
    simp!
    refine wp_pick_ix h (by decide) (by decide) (by simp) fun d hd st h => ?_
    obtain ⟨s, rfl, hs⟩ : ∃ s : Int, d = .int s ∧ (s = 1 ∨ s = -1) := by
      simp at hd
      rcases hd with rfl | rfl
      · exact ⟨1, rfl, .inl rfl⟩
      · exact ⟨-1, rfl, .inr rfl⟩
    simp! [fz]
    refine ⟨h, w ++ [(y, s)], _, by simp, by simp; omega, ?_, by rw [List.map_append]; rfl⟩
    intro z hz
    rcases List.mem_append.mp hz with q | q
    · exact hw z q
    · rw [List.mem_singleton.mp q]
      exact ⟨y0, y1, hs⟩
  · rintro j env st hj ⟨h, w, s4, rfl, hl, hw, rfl⟩
    simp! [b__law_draw_word_2]
    exact k w st h hw (by omega)
end
end MK

namespace MK
open PySem MP
def n__law_no_words : List Str := ["_law_word", "_law_many", "_law_found"]
def b__law_no_words_2 : Sms := (.cons (.ret (.bin .add (.var 2) (.lst (.cons (.bin .add (.var 0) (.tup (.cons (.cst .none) .nil))) (.cons (.bin .add (.tup (.cons (.tup (.cons (.cst (.int 0)) (.cons (.tup (.cons (.cst (.int 1)) .nil)) .nil))) .nil)) (.var 0)) (.cons (.blt .list (.cons (.var 0) .nil)) .nil)))))) .nil)
def b__law_no_words_1 : Sms := (.cons (.set 2 false (.bin .add (.var 2) (.lst (.cons (.bin .add (.var 0) (.tup (.cons (.tup (.cons (.cst (.int 0)) (.cons (.cst (.bool true)) .nil))) .nil))) (.cons (.bin .add (.var 0) (.tup (.cons (.tup (.cons (.cst (.bool false)) (.cons (.cst (.int 1)) .nil))) .nil))) (.cons (.bin .add (.var 0) (.tup (.cons (.tup (.cons (.cst (.int 0)) (.cons (.cst (.int 1)) (.cons (.cst (.int 1)) .nil)))) .nil))) (.cons (.bin .add (.var 0) (.tup (.cons (.lst (.cons (.cst (.int 0)) (.cons (.cst (.int 1)) .nil))) .nil))) (.cons (.bin .add (.tup (.cons (.tup (.cons (.cst .none) (.cons (.cst (.int 1)) .nil))) .nil)) (.var 0)) .nil)))))))) b__law_no_words_2)
def b__law_no_words : Sms := (.cons (.set 2 false (.lst (.cons (.cst .none) (.cons (.bin .add (.blt .list (.cons (.var 0) .nil)) (.lst (.cons (.cst (.int 1)) .nil))) (.cons (.cst (.int 0)) (.cons (.cst (.str "a")) (.cons .dic0 (.cons (.tup (.cons (.cst (.int 0)) (.cons (.cst (.int 1)) .nil))) (.cons (.tup (.cons (.tup (.cons (.cst (.int 0)) .nil)) .nil)) (.cons (.tup (.cons (.tup (.cons (.cst (.int 0)) (.cons (.cst (.int 0)) .nil))) .nil)) (.cons (.tup (.cons (.tup (.cons (.cst (.int 0)) (.cons (.cst (.int 2)) .nil))) .nil)) (.cons (.tup (.cons (.tup (.cons (.var 1) (.cons (.cst (.int 1)) .nil))) .nil)) (.cons (.tup (.cons (.tup (.cons (.bin .sub (.cst (.int 0)) (.cst (.int 1))) (.cons (.cst (.int 1)) .nil))) .nil)) .nil))))))))))))) b__law_no_words_1)
def f__law_no_words : Fn := fnOf 2 3 b__law_no_words
def r__law_no_words : List Req := [.non "list"]
theorem q__law_no_words : rqSs b__law_no_words = [0, 0].map fun i => r__law_no_words.getD i (.non "") := rfl
def n__law_spots : List Str := ["_law_word", "_law_k"]
def b__law_spots : Sms := (.cons (.ret (.comp (.var 1) [("_law_k", 1)] (.nm 1) (.rng1 (.bin .sub (.blt .len (.cons (.var 0) .nil)) (.cst (.int 1)))) (.som (.and (.cmp .eq (.ix (.ix (.var 0) (.var 1)) (.cst (.int 0))) (.ix (.ix (.var 0) (.bin .add (.var 1) (.cst (.int 1)))) (.cst (.int 0)))) (.cmp .ne (.ix (.ix (.var 0) (.var 1)) (.cst (.int 1))) (.ix (.ix (.var 0) (.bin .add (.var 1) (.cst (.int 1)))) (.cst (.int 1)))))))) .nil)
def f__law_spots : Fn := fnOf 1 2 b__law_spots
def r__law_spots : List Req := [.non "range", .non "len"]
theorem q__law_spots : rqSs b__law_spots = [0, 1].map fun i => r__law_spots.getD i (.non "") := rfl
def n__law_short : List Str := ["_law_source", "_law_word", "_law_lap", "_law_spots_here", "_law_k"]
def b__law_short_1 : Sms := (.cons (.ret (.var 1)) .nil)
def b__law_short_0a_1a_1 : Sms := (.cons (.set 1 false (.bin .add (.slice (.var 1) .non (.som (.var 4))) (.slice (.var 1) (.som (.bin .add (.var 4) (.cst (.int 2)))) .non))) .nil)
def b__law_short_0a_1a : Sms := (.cons (.set 4 false (.ix (.var 3) (.call "_law_pick" f__law_pick (.cons (.var 0) (.cons (.blt .len (.cons (.var 3) .nil)) .nil))))) b__law_short_0a_1a_1)
def b__law_short_0a_1 : Sms := (.cons (.ite (.cmp .ne (.var 3) (.lst .nil)) b__law_short_0a_1a .nil) .nil)
def b__law_short_0a : Sms := (.cons (.set 3 false (.call "_law_spots" f__law_spots (.cons (.var 1) .nil))) b__law_short_0a_1)
def b__law_short : Sms := (.cons (.forr (.nm 2) (.rng1 (.blt .len (.cons (.var 1) .nil))) b__law_short_0a) b__law_short_1)
def f__law_short : Fn := fnOf 2 5 b__law_short
def r__law_short : List Req := [.non "range", .non "len", .fn "_law_spots" f__law_spots, .fn "_law_pick" f__law_pick]
theorem q__law_short : rqSs b__law_short = [0, 1, 2, 3, 1].map fun i => r__law_short.getD i (.non "") := rfl
def n_law : List Str := ["_law_script", "_law_source", "_law_lap", "_law_many", "_law_one", "_law_other", "_law_due", "_law_turned", "_law_value", "_law_k", "_law_s"]
def b_law_2 : Sms := (.cons (.ret (.cst (.bool true))) .nil)
def b_law_1a_7a_0a : Sms := (.cons (.ret (.cst (.bool false))) .nil)
def b_law_1a_7a : Sms := (.cons (.ite (.cmp .ne (.blt .repr (.cons (.call "is_word" f_is_word (.cons (.var 8) (.cons (.var 3) .nil))) .nil)) (.cst (.str "False"))) b_law_1a_7a_0a .nil) .nil)
def b_law_1a_7 : Sms := (.cons (.forr (.nm 8) (.seq (.call "_law_no_words" f__law_no_words (.cons (.var 4) (.cons (.var 3) .nil)))) b_law_1a_7a) .nil)
def b_law_1a_6a : Sms := (.cons (.ret (.cst (.bool false))) .nil)
def b_law_1a_6 : Sms := (.cons (.ite (.or (.not (.call "is_word" f_is_word (.cons (.var 6) (.cons (.var 3) .nil)))) (.or (.call "is_word" f_is_word (.cons (.bin .add (.var 4) (.tup (.cons (.tup (.cons (.var 3) (.cons (.cst (.int 1)) .nil))) .nil))) (.cons (.var 3) .nil))) (.not (.call "is_word" f_is_word (.cons (.tup .nil) (.cons (.var 3) .nil)))))) b_law_1a_6a .nil) b_law_1a_7)
def b_law_1a_5a : Sms := (.cons (.ret (.cst (.bool false))) .nil)
def b_law_1a_5 : Sms := (.cons (.ite (.or (.cmp .ne (.call "joined" f_joined (.cons (.var 4) (.cons (.var 5) .nil))) (.call "_law_short" f__law_short (.cons (.var 1) (.cons (.bin .add (.var 4) (.var 5)) .nil)))) (.or (.cmp .ne (.call "shortened" f_shortened (.cons (.var 6) .nil)) (.var 6)) (.cmp .ne (.call "joined" f_joined (.cons (.var 4) (.cons (.var 7) .nil))) (.tup .nil)))) b_law_1a_5a .nil) b_law_1a_6)
def b_law_1a_4a : Sms := (.cons (.ret (.cst (.bool false))) .nil)
def b_law_1a_4 : Sms := (.cons (.ite (.or (.cmp .ne (.blt .repr (.cons (.call "is_word" f_is_word (.cons (.var 4) (.cons (.var 3) .nil))) .nil)) (.cst (.str "True"))) (.or (.cmp .ne (.call "back_word" f_back_word (.cons (.var 4) .nil)) (.var 7)) (.cmp .ne (.call "shortened" f_shortened (.cons (.var 4) .nil)) (.var 6)))) b_law_1a_4a .nil) b_law_1a_5)
def b_law_1a_3 : Sms := (.cons (.par [6, 7] (.cons (.call "_law_short" f__law_short (.cons (.var 1) (.cons (.var 4) .nil))) (.cons (.blt .tuple (.cons (.comp (.tup (.cons (.var 9) (.cons (.bin .sub (.cst (.int 0)) (.var 10)) .nil))) [("_law_k", 9), ("_law_s", 10)] (.tup (.cons (.nm 9) (.cons (.nm 10) .nil))) (.seq (.rev (.var 4))) .non) .nil)) .nil))) b_law_1a_4)
def b_law_1a_2 : Sms := (.cons (.set 4 false (.bin .add (.var 4) (.ite (.cmp .eq (.call "_law_pick" f__law_pick (.cons (.var 1) (.cons (.cst (.int 4)) .nil))) (.cst (.int 0))) (.blt .tuple (.cons (.comp (.tup (.cons (.var 9) (.cons (.bin .sub (.cst (.int 0)) (.var 10)) .nil))) [("_law_k", 9), ("_law_s", 10)] (.tup (.cons (.nm 9) (.cons (.nm 10) .nil))) (.seq (.rev (.var 4))) .non) .nil)) (.tup .nil)))) b_law_1a_3)
def b_law_1a_1 : Sms := (.cons (.par [4, 5] (.cons (.call "_law_draw_word" f__law_draw_word (.cons (.var 1) (.cons (.var 3) (.cons (.cst (.int 8)) .nil)))) (.cons (.call "_law_draw_word" f__law_draw_word (.cons (.var 1) (.cons (.var 3) (.cons (.cst (.int 4)) .nil)))) .nil))) b_law_1a_2)
def b_law_1a : Sms := (.cons (.set 3 false (.bin .add (.cst (.int 1)) (.call "_law_pick" f__law_pick (.cons (.var 1) (.cons (.cst (.int 5)) .nil))))) b_law_1a_1)
def b_law_1 : Sms := (.cons (.forr (.nm 2) (.rng1 (.cst (.int 3))) b_law_1a) b_law_2)
def b_law : Sms := (.cons (.set 1 false (.call "_law_open_cells" f__law_open_cells (.cons (.var 0) .nil))) b_law_1)
def f_law : Fn := fnOf 1 11 b_law
def r_law : List Req := [.fn "_law_open_cells" f__law_open_cells, .non "range", .fn "_law_pick" f__law_pick, .fn "_law_draw_word" f__law_draw_word, .non "tuple", .fn "_law_short" f__law_short, .non "repr", .fn "is_word" f_is_word, .fn "back_word" f_back_word, .fn "shortened" f_shortened, .fn "joined" f_joined, .fn "_law_no_words" f__law_no_words]
theorem q_law : rqSs b_law = [0, 1, 2, 3, 3, 2, 4, 5, 4, 6, 7, 8, 9, 10, 5, 9, 10, 7, 7, 7, 11, 6, 7].map fun i => r_law.getD i (.non "") := rfl
end MK

namespace MK
open PySem MP
local macro_rules | `(tactic| simp! [$ls,*]) => `(tactic| simp only [$ls,*, eP_i0, eP_i1, eP_bt, eM_i0, eM_i1, eM_i2, eM_i3, eM_bt, eq_eP, ne_eP, eq_lP, ne_lP, eq_eM, ne_eM, eq_lM, ne_lM, cmp_strN, cmp_strE, ev_var, ev_cst, ev_glob, ev_neg, ev_not, ev_bin, ev_cmp, ev_chain, ev_and, ev_or, ev_ite, ev_tup, ev_lst, ev_ix, ev_slice, ev_rev, ev_call, ev_blt, ev_isi, ev_comp, ev_compF, evA_n, evA_c, evA_s, evV_n, evV_c, evP_n, evP_c, evO_n, evO_s, evC_n, evC_s, evI_s, evI_1, evI_2, evI_3, evI_e, evI_z, listOf_l, zipD_l, zipD_t, es_pass, es_exp, es_set, es_setO, es_setT, es_par, es_parO, ownOf_t, evR_n, evR_f, evR_t, pS_n, pS_c, es_ite, es_whil, es_for, es_brk, es_cnt, es_frz, ess_n, ess_c, er_var, er_cst, er_glob, er_neg, er_not, er_bin, er_cmp, er_chain, er_and, er_or, er_ite, er_tup, er_lst, er_ix, er_slice, er_rev, er_call, er_blt, er_isi, er_comp, appR_o, augR_a, augR_s, frzR_o, varR_v, varR_o, retR_o, retR_v, ixR_s, ix_l, ix_t, bT_ok, sT_ok, qT_nx, qT_rt, qT_br, qT_ct, qT_ex, bT_exc, sT_exc, tT_ex, es_rais, es_try, yT_nx, yT_rt, yT_br, yT_ct, yT_ex, es_clr, clrR_o, Cb_t, Cb_f, oT_s, tT_nx, tT_ct, tT_br, tT_rt, turn_nx, turn_ct, turn_br, turn_rt, datOf_dat, intOf_int, boolOf_bool, plain_eq, fresh_eq, ofBD_some, ofB_some, rOpt_some, seqOf_l, seqOf_t, lit_int, lit_str, lit_bool, lit_none, wp_ok, wp_bind, wps_sr, wps_seq, wps_tT, wps_nx, wps_rt, wps_br, wps_ct, List.getElem?_cons_zero, List.getElem?_cons_succ, List.set_cons_zero, List.set_cons_succ, List.map_cons, List.map_nil, Nat.reduceSub, List.replicate_succ, List.replicate_zero, List.cons_append, List.nil_append, List.append_nil, putVals, bt_nm, bt_t, bt_l, btT_s, bts_n, bts_c, wipeE, bin_int_add, bin_int_sub, cmp_int_eq, cmp_int_ne, cmp_int_lt, cmp_int_le, cmp_int_gt, cmp_int_ge, ix_0, ix_1, ix_2, ix_3, ix_4, ix_5, ix_6, ix_7, ix_m1, blt_absI, blt_intI, blt_tupL, blt_tupT, blt_lstL, blt_lstT, blt_lenL, blt_lenT, blt_lenLm, blt_lenTm, blt_min2, blt_max2, blt_min3, blt_max3, isi_n, isi_b, isi_i, isi_s, isi_l, isi_t, fits_0, fits_1, fits_2, fits_3, fits_4, fits_5, fits_6, fits_7, fits_8, fits_9, fits_10, fits_11, fits_12, fits_13, fits_14, fits_15, fits_16, fitsS_0, fitsS_1, fitsS_2, fitsS_3, fitsS_4, List.length_cons, List.length_nil, Nat.zero_add, Nat.reduceAdd, Bool.not_true, Bool.not_false, decide_true, decide_false, Int.reduceNeg, Int.reduceSub, Int.reduceAdd, Int.reduceLT, Int.reduceLE, Int.reduceEq, Int.reduceMul])
local macro_rules | `(tactic| simp!) => `(tactic| simp only [eP_i0, eP_i1, eP_bt, eM_i0, eM_i1, eM_i2, eM_i3, eM_bt, eq_eP, ne_eP, eq_lP, ne_lP, eq_eM, ne_eM, eq_lM, ne_lM, cmp_strN, cmp_strE, ev_var, ev_cst, ev_glob, ev_neg, ev_not, ev_bin, ev_cmp, ev_chain, ev_and, ev_or, ev_ite, ev_tup, ev_lst, ev_ix, ev_slice, ev_rev, ev_call, ev_blt, ev_isi, ev_comp, ev_compF, evA_n, evA_c, evA_s, evV_n, evV_c, evP_n, evP_c, evO_n, evO_s, evC_n, evC_s, evI_s, evI_1, evI_2, evI_3, evI_e, evI_z, listOf_l, zipD_l, zipD_t, es_pass, es_exp, es_set, es_setO, es_setT, es_par, es_parO, ownOf_t, evR_n, evR_f, evR_t, pS_n, pS_c, es_ite, es_whil, es_for, es_brk, es_cnt, es_frz, ess_n, ess_c, er_var, er_cst, er_glob, er_neg, er_not, er_bin, er_cmp, er_chain, er_and, er_or, er_ite, er_tup, er_lst, er_ix, er_slice, er_rev, er_call, er_blt, er_isi, er_comp, appR_o, augR_a, augR_s, frzR_o, varR_v, varR_o, retR_o, retR_v, ixR_s, ix_l, ix_t, bT_ok, sT_ok, qT_nx, qT_rt, qT_br, qT_ct, qT_ex, bT_exc, sT_exc, tT_ex, es_rais, es_try, yT_nx, yT_rt, yT_br, yT_ct, yT_ex, es_clr, clrR_o, Cb_t, Cb_f, oT_s, tT_nx, tT_ct, tT_br, tT_rt, turn_nx, turn_ct, turn_br, turn_rt, datOf_dat, intOf_int, boolOf_bool, plain_eq, fresh_eq, ofBD_some, ofB_some, rOpt_some, seqOf_l, seqOf_t, lit_int, lit_str, lit_bool, lit_none, wp_ok, wp_bind, wps_sr, wps_seq, wps_tT, wps_nx, wps_rt, wps_br, wps_ct, List.getElem?_cons_zero, List.getElem?_cons_succ, List.set_cons_zero, List.set_cons_succ, List.map_cons, List.map_nil, Nat.reduceSub, List.replicate_succ, List.replicate_zero, List.cons_append, List.nil_append, List.append_nil, putVals, bt_nm, bt_t, bt_l, btT_s, bts_n, bts_c, wipeE, bin_int_add, bin_int_sub, cmp_int_eq, cmp_int_ne, cmp_int_lt, cmp_int_le, cmp_int_gt, cmp_int_ge, ix_0, ix_1, ix_2, ix_3, ix_4, ix_5, ix_6, ix_7, ix_m1, blt_absI, blt_intI, blt_tupL, blt_tupT, blt_lstL, blt_lstT, blt_lenL, blt_lenT, blt_lenLm, blt_lenTm, blt_min2, blt_max2, blt_min3, blt_max3, isi_n, isi_b, isi_i, isi_s, isi_l, isi_t, fits_0, fits_1, fits_2, fits_3, fits_4, fits_5, fits_6, fits_7, fits_8, fits_9, fits_10, fits_11, fits_12, fits_13, fits_14, fits_15, fits_16, fitsS_0, fitsS_1, fitsS_2, fitsS_3, fitsS_4, List.length_cons, List.length_nil, Nat.zero_add, Nat.reduceAdd, Bool.not_true, Bool.not_false, decide_true, decide_false, Int.reduceNeg, Int.reduceSub, Int.reduceAdd, Int.reduceLT, Int.reduceLE, Int.reduceEq, Int.reduceMul])
section
variable {st : Store} {n : Int} {v w : Wd}
def bad (w : Wd) (k : Nat) : Bool := decide ((w.getD k (0, 0)).1 = (w.getD (k + 1) (0, 0)).1) && !decide ((w.getD k (0, 0)).2 = (w.getD (k + 1) (0, 0)).2)
def sp (w : Wd) : List Nat := (List.range (w.length - 1)).filter (bad w)
theorem ixw {k : Nat} (h : k < w.length) : ixD (w.map eP) (k : Int) = some (eP (w.getD k (0, 0))) := by
  refine ix_nat ?_
  rw [List.getElem?_map, List.getElem?_eq_getElem h, List.getD_eq_getElem?_getD, List.getElem?_eq_getElem h]
  rfl
theorem rup0 {j : Int} : rangeUp 0 j = (List.range j.toNat).map fun k : Nat => PyData.int k := by
  unfold rangeUp
  simp
theorem fm_if {α : Type} (b : Nat → Bool) (f : Nat → α) : ∀ xs : List Nat, xs.filterMap (fun k => if b k = true then some (f k) else none) = (xs.filter b).map f
  | [] => rfl
  | x :: xs => by
    by_cases h : b x = true
    · rw [List.filterMap_cons_some (by rw [if_pos h]), List.filter_cons_of_pos h, List.map_cons, fm_if b f xs]
    · rw [List.filterMap_cons_none (by rw [if_neg h]), List.filter_cons_of_neg h, fm_if b f xs]
theorem spots_ok (st : Store) (w : Wd) (hl : w.length ≤ 1000) : f__law_spots [.dat (.tuple (w.map eP))] st = .ok ⟨true, .dat (.list ((sp w).map fun k : Nat => PyData.int k))⟩ st := by
  refine Wp.is (wp_fn rfl ?_)
  have ok : rngOk ((w.length : Int) - 1) = true := by
    unfold rngOk
    rw [decide_eq_true (by omega), decide_eq_true (by omega)]
    rfl
  simp! [b__law_spots, ok, rup0, List.length_map]
  refine wp_compF (xs := List.range ((w.length : Int) - 1).toNat) (fun k : Nat => PyData.int k) (fun k => if bad w k = true then some (PyData.int k) else none) (fun k hk => ?_) (by simp; omega) ?_
  · have hk : k < w.length - 1 := by
      have := List.mem_range.mp hk
      omega
    have e1 := ixw (w := w) (k := k) (by omega)
    have e2 := ixw (w := w) (k := k + 1) (by omega)
    rw [Int.natCast_add] at e2
    have e2 : ixD (w.map eP) ((k : Int) + 1) = some (eP (w.getD (k + 1) (0, 0))) := e2
    simp! [e1, e2]
    unfold bad
    by_cases q : (w.getD k (0, 0)).1 = (w.getD (k + 1) (0, 0)).1
    · by_cases q2 : (w.getD k (0, 0)).2 = (w.getD (k + 1) (0, 0)).2
      · simp! [e1, e2, decide_eq_true q, decide_eq_true q2]
        first | exact ⟨rfl, rfl⟩ | exact ⟨rfl, trivial⟩ | simp
      · simp! [e1, e2, decide_eq_true q, decide_eq_false q2]
        first | exact ⟨rfl, rfl⟩ | exact ⟨rfl, trivial⟩ | simp
    · simp! [e1, e2, decide_eq_false q]
      first | exact ⟨rfl, rfl⟩ | exact ⟨rfl, trivial⟩ | simp
  · rw [fm_if (bad w) (fun k => PyData.int k)]
    simp!
    have e : ((w.length : Int) - 1).toNat = w.length - 1 := by omega
    rw [e]
    exact ⟨rfl, rfl⟩
theorem sp_red (hw : Wok n w) (h : sp w = []) : Rd w := by
  have go : ∀ (w : Wd), Wok n w → (∀ k, k + 1 < w.length → bad w k = false) → Rd w := by
    intro w
    induction w with
    | nil => intro _ _; exact rd_nil
    | cons x t ih =>
      intro hw hb
      cases t with
      | nil => exact True.intro
      | cons y t =>
        refine ⟨fun e => ?_, ih (fun z hz => hw z (List.mem_cons_of_mem _ hz)) fun k hk => ?_⟩
        · have b := hb 0 (by simp)
          have l1 := (hw x (by simp)).2.2
          unfold bad at b
          simp [e, inv] at b
          rcases l1 with q | q <;> rw [q] at b <;> exact absurd b (by decide)
        · have b := hb (k + 1) (by simp at hk ⊢; omega)
          simpa [bad] using b
  refine go w hw fun k hk => ?_
  cases b : bad w k with
  | false => rfl
  | true =>
    have : k ∈ sp w := List.mem_filter.mpr ⟨List.mem_range.mpr (by omega), b⟩
    rw [h] at this
    simp at this
theorem bad_split (hw : Wok n w) {k : Nat} (h : k ∈ sp w) : ∃ a x y b, w = a ++ x :: y :: b ∧ a.length = k ∧ y = inv x := by
  obtain ⟨h1, h2⟩ := List.mem_filter.mp h
  have h1 := List.mem_range.mp h1
  have k1 : k < w.length := by omega
  have k2 : k + 1 < w.length := by omega
  refine ⟨w.take k, w[k], w[k + 1], w.drop (k + 2), ?_, by rw [List.length_take]; omega, ?_⟩
  · rw [← List.drop_eq_getElem_cons, ← List.drop_eq_getElem_cons, List.take_append_drop]
  · unfold bad at h2
    rw [List.getD_eq_getElem?_getD, List.getD_eq_getElem?_getD, List.getElem?_eq_getElem k1, List.getElem?_eq_getElem k2] at h2
    simp only [Option.getD_some, Bool.and_eq_true, decide_eq_true_eq, Bool.not_eq_true', decide_eq_false_iff_not] at h2
    have l1 := (hw w[k] (List.getElem_mem k1)).2.2
    have l2 := (hw w[k + 1] (List.getElem_mem k2)).2.2
    refine Prod.ext h2.1.symm ?_
    show _ = -_
    rcases l1 with q | q <;> rcases l2 with r | r <;> rw [q, r] at h2 ⊢ <;> simp at h2 ⊢
theorem cutT {xs : List MP.D} {k : Int} (h0 : 0 ≤ k) (h1 : k ≤ xs.length) : sliceD (.tuple xs) none (some k) = some (false, .tuple (xs.take k.toNat)) := by
  show some (false, PyData.tuple (cutD xs none (some k))) = _
  unfold cutD HT.sIx
  simp only
  rw [if_neg (by omega), List.drop_zero]
  congr 4
  omega
theorem cutU {xs : List MP.D} {k : Int} (h0 : 0 ≤ k) (h1 : k ≤ xs.length) : sliceD (.tuple xs) (some k) none = some (false, .tuple (xs.drop k.toNat)) := by
  show some (false, PyData.tuple (cutD xs (some k) none)) = _
  unfold cutD HT.sIx
  simp only
  rw [if_neg (by omega), List.take_of_length_le (by rw [List.length_drop]; omega)]
  congr 4
  omega
theorem ne_i {L : List Nat} : cmpD .ne (.list (L.map fun k : Nat => PyData.int k)) (.list []) = some (!decide (L = [])) := by
  cases L with
  | nil => rfl
  | cons a L => rfl
theorem wp_short {Q : RV → Store → Prop} (h : IsSrc st) (hw : Wok n w) (hl : w.length ≤ 1000) (k : ∀ st', IsSrc st' → Q ⟨false, .dat (.tuple ((red w).map eP))⟩ st') : Wp (f__law_short [.loc 1, .dat (.tuple (w.map eP))] st) Q := by
  refine wp_fn rfl ?_
  simp! [b__law_short, List.length_map, okRw (i := (w.length : Int)) (by omega) (by omega)]
  refine wps_forR (fun j env st => IsSrc st ∧ ∃ (v : Wd) (s2 s3 s4 : Slot), 0 ≤ j ∧ red v = red w ∧ (Rd v ∨ (v.length : Int) + 2 * j ≤ w.length) ∧ v.length ≤ w.length ∧ Wok n v ∧ env = [.val (.loc 1), .val (.dat (.tuple (v.map eP))), s2, s3, s4]) ?_ ?_ _ 0 _ _ rfl ⟨h, w, _, _, _, by omega, rfl, .inr (by omega), Nat.le_refl _, hw, rfl⟩
  · rintro j env st hj ⟨h, v, s2, s3, s4, j0, hr, hd, hz, hv, rfl⟩
    refine ⟨_, rfl, ?_⟩
    simp! [b__law_short_0a, spots_ok st v (by omega), b__law_short_0a_1, ne_i]
    by_cases q : sp v = []
    · simp! [decide_eq_true q]
      exact ⟨h, v, _, _, _, by omega, hr, .inl (sp_red hv q), hz, hv, rfl⟩
    · have l1 : 1 ≤ (sp v).length := Nat.pos_of_ne_zero fun z => q (List.eq_nil_of_length_eq_zero z)
      have l2 : (sp v).length ≤ 1000 := by
        have := List.length_filter_le (bad v) (List.range (v.length - 1))
        rw [List.length_range] at this
        unfold sp
        omega
      simp! [decide_eq_false q, b__law_short_0a_1a, List.length_map]
      refine wp_pickW h (by omega) (by omega) fun y st h y0 y1 => ?_
      simp!
      refine wp_ix (fr := false) y0 (by simpa using y1) fun d hd2 => ?_
      obtain ⟨i, hi, rfl⟩ := List.mem_map.mp hd2
      obtain ⟨a, x, y, b, ev, ea, ei⟩ := bad_split hv hi
      have lv : v.length = a.length + 2 + b.length := by rw [ev]; simp; omega
      have c1 := cutT (xs := v.map eP) (k := (i : Int)) (by omega) (by rw [List.length_map]; omega)
      have c2 := cutU (xs := v.map eP) (k := (i : Int) + 2) (by omega) (by rw [List.length_map]; omega)
      have t1 : (v.map eP).take (i : Int).toNat = a.map eP := by
        rw [← List.map_take]
        congr 1
        rw [ev, Int.toNat_natCast, ← ea, List.take_left]
      have t2 : (v.map eP).drop ((i : Int) + 2).toNat = b.map eP := by
        rw [← List.map_drop]
        congr 1
        have : ((i : Int) + 2).toNat = a.length + 2 := by omega
        rw [this, ev, List.drop_append]
        simp
      rw [t1] at c1
      rw [t2] at c2
      simp! [c1, c2, add_w (v := a) (w := b) (by omega), b__law_short_0a_1a_1]
      refine ⟨h, a ++ b, _, _, _, by omega, ?_, ?_, ?_, ?_, rfl⟩
      · rw [← hr, ev, red_cut ei]
      · rcases hd with hd | hd
        · exfalso
          rw [ev] at hd
          have : ∀ {u : Wd}, Rd (u ++ x :: y :: b) → False := by
            intro u
            induction u with
            | nil => exact fun r => r.1 ei
            | cons c u ih => exact fun r => ih r.tail
          exact this hd
        · right
          rw [List.length_append]
          omega
      · rw [List.length_append]
        omega
      · intro z hz
        refine hv z ?_
        rw [ev]
        rcases List.mem_append.mp hz with q | q
        · exact List.mem_append_left _ q
        · exact List.mem_append_right _ (List.mem_cons_of_mem _ (List.mem_cons_of_mem _ q))
  · rintro j env st hj ⟨h, v, s2, s3, s4, j0, hr, hd, hz, hv, rfl⟩
    simp! [b__law_short_1]
    have : Rd v := by
      rcases hd with hd | hd
      · exact hd
      · have : v = [] := List.eq_nil_of_length_eq_zero (by omega)
        rw [this]
        exact rd_nil
    have e : v = red w := by rw [← hr, red_id this]
    rw [e]
    exact k st h
end
section
variable {st : Store} {n : Int} {v w : Wd}
theorem add_ll {a b : List MP.D} (h : a.length + b.length ≤ 2 ^ 20) : bin .add (.list a) (.list b) = some (true, .list (a ++ b)) := by
  show (bif fits (a.length + b.length) then some (true, PyData.list (a ++ b)) else none) = _
  rw [show fits (a.length + b.length) = true from decide_eq_true (Nat.le_trans h (by decide))]
  rfl
theorem nw_a {d : MP.D} (h : ["tuple"].any (isA d) = false) (st : Store) : f_is_word [.dat d, .dat (.int n)] st = .ok ⟨false, .dat (.bool false)⟩ st := by
  refine fn_eq rfl ?_
  simp! [b_is_word, h]
theorem nl_a {d : MP.D} (h : ["tuple"].any (isA d) = false) (st : Store) : f_is_letter [.dat d, .dat (.int n)] st = .ok ⟨false, .dat (.bool false)⟩ st := by
  refine fn_eq rfl ?_
  simp! [b_is_letter, h, b_is_letter_0a]
theorem nl_len {ds : List MP.D} (h : (ds.length : Int) ≠ 2) (st : Store) : f_is_letter [.dat (.tuple ds), .dat (.int n)] st = .ok ⟨false, .dat (.bool false)⟩ st := by
  refine fn_eq rfl ?_
  simp! [b_is_letter, beq_self_eq_true, decide_eq_false h, b_is_letter_0a]
def nmb (d : MP.D) : Bool := isA d "int" && !isA d "bool"
theorem nl_pair {a b : MP.D} (h : (nmb a && nmb b) = false) (st : Store) : f_is_letter [.dat (.tuple [a, b]), .dat (.int n)] st = .ok ⟨false, .dat (.bool false)⟩ st := by
  have al : bltF .all [.list [.bool (nmb a), .bool (nmb b)]] = some (false, .bool false) := by
    have := all_map (fun x => x) [nmb a, nmb b]
    simp only [List.map_cons, List.map_nil, List.all_cons, List.all_nil, Bool.and_true, h] at this
    exact this
  refine Wp.is (wp_fn rfl ?_)
  simp! [b_is_letter, beq_self_eq_true, wc2]
  refine wp_compM (xs := [a, b]) (fun x => x) (fun x => .bool (nmb x)) (fun x hx => ?_) (by simp) ?_
  · simp! [isnum_ok]
    simp [nmb]
  simp! [al, b_is_letter_0a]
  simp [Is]
theorem nl_int {a b : Int} (h : ¬ (0 ≤ a ∧ a < n) ∨ (b ≠ 1 ∧ b ≠ -1)) (st : Store) : f_is_letter [.dat (.tuple [.int a, .int b]), .dat (.int n)] st = .ok ⟨false, .dat (.bool false)⟩ st := by
  have al : bltF .all [.list [.bool true, .bool true]] = some (false, .bool true) := rfl
  have i : (b ≠ 1 ∧ b ≠ -1) → cmpD .isIn (.int b) (.tuple [.int 1, .int (-1)]) = some false := by
    intro ⟨q1, q2⟩
    have e := (Fl.int b)
    show (bif shp (.int b) && shp (.tuple [.int 1, .int (-1)]) then some ([PyData.int 1, .int (-1)].any fun z => PyData.eqv z (.int b)) else none) = _
    have s1 : shp (.int b) = true := e.shp (by decide)
    have s2 : shp (.tuple [.int 1, .int (-1)]) = true := rfl
    rw [s1, s2]
    have n1 : PyData.eqv (.int 1) (.int b) = false := by simp [PyData.eqv]; omega
    have n2 : PyData.eqv (.int (-1)) (.int b) = false := by simp [PyData.eqv]; omega
    simp [n1, n2]
  refine Wp.is (wp_fn rfl ?_)
  simp! [b_is_letter, beq_self_eq_true, wc2]
  refine wp_compM (xs := [a, b]) PyData.int (fun _ => .bool true) (fun x hx => ?_) (by simp) ?_
  · simp! [isnum_int]
    simp
  simp! [al, b_is_letter_1]
  by_cases q1 : 0 ≤ a
  · by_cases q2 : a < n
    · have q3 : b ≠ 1 ∧ b ≠ -1 := by
        rcases h with h | h
        · exact absurd ⟨q1, q2⟩ h
        · exact h
      simp! [decide_eq_true q1, decide_eq_true q2, i q3]
      simp [Is]
    · simp! [decide_eq_true q1, decide_eq_false q2]
      simp [Is]
  · simp! [decide_eq_false q1]
    simp [Is]
theorem nw_t (xs : List (MP.D × Bool)) (hl : xs.length ≤ 2000) (h : ∀ x ∈ xs, ∀ st, f_is_letter [.dat x.1, .dat (.int n)] st = .ok ⟨false, .dat (.bool x.2)⟩ st) (hb : xs.all (fun x => x.2) = false) (st : Store) : f_is_word [.dat (.tuple (xs.map fun x => x.1)), .dat (.int n)] st = .ok ⟨false, .dat (.bool false)⟩ st := by
  have := is_word_t (n := n) st xs hl h
  rwa [hb] at this
/-- a word with a thing behind it that is no letter -/
theorem nw_r (hw : Wok n w) (hl : w.length ≤ 1000) {d : MP.D} (h : ∀ st, f_is_letter [.dat d, .dat (.int n)] st = .ok ⟨false, .dat (.bool false)⟩ st) (st : Store) : f_is_word [.dat (.tuple (w.map eP ++ [d])), .dat (.int n)] st = .ok ⟨false, .dat (.bool false)⟩ st := by
  have := nw_t (n := n) (w.map (fun x => (eP x, true)) ++ [(d, false)]) (by simp; omega) (fun x hx st => by
    rcases List.mem_append.mp hx with q | q
    · obtain ⟨y, hy, rfl⟩ := List.mem_map.mp q
      exact is_letter_ok st (hw y hy)
    · rw [List.mem_singleton.mp q]
      exact h st) (by simp) st
  rw [List.map_append, List.map_map] at this
  exact this
theorem nw_l (hw : Wok n w) (hl : w.length ≤ 1000) {d : MP.D} (h : ∀ st, f_is_letter [.dat d, .dat (.int n)] st = .ok ⟨false, .dat (.bool false)⟩ st) (st : Store) : f_is_word [.dat (.tuple (d :: w.map eP)), .dat (.int n)] st = .ok ⟨false, .dat (.bool false)⟩ st := by
  have := nw_t (n := n) ((d, false) :: w.map (fun x => (eP x, true))) (by simp; omega) (fun x hx st => by
    rcases List.mem_cons.mp hx with q | q
    · rw [q]
      exact h st
    · obtain ⟨y, hy, rfl⟩ := List.mem_map.mp q
      exact is_letter_ok st (hw y hy)) (by simp) st
  rw [List.map_cons, List.map_map] at this
  exact this
theorem nw_1 {d : MP.D} (h : ∀ st, f_is_letter [.dat d, .dat (.int n)] st = .ok ⟨false, .dat (.bool false)⟩ st) (st : Store) : f_is_word [.dat (.tuple [d]), .dat (.int n)] st = .ok ⟨false, .dat (.bool false)⟩ st :=
  nw_l (w := []) (by intro x hx; simp at hx) (by simp) h st
def nwL (w : Wd) (n : Int) : List MP.D := [.none, .list (w.map eP ++ [.int 1]), .int 0, .str "a", .dict [], .tuple [.int 0, .int 1], .tuple [.tuple [.int 0]], .tuple [.tuple [.int 0, .int 0]], .tuple [.tuple [.int 0, .int 2]], .tuple [.tuple [.int n, .int 1]], .tuple [.tuple [.int (-1), .int 1]]] ++
  [.tuple (w.map eP ++ [.tuple [.int 0, .bool true]]), .tuple (w.map eP ++ [.tuple [.bool false, .int 1]]), .tuple (w.map eP ++ [.tuple [.int 0, .int 1, .int 1]]), .tuple (w.map eP ++ [.list [.int 0, .int 1]]), .tuple (.tuple [.none, .int 1] :: w.map eP)] ++
  [.tuple (w.map eP ++ [.none]), .tuple (.tuple [.int 0, .tuple [.int 1]] :: w.map eP), .list (w.map eP)]
theorem nwL_ok (st : Store) (w : Wd) (hl : w.length ≤ 1000) : f__law_no_words [.dat (.tuple (w.map eP)), .dat (.int n)] st = .ok ⟨true, .dat (.list (nwL w n))⟩ st := by
  have t : ∀ d : MP.D, bin .add (.tuple (w.map eP)) (.tuple [d]) = some (false, .tuple (w.map eP ++ [d])) := fun d => bin_add_t (by simp; omega)
  have u : ∀ d : MP.D, bin .add (.tuple [d]) (.tuple (w.map eP)) = some (false, .tuple (d :: w.map eP)) := fun d => bin_add_t (by simp; omega)
  have l1 : bin .add (.list (w.map eP)) (.list [.int 1]) = some (true, .list (w.map eP ++ [.int 1])) := add_ll (by simp; omega)
  have l2 : ∀ a b c d e f g h i j k l m q r s : MP.D, bin .add (.list [a, b, c, d, e, f, g, h, i, j, k]) (.list [l, m, q, r, s]) = some (true, .list [a, b, c, d, e, f, g, h, i, j, k, l, m, q, r, s]) := fun _ _ _ _ _ _ _ _ _ _ _ _ _ _ _ _ => add_ll (by simp)
  have l3 : ∀ a b c d e f g h i j k l m q r s x y z : MP.D, bin .add (.list [a, b, c, d, e, f, g, h, i, j, k, l, m, q, r, s]) (.list [x, y, z]) = some (true, .list [a, b, c, d, e, f, g, h, i, j, k, l, m, q, r, s, x, y, z]) := fun _ _ _ _ _ _ _ _ _ _ _ _ _ _ _ _ _ _ _ => add_ll (by simp)
  have d0 : ∀ {pk env} {st : Store}, evE .dic0 pk env st = .ok (plain (.dict [])) st := rfl
  refine fn_eq rfl ?_
  simp! [b__law_no_words, l1, d0, b__law_no_words_1, t, u, l2, b__law_no_words_2, l3]
  rfl
theorem nwL_false (hw : Wok n w) (hn : 1 ≤ n) (hl : w.length ≤ 1000) : ∀ d ∈ nwL w n, ∀ st, f_is_word [.dat d, .dat (.int n)] st = .ok ⟨false, .dat (.bool false)⟩ st := by
  intro d hd
  simp only [nwL, List.cons_append, List.nil_append, List.mem_cons, List.not_mem_nil, or_false] at hd
  rcases hd with rfl | rfl | rfl | rfl | rfl | rfl | rfl | rfl | rfl | rfl | rfl | rfl | rfl | rfl | rfl | rfl | rfl | rfl | rfl
  · exact nw_a rfl
  · exact nw_a rfl
  · exact nw_a rfl
  · exact nw_a rfl
  · exact nw_a rfl
  · exact nw_t (n := n) [(.int 0, false), (.int 1, false)] (by simp) (fun x hx => by
      simp at hx
      rcases hx with rfl | rfl
      · exact nl_a rfl
      · exact nl_a rfl) rfl
  · exact nw_1 (nl_len (by decide))
  · exact nw_1 (nl_int (.inr (by decide)))
  · exact nw_1 (nl_int (.inr (by decide)))
  · exact nw_1 (nl_int (.inl (by omega)))
  · exact nw_1 (nl_int (.inl (by omega)))
  · exact nw_r hw hl (nl_pair rfl)
  · exact nw_r hw hl (nl_pair rfl)
  · exact nw_r hw hl (nl_len (by decide))
  · exact nw_r hw hl (nl_a rfl)
  · exact nw_l hw hl (nl_pair rfl)
  · exact nw_r hw hl (nl_a rfl)
  · exact nw_l hw hl (nl_pair rfl)
  · exact nw_a rfl
end
theorem rT : bltF .repr [.bool true] = some (false, .str "True") := by rfl
theorem rF : bltF .repr [.bool false] = some (false, .str "False") := by rfl
abbrev E43 (ns : List Int) (s2 : Slot) (n : Int) (s4 s5 s6 s7 s8 s9 s10 : Slot) : MP.Env := [.val (.dat (scriptD ns)), .val (.loc 1), s2, .val (.dat (.int n)), s4, s5, s6, s7, s8, s9, s10]
theorem inv_s (x : Int × Int) : PyData.tuple [.int x.1, .int (0 - x.2)] = eP (inv x) := by
  unfold inv eP
  rw [Int.zero_sub]
theorem rest43 {ns : List Int} {s2 s6 s7 s8 s9 s10 : Slot} {n : Int} {v w : Wd} {st : Store} {O : Outs} (h : IsSrc st) (n1 : 1 ≤ n) (n2 : n ≤ 5) (hv : Wok n v) (hw : Wok n w) (lv : v.length ≤ 16) (lw : w.length ≤ 4)
    (hO : ∀ st s4 s5 s6 s7 s8 s9 s10, IsSrc st → O.nx (E43 ns s2 n s4 s5 s6 s7 s8 s9 s10) st) :
    WpS (evSs b_law_1a_3 (E43 ns s2 n (.val (.dat (.tuple (v.map eP)))) (.val (.dat (.tuple (w.map eP)))) s6 s7 s8 s9 s10) st) O := by
  unfold E43
  simp! [b_law_1a_3]
  refine wp_short h hv (by omega) fun st h => ?_
  simp! [rev_w]
  refine wp_compM (xs := v.reverse) eP (fun x => eP (inv x)) (fun x hx => ?_) (by simp; omega) ?_
  · simp! [inv_s]
    simp
  have e : v.reverse.map (fun x => eP (inv x)) = (binv v).map eP := by simp [binv]
  rw [e]
  have t1 : f_is_word [.dat (.tuple (v.map eP)), .dat (.int n)] st = .ok ⟨false, .dat (.bool true)⟩ st := is_word_ok st hv (by omega)
  simp! [b_law_1a_4, t1, rT, back_word_ok st v (by omega), ne_eW, short_ok st v (by omega), b_law_1a_5, joined_ok st (v := v) (w := w) (by omega), add_w (v := v) (w := w) (by omega)]
  refine wp_short h (hv.app hw) (by simp; omega) fun st h => ?_
  have lr := red_len v
  have t2 := fun st => short_ok st (red v) (by omega)
  rw [red_red] at t2
  have t3 := fun st => joined_ok st (v := v) (w := binv v) (by rw [binv_len]; omega)
  rw [red_binv] at t3
  have c0 : cmpD .ne (.tuple (([] : Wd).map eP)) (.tuple []) = some false := ne_eW [] []
  have t4 : ∀ st, f_is_word [.dat (.tuple ((red v).map eP)), .dat (.int n)] st = .ok ⟨false, .dat (.bool true)⟩ st := fun st => is_word_ok st hv.red (by omega)
  have t5 : ∀ st, f_is_word [.dat (.tuple (v.map eP ++ [.tuple [.int n, .int 1]])), .dat (.int n)] st = .ok ⟨false, .dat (.bool false)⟩ st := nw_r hv (by omega) (nl_int (.inl (by omega)))
  have t6 : ∀ st, f_is_word [.dat (.tuple []), .dat (.int n)] st = .ok ⟨false, .dat (.bool true)⟩ st := fun st => is_word_ok (w := []) st (by intro x hx; simp at hx) (by simp)
  have a1 : bin .add (.tuple (v.map eP)) (.tuple [.tuple [.int n, .int 1]]) = some (false, .tuple (v.map eP ++ [.tuple [.int n, .int 1]])) := bin_add_t (by simp; omega)
  simp only [List.map_nil] at t3 c0
  simp! [ne_eW, t2, t3, c0, b_law_1a_6, t4, a1, t5, t6, b_law_1a_7, nwL_ok _ v (show v.length ≤ 1000 by omega)]
  have nf := nwL_false hv n1 (by omega)
  refine wps_forI (fun env st => IsSrc st ∧ ∃ s4 s5 s6 s7 s8 s9 s10, env = E43 ns s2 n s4 s5 s6 s7 s8 s9 s10) ⟨h, _, _, _, _, _, _, _, rfl⟩ ?_ ?_
  · rintro d env st hd ⟨h, s4, s5, s6, s7, s8, s9, s10, rfl⟩
    refine ⟨_, rfl, ?_⟩
    simp! [b_law_1a_7a, nf d hd, rF]
    exact ⟨h, _, _, _, _, _, _, _, rfl⟩
  · rintro env st ⟨h, s4, s5, s6, s7, s8, s9, s10, rfl⟩
    simp!
    exact hO _ _ _ _ _ _ _ _ h
theorem law_true (ns : List Int) (hn : ns.length ≤ 63) : ∃ fr st, f_law [.dat (scriptD ns)] [] = .ok ⟨fr, .dat (.bool true)⟩ st := by
  refine law_of_wp (wp_fn rfl ?_)
  simp! [b_law]
  refine wp_cells hn fun st h => ?_
  have ok3 : rngOk 3 = true := by decide
  simp! [b_law_1, ok3]
  refine wps_forI (fun env st => IsSrc st ∧ ∃ s2 s3 s4 s5 s6 s7 s8 s9 s10, env = [.val (.dat (scriptD ns)), .val (.loc 1), s2, s3, s4, s5, s6, s7, s8, s9, s10]) ⟨h, _, _, _, _, _, _, _, _, _, rfl⟩ ?_ ?_
  · rintro d env st hd ⟨h, s2, s3, s4, s5, s6, s7, s8, s9, s10, rfl⟩
    refine ⟨_, rfl, ?_⟩
    simp! [b_law_1a]
    refine wp_pick h (by decide) (by decide) fun d st h d0 d1 => ?_
    simp! [b_law_1a_1]
    refine wp_word h (by omega) (by omega) (by decide) (by decide) fun v st h hv lv => ?_
    simp!
    refine wp_word h (by omega) (by omega) (by decide) (by decide) fun w st h hw lw => ?_
    simp! [b_law_1a_2]
    refine wp_pick h (by decide) (by decide) fun c st h c0 c1 => ?_
    simp!
    by_cases q : c = 0
    · simp! [decide_eq_true q, rev_w]
      refine wp_compM (xs := v.reverse) eP (fun x => eP (inv x)) (fun x hx => ?_) (by simp; omega) ?_
      · simp! [inv_s]
        simp
      have e : v.reverse.map (fun x => eP (inv x)) = (binv v).map eP := by simp [binv]
      rw [e]
      simp! [add_w (v := v) (w := binv v) (by rw [binv_len]; omega)]
      exact rest43 h (by omega) (by omega) (hv.app hv.binv) hw (by rw [List.length_append, binv_len]; omega) (by omega) fun st s4 s5 s6 s7 s8 s9 s10 h => ⟨h, _, _, _, _, _, _, _, _, _, rfl⟩
    · have a0 : bin .add (.tuple (v.map eP)) (.tuple []) = some (false, .tuple (v.map eP)) := by
        have := bin_add_t (a := v.map eP) (b := []) (by simp; omega)
        rwa [List.append_nil] at this
      simp! [decide_eq_false q, a0]
      exact rest43 h (by omega) (by omega) hv hw (by omega) (by omega) fun st s4 s5 s6 s7 s8 s9 s10 h => ⟨h, _, _, _, _, _, _, _, _, _, rfl⟩
  · rintro env st ⟨h, s2, s3, s4, s5, s6, s7, s8, s9, s10, rfl⟩
    simp! [b_law_2]
end MK

namespace MK
open PySem PySem.Spec PyProof.Rows L2 MP
def topS (i : Nat) : Stmt := PySem.Challenge.pw_ballmoves_k43_words_shortened.main.body.getD i (.Pass ⟨0, 0, 0, 0⟩)
abbrev s__law_open_cells : Stmt := topS 10
theorem t__law_open_cells : FnScope n__law_open_cells ["_law_script"] (defScope s__law_open_cells) := ⟨rfl, rfl, rfl, by decide +kernel, rfl, by decide +kernel, by decide +kernel⟩
theorem m__law_open_cells : mSs n__law_open_cells b__law_open_cells (defScope s__law_open_cells) (defBody s__law_open_cells) = true := by decide +kernel
abbrev s__law_no_words : Stmt := topS 15
theorem t__law_no_words : FnScope n__law_no_words ["_law_word", "_law_many"] (defScope s__law_no_words) := ⟨rfl, rfl, rfl, by decide +kernel, rfl, by decide +kernel, by decide +kernel⟩
theorem m__law_no_words : mSs n__law_no_words b__law_no_words (defScope s__law_no_words) (defBody s__law_no_words) = true := by decide +kernel
abbrev s__law_pick : Stmt := topS 11
theorem t__law_pick : FnScope n__law_pick ["_law_source", "_law_most"] (defScope s__law_pick) := ⟨rfl, rfl, rfl, by decide +kernel, rfl, by decide +kernel, by decide +kernel⟩
theorem m__law_pick : mSs n__law_pick b__law_pick (defScope s__law_pick) (defBody s__law_pick) = true := by decide +kernel
abbrev s__law_draw_word : Stmt := topS 12
theorem t__law_draw_word : FnScope n__law_draw_word ["_law_source", "_law_many", "_law_most"] (defScope s__law_draw_word) := ⟨rfl, rfl, rfl, by decide +kernel, rfl, by decide +kernel, by decide +kernel⟩
theorem m__law_draw_word : mSs n__law_draw_word b__law_draw_word (defScope s__law_draw_word) (defBody s__law_draw_word) = true := by decide +kernel
abbrev s__law_spots : Stmt := topS 13
theorem t__law_spots : FnScope n__law_spots ["_law_word"] (defScope s__law_spots) := ⟨rfl, rfl, rfl, by decide +kernel, rfl, by decide +kernel, by decide +kernel⟩
theorem m__law_spots : mSs n__law_spots b__law_spots (defScope s__law_spots) (defBody s__law_spots) = true := by decide +kernel
abbrev s__law_short : Stmt := topS 14
theorem t__law_short : FnScope n__law_short ["_law_source", "_law_word"] (defScope s__law_short) := ⟨rfl, rfl, rfl, by decide +kernel, rfl, by decide +kernel, by decide +kernel⟩
theorem m__law_short : mSs n__law_short b__law_short (defScope s__law_short) (defBody s__law_short) = true := by decide +kernel
abbrev s_is_number : Stmt := topS 1
theorem t_is_number : FnScope n_is_number ["value"] (defScope s_is_number) := ⟨rfl, rfl, rfl, by decide +kernel, rfl, by decide +kernel, by decide +kernel⟩
theorem m_is_number : mSs n_is_number b_is_number (defScope s_is_number) (defBody s_is_number) = true := by decide +kernel
abbrev s_is_letter : Stmt := topS 3
theorem t_is_letter : FnScope n_is_letter ["value", "many"] (defScope s_is_letter) := ⟨rfl, rfl, rfl, by decide +kernel, rfl, by decide +kernel, by decide +kernel⟩
theorem m_is_letter : mSs n_is_letter b_is_letter (defScope s_is_letter) (defBody s_is_letter) = true := by decide +kernel
abbrev s_is_word : Stmt := topS 4
theorem t_is_word : FnScope n_is_word ["value", "many"] (defScope s_is_word) := ⟨rfl, rfl, rfl, by decide +kernel, rfl, by decide +kernel, by decide +kernel⟩
theorem m_is_word : mSs n_is_word b_is_word (defScope s_is_word) (defBody s_is_word) = true := by decide +kernel
abbrev s_back_letter : Stmt := topS 5
theorem t_back_letter : FnScope n_back_letter ["letter"] (defScope s_back_letter) := ⟨rfl, rfl, rfl, by decide +kernel, rfl, by decide +kernel, by decide +kernel⟩
theorem m_back_letter : mSs n_back_letter b_back_letter (defScope s_back_letter) (defBody s_back_letter) = true := by decide +kernel
abbrev s_back_word : Stmt := topS 6
theorem t_back_word : FnScope n_back_word ["word"] (defScope s_back_word) := ⟨rfl, rfl, rfl, by decide +kernel, rfl, by decide +kernel, by decide +kernel⟩
theorem m_back_word : mSs n_back_word b_back_word (defScope s_back_word) (defBody s_back_word) = true := by decide +kernel
abbrev s_shortened : Stmt := topS 7
theorem t_shortened : FnScope n_shortened ["word"] (defScope s_shortened) := ⟨rfl, rfl, rfl, by decide +kernel, rfl, by decide +kernel, by decide +kernel⟩
theorem m_shortened : mSs n_shortened b_shortened (defScope s_shortened) (defBody s_shortened) = true := by decide +kernel
abbrev s_joined : Stmt := topS 8
theorem t_joined : FnScope n_joined ["one", "other"] (defScope s_joined) := ⟨rfl, rfl, rfl, by decide +kernel, rfl, by decide +kernel, by decide +kernel⟩
theorem m_joined : mSs n_joined b_joined (defScope s_joined) (defBody s_joined) = true := by decide +kernel
abbrev s_law : Stmt := topS 16
theorem t_law : FnScope n_law ["_law_script"] (defScope s_law) := ⟨rfl, rfl, rfl, by decide +kernel, rfl, by decide +kernel, by decide +kernel⟩
theorem m_law : mSs n_law b_law (defScope s_law) (defBody s_law) = true := by decide +kernel
theorem all_mk {l : PySem.W.OpenLaw} {w : World} {K : PySem.W.Frag} {h : Heap} {mg : Str → Option Value} {fa : Addr} (X : K.In h) (G : h.Ns mainGlobals mg) (hfa : mg "law" = some (.ref fa))
    {p__law_open_cells : Addr} {u__law_open_cells w__law_open_cells : Option Addr} {sl__law_open_cells : Array (Option Value)} {oc__law_open_cells kV__law_open_cells dc__law_open_cells pm__law_open_cells cd__law_open_cells ct__law_open_cells : Value}
    {p__law_no_words : Addr} {u__law_no_words w__law_no_words : Option Addr} {sl__law_no_words : Array (Option Value)} {oc__law_no_words kV__law_no_words dc__law_no_words pm__law_no_words cd__law_no_words ct__law_no_words : Value}
    {p__law_pick : Addr} {u__law_pick w__law_pick : Option Addr} {sl__law_pick : Array (Option Value)} {oc__law_pick kV__law_pick dc__law_pick pm__law_pick cd__law_pick ct__law_pick : Value}
    {p__law_draw_word : Addr} {u__law_draw_word w__law_draw_word : Option Addr} {sl__law_draw_word : Array (Option Value)} {oc__law_draw_word kV__law_draw_word dc__law_draw_word pm__law_draw_word cd__law_draw_word ct__law_draw_word : Value}
    {p__law_spots : Addr} {u__law_spots w__law_spots : Option Addr} {sl__law_spots : Array (Option Value)} {oc__law_spots kV__law_spots dc__law_spots pm__law_spots cd__law_spots ct__law_spots : Value}
    {p__law_short : Addr} {u__law_short w__law_short : Option Addr} {sl__law_short : Array (Option Value)} {oc__law_short kV__law_short dc__law_short pm__law_short cd__law_short ct__law_short : Value}
    {p_is_number : Addr} {u_is_number w_is_number : Option Addr} {sl_is_number : Array (Option Value)} {oc_is_number kV_is_number dc_is_number pm_is_number cd_is_number ct_is_number : Value}
    {p_is_letter : Addr} {u_is_letter w_is_letter : Option Addr} {sl_is_letter : Array (Option Value)} {oc_is_letter kV_is_letter dc_is_letter pm_is_letter cd_is_letter ct_is_letter : Value}
    {p_is_word : Addr} {u_is_word w_is_word : Option Addr} {sl_is_word : Array (Option Value)} {oc_is_word kV_is_word dc_is_word pm_is_word cd_is_word ct_is_word : Value}
    {p_back_letter : Addr} {u_back_letter w_back_letter : Option Addr} {sl_back_letter : Array (Option Value)} {oc_back_letter kV_back_letter dc_back_letter pm_back_letter cd_back_letter ct_back_letter : Value}
    {p_back_word : Addr} {u_back_word w_back_word : Option Addr} {sl_back_word : Array (Option Value)} {oc_back_word kV_back_word dc_back_word pm_back_word cd_back_word ct_back_word : Value}
    {p_shortened : Addr} {u_shortened w_shortened : Option Addr} {sl_shortened : Array (Option Value)} {oc_shortened kV_shortened dc_shortened pm_shortened cd_shortened ct_shortened : Value}
    {p_joined : Addr} {u_joined w_joined : Option Addr} {sl_joined : Array (Option Value)} {oc_joined kV_joined dc_joined pm_joined cd_joined ct_joined : Value}
    {p_law : Addr} {u_law w_law : Option Addr} {sl_law : Array (Option Value)} {oc_law kV_law dc_law pm_law cd_law ct_law : Value}
    (a__law_open_cells : PySem.W.nsIn K mainGlobals "_law_open_cells" = some (some (.ref p__law_open_cells)))
    (l__law_open_cells : K.lookup p__law_open_cells = some ⟨oc__law_open_cells, u__law_open_cells, .func (PySem.W.fnOf "_law_open_cells" "_law_open_cells" (defArgs s__law_open_cells) (defBody s__law_open_cells) (defScope s__law_open_cells) .none kV__law_open_cells dc__law_open_cells pm__law_open_cells w__law_open_cells cd__law_open_cells ct__law_open_cells), sl__law_open_cells⟩)
    (c__law_open_cells : PySem.W.codeIn K cd__law_open_cells "_law_open_cells" = true)
    (k__law_open_cells : PySem.W.keepIn K (.ref p__law_open_cells) = true)
    (a__law_no_words : PySem.W.nsIn K mainGlobals "_law_no_words" = some (some (.ref p__law_no_words)))
    (l__law_no_words : K.lookup p__law_no_words = some ⟨oc__law_no_words, u__law_no_words, .func (PySem.W.fnOf "_law_no_words" "_law_no_words" (defArgs s__law_no_words) (defBody s__law_no_words) (defScope s__law_no_words) .none kV__law_no_words dc__law_no_words pm__law_no_words w__law_no_words cd__law_no_words ct__law_no_words), sl__law_no_words⟩)
    (c__law_no_words : PySem.W.codeIn K cd__law_no_words "_law_no_words" = true)
    (k__law_no_words : PySem.W.keepIn K (.ref p__law_no_words) = true)
    (a__law_pick : PySem.W.nsIn K mainGlobals "_law_pick" = some (some (.ref p__law_pick)))
    (l__law_pick : K.lookup p__law_pick = some ⟨oc__law_pick, u__law_pick, .func (PySem.W.fnOf "_law_pick" "_law_pick" (defArgs s__law_pick) (defBody s__law_pick) (defScope s__law_pick) .none kV__law_pick dc__law_pick pm__law_pick w__law_pick cd__law_pick ct__law_pick), sl__law_pick⟩)
    (c__law_pick : PySem.W.codeIn K cd__law_pick "_law_pick" = true)
    (k__law_pick : PySem.W.keepIn K (.ref p__law_pick) = true)
    (a__law_draw_word : PySem.W.nsIn K mainGlobals "_law_draw_word" = some (some (.ref p__law_draw_word)))
    (l__law_draw_word : K.lookup p__law_draw_word = some ⟨oc__law_draw_word, u__law_draw_word, .func (PySem.W.fnOf "_law_draw_word" "_law_draw_word" (defArgs s__law_draw_word) (defBody s__law_draw_word) (defScope s__law_draw_word) .none kV__law_draw_word dc__law_draw_word pm__law_draw_word w__law_draw_word cd__law_draw_word ct__law_draw_word), sl__law_draw_word⟩)
    (c__law_draw_word : PySem.W.codeIn K cd__law_draw_word "_law_draw_word" = true)
    (k__law_draw_word : PySem.W.keepIn K (.ref p__law_draw_word) = true)
    (a__law_spots : PySem.W.nsIn K mainGlobals "_law_spots" = some (some (.ref p__law_spots)))
    (l__law_spots : K.lookup p__law_spots = some ⟨oc__law_spots, u__law_spots, .func (PySem.W.fnOf "_law_spots" "_law_spots" (defArgs s__law_spots) (defBody s__law_spots) (defScope s__law_spots) .none kV__law_spots dc__law_spots pm__law_spots w__law_spots cd__law_spots ct__law_spots), sl__law_spots⟩)
    (c__law_spots : PySem.W.codeIn K cd__law_spots "_law_spots" = true)
    (k__law_spots : PySem.W.keepIn K (.ref p__law_spots) = true)
    (a__law_short : PySem.W.nsIn K mainGlobals "_law_short" = some (some (.ref p__law_short)))
    (l__law_short : K.lookup p__law_short = some ⟨oc__law_short, u__law_short, .func (PySem.W.fnOf "_law_short" "_law_short" (defArgs s__law_short) (defBody s__law_short) (defScope s__law_short) .none kV__law_short dc__law_short pm__law_short w__law_short cd__law_short ct__law_short), sl__law_short⟩)
    (c__law_short : PySem.W.codeIn K cd__law_short "_law_short" = true)
    (k__law_short : PySem.W.keepIn K (.ref p__law_short) = true)
    (a_is_number : PySem.W.nsIn K mainGlobals "is_number" = some (some (.ref p_is_number)))
    (l_is_number : K.lookup p_is_number = some ⟨oc_is_number, u_is_number, .func (PySem.W.fnOf "is_number" "is_number" (defArgs s_is_number) (defBody s_is_number) (defScope s_is_number) .none kV_is_number dc_is_number pm_is_number w_is_number cd_is_number ct_is_number), sl_is_number⟩)
    (c_is_number : PySem.W.codeIn K cd_is_number "is_number" = true)
    (k_is_number : PySem.W.keepIn K (.ref p_is_number) = true)
    (a_is_letter : PySem.W.nsIn K mainGlobals "is_letter" = some (some (.ref p_is_letter)))
    (l_is_letter : K.lookup p_is_letter = some ⟨oc_is_letter, u_is_letter, .func (PySem.W.fnOf "is_letter" "is_letter" (defArgs s_is_letter) (defBody s_is_letter) (defScope s_is_letter) .none kV_is_letter dc_is_letter pm_is_letter w_is_letter cd_is_letter ct_is_letter), sl_is_letter⟩)
    (c_is_letter : PySem.W.codeIn K cd_is_letter "is_letter" = true)
    (k_is_letter : PySem.W.keepIn K (.ref p_is_letter) = true)
    (a_is_word : PySem.W.nsIn K mainGlobals "is_word" = some (some (.ref p_is_word)))
    (l_is_word : K.lookup p_is_word = some ⟨oc_is_word, u_is_word, .func (PySem.W.fnOf "is_word" "is_word" (defArgs s_is_word) (defBody s_is_word) (defScope s_is_word) .none kV_is_word dc_is_word pm_is_word w_is_word cd_is_word ct_is_word), sl_is_word⟩)
    (c_is_word : PySem.W.codeIn K cd_is_word "is_word" = true)
    (k_is_word : PySem.W.keepIn K (.ref p_is_word) = true)
    (a_back_letter : PySem.W.nsIn K mainGlobals "back_letter" = some (some (.ref p_back_letter)))
    (l_back_letter : K.lookup p_back_letter = some ⟨oc_back_letter, u_back_letter, .func (PySem.W.fnOf "back_letter" "back_letter" (defArgs s_back_letter) (defBody s_back_letter) (defScope s_back_letter) .none kV_back_letter dc_back_letter pm_back_letter w_back_letter cd_back_letter ct_back_letter), sl_back_letter⟩)
    (c_back_letter : PySem.W.codeIn K cd_back_letter "back_letter" = true)
    (k_back_letter : PySem.W.keepIn K (.ref p_back_letter) = true)
    (a_back_word : PySem.W.nsIn K mainGlobals "back_word" = some (some (.ref p_back_word)))
    (l_back_word : K.lookup p_back_word = some ⟨oc_back_word, u_back_word, .func (PySem.W.fnOf "back_word" "back_word" (defArgs s_back_word) (defBody s_back_word) (defScope s_back_word) .none kV_back_word dc_back_word pm_back_word w_back_word cd_back_word ct_back_word), sl_back_word⟩)
    (c_back_word : PySem.W.codeIn K cd_back_word "back_word" = true)
    (k_back_word : PySem.W.keepIn K (.ref p_back_word) = true)
    (a_shortened : PySem.W.nsIn K mainGlobals "shortened" = some (some (.ref p_shortened)))
    (l_shortened : K.lookup p_shortened = some ⟨oc_shortened, u_shortened, .func (PySem.W.fnOf "shortened" "shortened" (defArgs s_shortened) (defBody s_shortened) (defScope s_shortened) .none kV_shortened dc_shortened pm_shortened w_shortened cd_shortened ct_shortened), sl_shortened⟩)
    (c_shortened : PySem.W.codeIn K cd_shortened "shortened" = true)
    (k_shortened : PySem.W.keepIn K (.ref p_shortened) = true)
    (a_joined : PySem.W.nsIn K mainGlobals "joined" = some (some (.ref p_joined)))
    (l_joined : K.lookup p_joined = some ⟨oc_joined, u_joined, .func (PySem.W.fnOf "joined" "joined" (defArgs s_joined) (defBody s_joined) (defScope s_joined) .none kV_joined dc_joined pm_joined w_joined cd_joined ct_joined), sl_joined⟩)
    (c_joined : PySem.W.codeIn K cd_joined "joined" = true)
    (k_joined : PySem.W.keepIn K (.ref p_joined) = true)
    (a_law : PySem.W.nsIn K mainGlobals "law" = some (some (.ref p_law)))
    (l_law : K.lookup p_law = some ⟨oc_law, u_law, .func (PySem.W.fnOf "law" "law" (defArgs s_law) (defBody s_law) (defScope s_law) .none kV_law dc_law pm_law w_law cd_law ct_law), sl_law⟩)
    (c_law : PySem.W.codeIn K cd_law "law" = true)
    (k_law : PySem.W.keepIn K (.ref p_law) = true)
    (z_int : PySem.W.nsIn K mainGlobals "int" = some none)
    (z_abs : PySem.W.nsIn K mainGlobals "abs" = some none)
    (z_list : PySem.W.nsIn K mainGlobals "list" = some none)
    (z_len : PySem.W.nsIn K mainGlobals "len" = some none)
    (z_range : PySem.W.nsIn K mainGlobals "range" = some none)
    (z_tuple : PySem.W.nsIn K mainGlobals "tuple" = some none)
    (z_isinstance : PySem.W.nsIn K mainGlobals "isinstance" = some none)
    (z_bool : PySem.W.nsIn K mainGlobals "bool" = some none)
    (z_all : PySem.W.nsIn K mainGlobals "all" = some none)
    (z_repr : PySem.W.nsIn K mainGlobals "repr" = some none) :
    ∃ fd : FuncData, (∀ (s : Shared) (v : Value), BindsTo s fd ⟨[v], []⟩ [("_law_script", v)]) ∧ ∀ base : Heap, K.In base → base.Ns mainGlobals mg → FnG l.prog w K mg base 4 fa fd ["_law_script"] (spOf K mg 1 f_law) := by
  have e := hfa.symm.trans (PySem.W.mg_of X G a_law)
  cases e
  refine ⟨PySem.W.fnOf "law" "law" (defArgs s_law) (defBody s_law) (defScope s_law) .none kV_law dc_law pm_law w_law cd_law ct_law, fun s v => .of_eq rfl, fun base X2 G2 => ?_⟩
  have G__law_open_cells : GlobFn l.prog w K mg base 1 "_law_open_cells" f__law_open_cells := globFn_in X G (st := s__law_open_cells) a__law_open_cells l__law_open_cells c__law_open_cells k__law_open_cells t__law_open_cells (fun _ _ _ _ _ _ us hl => match us, hl with | [_], _ => rfl) m__law_open_cells (reqs_of (l := r__law_open_cells) (lv := 0) _ q__law_open_cells (by decide +kernel) (show ReqsOk _ _ _ _ _ _ r__law_open_cells from ⟨PySem.W.mg_none_of X G z_int, PySem.W.mg_none_of X G z_abs, trivial⟩))
  have G__law_no_words : GlobFn l.prog w K mg base 1 "_law_no_words" f__law_no_words := globFn_in X G (st := s__law_no_words) a__law_no_words l__law_no_words c__law_no_words k__law_no_words t__law_no_words (fun _ _ _ _ _ _ us hl => match us, hl with | [_, _], _ => rfl) m__law_no_words (reqs_of (l := r__law_no_words) (lv := 0) _ q__law_no_words (by decide +kernel) (show ReqsOk _ _ _ _ _ _ r__law_no_words from ⟨PySem.W.mg_none_of X G z_list, trivial⟩))
  have G__law_pick : GlobFn l.prog w K mg base 1 "_law_pick" f__law_pick := globFn_in X G (st := s__law_pick) a__law_pick l__law_pick c__law_pick k__law_pick t__law_pick (fun _ _ _ _ _ _ us hl => match us, hl with | [_, _], _ => rfl) m__law_pick (reqs_of (l := r__law_pick) (lv := 0) _ q__law_pick (by decide +kernel) (show ReqsOk _ _ _ _ _ _ r__law_pick from ⟨PySem.W.mg_none_of X G z_len, PySem.W.mg_none_of X G z_int, trivial⟩))
  have G__law_draw_word : GlobFn l.prog w K mg base 2 "_law_draw_word" f__law_draw_word := globFn_in X G (st := s__law_draw_word) a__law_draw_word l__law_draw_word c__law_draw_word k__law_draw_word t__law_draw_word (fun _ _ _ _ _ _ us hl => match us, hl with | [_, _, _], _ => rfl) m__law_draw_word (reqs_of (l := r__law_draw_word) (lv := 1) _ q__law_draw_word (by decide +kernel) (show ReqsOk _ _ _ _ _ _ r__law_draw_word from ⟨PySem.W.mg_none_of X G z_range, G__law_pick, PySem.W.mg_none_of X G z_tuple, trivial⟩))
  have G__law_spots : GlobFn l.prog w K mg base 1 "_law_spots" f__law_spots := globFn_in X G (st := s__law_spots) a__law_spots l__law_spots c__law_spots k__law_spots t__law_spots (fun _ _ _ _ _ _ us hl => match us, hl with | [_], _ => rfl) m__law_spots (reqs_of (l := r__law_spots) (lv := 0) _ q__law_spots (by decide +kernel) (show ReqsOk _ _ _ _ _ _ r__law_spots from ⟨PySem.W.mg_none_of X G z_range, PySem.W.mg_none_of X G z_len, trivial⟩))
  have G__law_short : GlobFn l.prog w K mg base 2 "_law_short" f__law_short := globFn_in X G (st := s__law_short) a__law_short l__law_short c__law_short k__law_short t__law_short (fun _ _ _ _ _ _ us hl => match us, hl with | [_, _], _ => rfl) m__law_short (reqs_of (l := r__law_short) (lv := 1) _ q__law_short (by decide +kernel) (show ReqsOk _ _ _ _ _ _ r__law_short from ⟨PySem.W.mg_none_of X G z_range, PySem.W.mg_none_of X G z_len, G__law_spots, G__law_pick, trivial⟩))
  have G_is_number : GlobFn l.prog w K mg base 1 "is_number" f_is_number := globFn_in X G (st := s_is_number) a_is_number l_is_number c_is_number k_is_number t_is_number (fun _ _ _ _ _ _ us hl => match us, hl with | [_], _ => rfl) m_is_number (reqs_of (l := r_is_number) (lv := 0) _ q_is_number (by decide +kernel) (show ReqsOk _ _ _ _ _ _ r_is_number from ⟨PySem.W.mg_none_of X G z_isinstance, PySem.W.mg_none_of X G z_int, PySem.W.mg_none_of X G z_bool, trivial⟩))
  have G_is_letter : GlobFn l.prog w K mg base 2 "is_letter" f_is_letter := globFn_in X G (st := s_is_letter) a_is_letter l_is_letter c_is_letter k_is_letter t_is_letter (fun _ _ _ _ _ _ us hl => match us, hl with | [_, _], _ => rfl) m_is_letter (reqs_of (l := r_is_letter) (lv := 1) _ q_is_letter (by decide +kernel) (show ReqsOk _ _ _ _ _ _ r_is_letter from ⟨PySem.W.mg_none_of X G z_isinstance, PySem.W.mg_none_of X G z_tuple, PySem.W.mg_none_of X G z_len, PySem.W.mg_none_of X G z_all, G_is_number, trivial⟩))
  have G_is_word : GlobFn l.prog w K mg base 3 "is_word" f_is_word := globFn_in X G (st := s_is_word) a_is_word l_is_word c_is_word k_is_word t_is_word (fun _ _ _ _ _ _ us hl => match us, hl with | [_, _], _ => rfl) m_is_word (reqs_of (l := r_is_word) (lv := 2) _ q_is_word (by decide +kernel) (show ReqsOk _ _ _ _ _ _ r_is_word from ⟨PySem.W.mg_none_of X G z_isinstance, PySem.W.mg_none_of X G z_tuple, PySem.W.mg_none_of X G z_all, G_is_letter, trivial⟩))
  have G_back_letter : GlobFn l.prog w K mg base 1 "back_letter" f_back_letter := globFn_in X G (st := s_back_letter) a_back_letter l_back_letter c_back_letter k_back_letter t_back_letter (fun _ _ _ _ _ _ us hl => match us, hl with | [_], _ => rfl) m_back_letter (reqs_of (l := r_back_letter) (lv := 0) _ q_back_letter (by decide +kernel) (show ReqsOk _ _ _ _ _ _ r_back_letter from trivial))
  have G_back_word : GlobFn l.prog w K mg base 2 "back_word" f_back_word := globFn_in X G (st := s_back_word) a_back_word l_back_word c_back_word k_back_word t_back_word (fun _ _ _ _ _ _ us hl => match us, hl with | [_], _ => rfl) m_back_word (reqs_of (l := r_back_word) (lv := 1) _ q_back_word (by decide +kernel) (show ReqsOk _ _ _ _ _ _ r_back_word from ⟨PySem.W.mg_none_of X G z_tuple, G_back_letter, trivial⟩))
  have G_shortened : GlobFn l.prog w K mg base 2 "shortened" f_shortened := globFn_in X G (st := s_shortened) a_shortened l_shortened c_shortened k_shortened t_shortened (fun _ _ _ _ _ _ us hl => match us, hl with | [_], _ => rfl) m_shortened (reqs_of (l := r_shortened) (lv := 1) _ q_shortened (by decide +kernel) (show ReqsOk _ _ _ _ _ _ r_shortened from ⟨G_back_letter, PySem.W.mg_none_of X G z_tuple, trivial⟩))
  have G_joined : GlobFn l.prog w K mg base 3 "joined" f_joined := globFn_in X G (st := s_joined) a_joined l_joined c_joined k_joined t_joined (fun _ _ _ _ _ _ us hl => match us, hl with | [_, _], _ => rfl) m_joined (reqs_of (l := r_joined) (lv := 2) _ q_joined (by decide +kernel) (show ReqsOk _ _ _ _ _ _ r_joined from ⟨G_shortened, trivial⟩))
  exact fnG_of (fun_mk (st := s_law) l_law c_law k_law) t_law m_law (reqs_of (l := r_law) (lv := 3) _ q_law (by decide +kernel) (show ReqsOk _ _ _ _ _ _ r_law from ⟨G__law_open_cells.up (by decide), PySem.W.mg_none_of X G z_range, G__law_pick.up (by decide), G__law_draw_word.up (by decide), PySem.W.mg_none_of X G z_tuple, G__law_short.up (by decide), PySem.W.mg_none_of X G z_repr, G_is_word, G_back_word.up (by decide), G_shortened.up (by decide), G_joined, G__law_no_words.up (by decide), trivial⟩))
end MK

open PySem PySem.W PyProof.Rows
set_option maxHeartbeats 0 in
theorem PySem.Challenge.cw_ballmoves_k43_words_shortened_holds : PySem.Challenge.rw_ballmoves_k43_words_shortened.Holds := by
  w_on; o_law; k_head; (case hw => w_witness2)
  k_fill
  refine MP.walk_ofG (l := PySem.Challenge.rw_ballmoves_k43_words_shortened) (n := 63) (k := 4) (x := "_law_script") (sem := MK.f_law) rfl (by decide) rfl ⟨rfl, by decide, by decide⟩ (fun w h Y => PySem.W.kIn_of Y) ?F MK.law_true
  case F =>
    intro w mg fa h KX G hmg
    refine' MK.all_mk KX G hmg ?a__law_open_cells ?l__law_open_cells ?c__law_open_cells ?k__law_open_cells ?a__law_no_words ?l__law_no_words ?c__law_no_words ?k__law_no_words ?a__law_pick ?l__law_pick ?c__law_pick ?k__law_pick ?a__law_draw_word ?l__law_draw_word ?c__law_draw_word ?k__law_draw_word ?a__law_spots ?l__law_spots ?c__law_spots ?k__law_spots ?a__law_short ?l__law_short ?c__law_short ?k__law_short ?a_is_number ?l_is_number ?c_is_number ?k_is_number ?a_is_letter ?l_is_letter ?c_is_letter ?k_is_letter ?a_is_word ?l_is_word ?c_is_word ?k_is_word ?a_back_letter ?l_back_letter ?c_back_letter ?k_back_letter ?a_back_word ?l_back_word ?c_back_word ?k_back_word ?a_shortened ?l_shortened ?c_shortened ?k_shortened ?a_joined ?l_joined ?c_joined ?k_joined ?a_law ?l_law ?c_law ?k_law ?z_int ?z_abs ?z_list ?z_len ?z_range ?z_tuple ?z_isinstance ?z_bool ?z_all ?z_repr
    (case a__law_open_cells => k_is)
    (case l__law_open_cells => k_is)
    (case c__law_open_cells => k_is)
    (case k__law_open_cells => k_is)
    (case a__law_no_words => k_is)
    (case l__law_no_words => k_is)
    (case c__law_no_words => k_is)
    (case k__law_no_words => k_is)
    (case a__law_pick => k_is)
    (case l__law_pick => k_is)
    (case c__law_pick => k_is)
    (case k__law_pick => k_is)
    (case a__law_draw_word => k_is)
    (case l__law_draw_word => k_is)
    (case c__law_draw_word => k_is)
    (case k__law_draw_word => k_is)
    (case a__law_spots => k_is)
    (case l__law_spots => k_is)
    (case c__law_spots => k_is)
    (case k__law_spots => k_is)
    (case a__law_short => k_is)
    (case l__law_short => k_is)
    (case c__law_short => k_is)
    (case k__law_short => k_is)
    (case a_is_number => k_is)
    (case l_is_number => k_is)
    (case c_is_number => k_is)
    (case k_is_number => k_is)
    (case a_is_letter => k_is)
    (case l_is_letter => k_is)
    (case c_is_letter => k_is)
    (case k_is_letter => k_is)
    (case a_is_word => k_is)
    (case l_is_word => k_is)
    (case c_is_word => k_is)
    (case k_is_word => k_is)
    (case a_back_letter => k_is)
    (case l_back_letter => k_is)
    (case c_back_letter => k_is)
    (case k_back_letter => k_is)
    (case a_back_word => k_is)
    (case l_back_word => k_is)
    (case c_back_word => k_is)
    (case k_back_word => k_is)
    (case a_shortened => k_is)
    (case l_shortened => k_is)
    (case c_shortened => k_is)
    (case k_shortened => k_is)
    (case a_joined => k_is)
    (case l_joined => k_is)
    (case c_joined => k_is)
    (case k_joined => k_is)
    (case a_law => k_is)
    (case l_law => k_is)
    (case c_law => k_is)
    (case k_law => k_is)
    (case z_int => k_is)
    (case z_abs => k_is)
    (case z_list => k_is)
    (case z_len => k_is)
    (case z_range => k_is)
    (case z_tuple => k_is)
    (case z_isinstance => k_is)
    (case z_bool => k_is)
    (case z_all => k_is)
    (case z_repr => k_is)
