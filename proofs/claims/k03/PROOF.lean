import PyProof.Rows.All
import KE.SortData
import KE.DataEq
import KE.DataCmp
import KE.DataMinMax
import KE.DataAny
import KE.DataIsa
import KE.KeyNested
import PyProof.ReprReads
import HandS.ForMost
import HandS.TupAny
import HandS.TupMul
import HandS.Zip
import HandS.Conv
import HandS.Flow
import HandS.Style
import HandS.Walk
import KE.LtSeq
import KE.KDictKeyed
import KE.KDictWalk
import KE.KDictCopyH
import HandS.Dict
import KE.GoesEnumKw
import HandS.SortKw
import HandS.IsInst
import KE.KDictSum
import KE.GoesEnum
import KE.KRevSl
import HandS.DictComp
import HandS.Codes
import HandS.TryOnly
import HandS.Ends
import PyProof.ReprLen
import KE.SortLaws
import PyProof.Rows.ReprOcc
import PySem.Challenge.RW_stackedputs_k03_standings_recognized
set_option Elab.async false
set_option linter.all false
set_option maxRecDepth 1000000
set_option maxHeartbeats 4000001

/-! SpCore: a small core language over data, and its evaluator.
A slot holds data that nobody changes (dat), or an object that this slot alone owns and may change (own).
The evaluator is partial: none says nothing. -/
namespace SP
open PySem PySem.W PyProof.Rows

abbrev D := PyData

/-- an owned object: a list, a dict -/
inductive MO where
  | lst (ds : List D)
  | dct (kvs : List (D × D))
  deriving Inhabited
def MO.data : MO → D
  | .lst ds => .list ds
  | .dct kvs => .dict kvs
inductive Sl where
  | dat (d : D)
  | own (m : MO)
  deriving Inhabited
def Sl.data : Sl → D
  | .dat d => d
  | .own m => m.data
/-- an expression's result: data; an object just made; the object owned by slot i -/
inductive R where
  | dat (d : D)
  | new (m : MO)
  | loc (i : Nat)
  deriving Inhabited
def Sl.res : Sl → R
  | .dat d => .dat d
  | .own m => .new m
abbrev Env := List (Option Sl)

inductive Blt where
  | len | int | repr | tuple | list | sorted | sortedSet | lenSet | min | max | sum | all | any | dict
  deriving DecidableEq, Inhabited
/-- built-in classes that isinstance is asked about -/
inductive Ty where
  | int | bool | str | tuple | list | dict
  deriving DecidableEq, Inhabited
inductive Mth where
  | get | index | join | split | upper | startswith | endswith | find
  deriving DecidableEq, Inhabited

/-- targets of for and of comprehensions: a name, names -/
inductive Tg where
  | name (i : Nat)
  | tup (is : List Nat)
  deriving Inhabited, DecidableEq

mutual
inductive E (F : Type) where
  | loc (i : Nat)
  | cst (d : D)
  | glo (d : D)
  | bin (op : Operator) (a b : E F)
  | neg (a : E F)
  | not (a : E F)
  | and (a b : E F)
  | or (a b : E F)
  | cmp (op : CmpOp) (a b : E F)
  | chain (op op' : CmpOp) (a b c : E F)
  | ite (c a b : E F)
  | call (f : F) (as : Es F)
  | blt (b : Blt) (as : Es F)
  | isi (many : Bool) (tys : List Ty) (e : E F)
  | rng (tup : Bool) (a b : E F)
  | mth (m : Mth) (o : E F) (as : Es F)
  | tup (es : Es F)
  | lst (es : Es F)
  | dct0
  | dct1 (k v : E F)
  | idx (a b : E F)
  | slc (a : E F) (lo hi : Option Int) (elo ehi : Es F)
  | rev (a : E F)
  | comp (elt : E F) (tg : Tg) (it : I F) (cond : Es F) (own : List Nat)
  | dcomp (ke ve : E F) (tg : Tg) (it : I F) (cond : Es F) (own : List Nat)
  | comp2 (elt : E F) (tg : Tg) (it : I F) (cond : Es F) (tg1 : Tg) (it1 : I F) (cond1 : Es F) (own own1 : List Nat)
  | dcomp2 (ke ve : E F) (tg : Tg) (it : I F) (cond : Es F) (tg1 : Tg) (it1 : I F) (cond1 : Es F) (own own1 : List Nat)
  | compO (elt : E F) (tg : Tg) (i : Nat) (cond : Es F) (own : List Nat)
  | pop (i : Nat) (as : Es F)
/-- expressions in a row; ref i: the object of slot i handed on -/
inductive Es (F : Type) where
  | nil
  | cons (e : E F) (es : Es F)
  | ref (i : Nat) (es : Es F)
/-- what is walked -/
inductive I (F : Type) where
  | val (e : E F)
  | rng1 (b : E F)
  | rng2 (a b : E F)
  | enum (e : E F)
  | zip (a b : E F)
end

mutual
inductive C (F : Type) where
  | expr (e : E F)
  | set (i : Nat) (e : E F)
  | setO (i : Nat) (e : E F)
  | par (ts : List (Nat × Bool)) (es : Es F)
  | unp (is : List Nat) (e : E F)
  | app (i : Nat) (e : E F)
  | sto (i : Nat) (k e : E F)
  | clr (i : Nat)
  | aug (i : Nat) (e : E F)
  | ite (c : E F) (a b : Cs F)
  | whl (c : E F) (b : Cs F)
  | for (tg : Tg) (it : I F) (b : Cs F)
  | ret (e : E F)
  | cont
inductive Cs (F : Type) where
  | nil
  | cons (c : C F) (cs : Cs F)
end

/-- a def: how many parameters, how many slots, which parameters may be objects to change, its body -/
structure Def (F : Type) where
  ps : Nat
  ns : Nat
  refs : List Nat
  body : Cs F

/-! ### operations on data -/
def szMax : Nat := 1000000

def binD : Operator → D → D → Option Sl
  | .Add, .int i, .int j => some (.dat (.int (i + j)))
  | .Add, .list a, .list b => if a.length + b.length ≤ szMax then some (.own (.lst (a ++ b))) else none
  | .Add, .tuple a, .tuple b => if a.length + b.length ≤ szMax then some (.dat (.tuple (a ++ b))) else none
  | .Add, .str a, .str b => if a.length + b.length ≤ szMax then some (.dat (.str (a ++ b))) else none
  | .Sub, .int i, .int j => some (.dat (.int (i - j)))
  | .Mult, .int i, .int j => if (-(2 ^ 64) < i ∧ i < 2 ^ 64) ∨ (-(2 ^ 64) < j ∧ j < 2 ^ 64) then some (.dat (.int (i * j))) else none
  | .Mult, .tuple a, .int n => if a.length ≤ 1000 ∧ -1000 ≤ n ∧ n ≤ 1000 then some (.dat (.tuple (List.replicate n.toNat a).flatten)) else none
  | .Mult, .list a, .int n => if a.length ≤ 1000 ∧ -1000 ≤ n ∧ n ≤ 1000 then some (.own (.lst (List.replicate n.toNat a).flatten)) else none
  | .Mod, .int i, .int j => if 0 < j then some (.dat (.int (i % j))) else none
  | .FloorDiv, .int i, .int j => if 0 < j ∧ j < 1073741824 then some (.dat (.int (i / j))) else none
  | .Pow, .int i, .int j => if 0 ≤ j ∧ j ≤ 1000000 ∧ i.natAbs < 2 ^ 64 then some (.dat (.int (i ^ j.toNat))) else none
  | _, _, _ => none

mutual
/-- a key of a dict -/
def keyOf : D → Option NestedKey
  | .none => some .none
  | .bool b => some (.num (if b = true then 1 else 0))
  | .int i => some (.num i)
  | .str x => some (.text x)
  | .tuple xs => (keysOf xs).map .tup
  | .list _ => none
  | .dict _ => none
def keysOf : List D → Option (List NestedKey)
  | [] => some []
  | x :: xs => match keyOf x, keysOf xs with
    | some k, some ks => some (k :: ks)
    | _, _ => none
end
/-- keys of one kind: ints and texts, or tuples -/
def leafK : D → Bool
  | .int _ | .str _ => true
  | _ => false
def tupK : D → Bool
  | .tuple _ => true
  | _ => false
def famK (kvs : List (D × D)) (d : D) : Option NestedKey := match keyOf d with
  | some k => if decide (k.depth ≤ 8) && ((leafK d && kvs.all fun kv => leafK kv.1) || (tupK d && kvs.all fun kv => tupK kv.1)) then some k else none
  | none => none
def look (kvs : List (D × D)) (k : NestedKey) : Option D := (kvs.find? fun kv => keyOf kv.1 == some k).map (·.2)
def put (kvs : List (D × D)) (k : NestedKey) (kd v : D) : List (D × D) :=
  if (look kvs k).isSome then kvs.map fun kv => if keyOf kv.1 == some k then (kv.1, v) else kv else kvs ++ [(kd, v)]
def del (kvs : List (D × D)) (k : NestedKey) : List (D × D) := kvs.filter fun kv => !(keyOf kv.1 == some k)

mutual
/-- no dict in it, at most so deep -/
def sm : Nat → D → Bool
  | _, .none | _, .bool _ | _, .int _ | _, .str _ => true
  | 0, .list _ | 0, .tuple _ => false
  | n + 1, .list xs | n + 1, .tuple xs => smAll n xs
  | _, .dict _ => false
def smAll : Nat → List D → Bool
  | _, [] => true
  | n, x :: xs => sm n x && smAll n xs
end
def deepest : Nat := 60
def notNone : D → Bool
  | .none => false
  | _ => true
def eqD (x y : D) : Option Bool := if sm deepest x && sm deepest y then some (PyData.eqv x y) else none
def ordD (x y : D) : Bool := sm deepest x && sm deepest y && alike x y && notNone x
def ltD (x y : D) : Option Bool := if ordD x y then some (dataLt x y) else none
def inD (x y : D) : Option Bool :=
  match y with
  | .list ys => if sm deepest x && smAll deepest ys then some (ys.any fun z => PyData.eqv z x) else none
  | .tuple ys => if sm deepest x && smAll deepest ys then some (ys.any fun z => PyData.eqv z x) else none
  | .dict kvs => match famK kvs x with
    | some k => some (look kvs k).isSome
    | none => none
  | _ => none
def isNoneD : D → Bool
  | .none => true
  | _ => false
def isD (x y : D) : Option Bool :=
  match y with
  | .none => some (isNoneD x)
  | .bool b => match x with
    | .bool c => some (decide (c = b))
    | _ => none
  | _ => none
def cmpD : CmpOp → D → D → Option Bool
  | .Eq, x, y => eqD x y
  | .NotEq, x, y => (eqD x y).map (!·)
  | .Lt, x, y => ltD x y
  | .Gt, x, y => if ordD x y then some (dataLt y x) else none
  | .LtE, x, y => if ordD x y then some (!dataLt y x) else none
  | .GtE, x, y => (ltD x y).map (!·)
  | .In, x, y => inD x y
  | .NotIn, x, y => (inD x y).map (!·)
  | .Is, x, y => isD x y
  | .IsNot, x, y => (isD x y).map (!·)

def isTy : D → Ty → Bool
  | .int _, .int | .bool _, .int | .bool _, .bool | .str _, .str | .tuple _, .tuple | .list _, .list | .dict _, .dict => true
  | _, _ => false

def seqD : D → Option (List D)
  | .list xs => some xs
  | .tuple xs => some xs
  | _ => none
/-- what is unpacked -/
def unpOf : D → Option (List D)
  | .tuple xs => some xs
  | .list xs => some xs
  | _ => none
def tupOf : D → Option (List D)
  | .tuple xs => some xs
  | _ => none
def zipD : D → D → Option (List D)
  | .list xs, .list ys => some ((xs.zip ys).map fun (u, v) => .tuple [u, v])
  | .tuple xs, .tuple ys => some ((xs.zip ys).map fun (u, v) => .tuple [u, v])
  | _, _ => none
/-- what list(x), tuple(x), sorted(x), for .. in x take from x -/
def itemsD : D → Option (List D)
  | .list xs => some xs
  | .tuple xs => some xs
  | .dict kvs => some (kvs.map (·.1))
  | _ => none
def allAlike (ds : List D) : Bool := ds.all fun x => ds.all fun y => alike x y
def sortable (ds : List D) : Bool :=
  (ds.all fun d => match d with | .tuple _ => true | _ => false) || (ds.all fun d => match d with | .none => false | .tuple _ => false | _ => true)
def sortD (ds : List D) : List D := ds.mergeSort (PySem.W.dataLe false id)
def dedup : List D → List D
  | x :: y :: r => if PyData.eqv x y then dedup (y :: r) else x :: dedup (y :: r)
  | l => l
def intsD : List D → Option (List Int)
  | [] => some []
  | .int i :: r => (intsD r).map (i :: ·)
  | _ :: _ => none
def boolsD : List D → Option (List Bool)
  | [] => some []
  | .bool b :: r => (boolsD r).map (b :: ·)
  | _ :: _ => none
def pairsD : List D → Option (List (D × D))
  | [] => some []
  | .tuple [k, v] :: r => (pairsD r).map ((k, v) :: ·)
  | _ :: _ => none
def putAll : List (D × D) → List (D × D) → Option (List (D × D))
  | acc, [] => some acc
  | acc, (k, v) :: r => (keyOf k).bind fun kk => putAll (put acc kk k v) r

def okSort (ds : List D) : Bool := smAll deepest ds && allAlike ds && sortable ds
def okMin (ds : List D) : Bool := smAll deepest ds && allAlike ds && ds.all notNone
def lenD : List D → Option Sl
  | [.list xs] => some (.dat (.int xs.length))
  | [.tuple xs] => some (.dat (.int xs.length))
  | [.dict kvs] => some (.dat (.int kvs.length))
  | [.str s] => if s.length ≤ szMax then some (.dat (.int s.length)) else none
  | _ => none
def toIntD : List D → Option Sl
  | [.int i] => some (.dat (.int i))
  | [.bool b] => some (.dat (.int (if b then 1 else 0)))
  | _ => none
def reprD : List D → Option Sl
  | [x] => if x.showable && decide (x.depth ≤ deepest) && decide (x.shown.length ≤ szMax) then some (.dat (.str x.shown)) else none
  | _ => none
def tupleD : List D → Option Sl
  | [x] => (seqD x).map fun xs => .dat (.tuple xs)
  | _ => none
def listD : List D → Option Sl
  | [x] => (itemsD x).map fun xs => .own (.lst xs)
  | _ => none
def sortedD : List D → Option Sl
  | [x] => match itemsD x with
    | some xs => if okSort xs then some (.own (.lst (sortD xs))) else none
    | none => none
  | _ => none
def minOf : List D → Option Sl
  | [.list (d :: ds)] => if okMin (d :: ds) then some (.dat (minD d ds)) else none
  | [.int i, .int j] => some (.dat (.int (if j < i then j else i)))
  | _ => none
def maxOf : List D → Option Sl
  | [.list (d :: ds)] => if okMin (d :: ds) then some (.dat (maxD d ds)) else none
  | [.int i, .int j] => some (.dat (.int (if j > i then j else i)))
  | _ => none
def sumD : List D → Option Sl
  | [.list xs] => (intsD xs).map fun ns => .dat (.int ns.sum)
  | _ => none
def allD : List D → Option Sl
  | [.list xs] => (boolsD xs).map fun bs => .dat (.bool (bs.all id))
  | _ => none
def anyD : List D → Option Sl
  | [.list xs] => (boolsD xs).map fun bs => .dat (.bool (bs.any id))
  | _ => none
def bltD : Blt → List D → Option Sl
  | .len => lenD
  | .int => toIntD
  | .repr => reprD
  | .tuple => tupleD
  | .list => listD
  | .sorted => sortedD
  | .min => minOf
  | .max => maxOf
  | .sum => sumD
  | .all => allD
  | .any => anyD
  | .sortedSet => fun _ => none
  | .lenSet => fun _ => none
  | .dict => fun _ => none

def ixOf (n : Nat) (i : Int) : Option Nat :=
  if 0 ≤ i then (if i < n then some i.toNat else none) else (if 0 ≤ i + n then some (i + n).toNat else none)
def idxD : D → D → Option D
  | .list xs, .int i => (ixOf xs.length i).bind fun k => xs[k]?
  | .tuple xs, .int i => (ixOf xs.length i).bind fun k => xs[k]?
  | .dict kvs, x => match famK kvs x with
    | some k => look kvs k
    | none => none
  | _, _ => none
/-- a pair put into a dict -/
def putF (kvs : List (D × D)) (x y : D) : Option (List (D × D)) := match famK kvs x with
  | some kk => if kvs.length < szMax then some (put kvs kk x y) else none
  | none => none
/-- a slice's bound brought into 0 .. n -/
def clampI (n : Nat) (i : Int) : Nat := if i < 0 then (i + n).toNat else min i.toNat n
def bndI (n d : Nat) : Option Int → Nat
  | none => d
  | some i => clampI n i
def cutL (xs : List D) (lo hi : Option Int) : List D :=
  (xs.drop (bndI xs.length 0 lo)).take (bndI xs.length xs.length hi - bndI xs.length 0 lo)
def slcD (x : D) (lo hi : Option Int) : Option Sl :=
  match x with
  | .list xs => some (.own (.lst (cutL xs lo hi)))
  | .tuple xs => some (.dat (.tuple (cutL xs lo hi)))
  | _ => none
def revD : D → Option Sl
  | .list xs => some (.own (.lst xs.reverse))
  | .tuple xs => some (.dat (.tuple xs.reverse))
  | _ => none
def intOf : D → Option Int
  | .int i => some i
  | _ => none
def boolOf : D → Option Bool
  | .bool b => some b
  | _ => none
mutual
/-- no list and no dict in it: nothing that could be changed -/
def immD : D → Bool
  | .none | .bool _ | .int _ | .str _ => true
  | .tuple xs => immAll xs
  | .list _ | .dict _ => false
def immAll : List D → Bool
  | [] => true
  | x :: xs => immD x && immAll xs
end
def getD : D → List D → Option D
  | .dict kvs, [k] => (famK kvs k).map fun k => (look kvs k).getD .none
  | .dict kvs, [k, x] => if immD x then (famK kvs k).map fun k => (look kvs k).getD x else none
  | _, _ => none
def indexD : D → List D → Option D
  | .list xs, [x] => if sm deepest x && smAll deepest xs then (xs.findIdx? fun y => PyData.eqv y x).map fun n => .int n else none
  | .tuple xs, [x] => if sm deepest x && smAll deepest xs then (xs.findIdx? fun y => PyData.eqv y x).map fun n => .int n else none
  | _, _ => none
def mthD : Mth → D → List D → Option D
  | .get, x, ds => getD x ds
  | .index, x, ds => indexD x ds
  | _, _, _ => none
/-- the receiver's class, known ahead of the arguments -/
def mthOk : Mth → D → Bool
  | .get, .dict _ => true
  | _, _ => false
def popM : MO → List D → Option (D × MO)
  | .lst ds, [] => match ds.getLast? with
    | some d => some (d, .lst ds.dropLast)
    | none => none
  | .lst ds, [.int i] => (ixOf ds.length i).bind fun k => (ds[k]?).map fun d => (d, .lst (ds.eraseIdx k))
  | .dct kvs, [k] => (keyOf k).bind fun k => (look kvs k).map fun d => (d, .dct (del kvs k))
  | _, _ => none
def stoM : MO → D → D → Option MO
  | .lst ds, .int i, d => (ixOf ds.length i).map fun k => .lst (ds.set k d)
  | .dct kvs, k, d => (putF kvs k d).map .dct
  | _, _, _ => none
def rngL (a b : Int) : List D := (List.range (b - a).toNat).map fun i => .int (a + (i : Nat))
def okRng (a b : Int) : Bool := decide (-(2 ^ 62) ≤ a) && decide (a < 2 ^ 62) && decide (-(2 ^ 62) ≤ b) && decide (b < 2 ^ 62)
/-- a result that can hold no object of the caller's -/
def cleanS : Sl → Bool
  | .dat d => immD d
  | .own (.lst ds) => immAll ds
  | .own (.dct kvs) => immAll (kvs.map (·.1)) && immAll (kvs.map (·.2))

/-! ### the evaluator -/
def slot (ρ : Env) (i : Nat) : Option Sl := (ρ[i]?).join
/-- the slot's object is from now on data: nobody changes it any more -/
def freeze (ρ : Env) (i : Nat) : Option (D × Env) :=
  match slot ρ i with
  | some s => some (s.data, ρ.set i (some (.dat s.data)))
  | none => none
/-- the data that a result stands for now -/
def res (ρ : Env) : R → Option D
  | .dat d => some d
  | .new m => some m.data
  | .loc i => (slot ρ i).map Sl.data
def ress (ρ : Env) : List R → Option (List D)
  | [] => some []
  | r :: rs => match res ρ r, ress ρ rs with
    | some d, some ds => some (d :: ds)
    | _, _ => none
/-- a result that goes into another object, or is given another name -/
def esc (p : R × Env) : Option (D × Env) :=
  match p.1 with
  | .dat d => some (d, p.2)
  | .new m => some (m.data, p.2)
  | .loc i => freeze p.2 i
def assignT (ρ : Env) : Tg → D → Option Env
  | .name i, d => some (ρ.set i (some (.dat d)))
  | .tup is, d => match tupOf d with
    | some ds => if ds.length = is.length then some ((is.zip ds).foldl (fun ρ p => ρ.set p.1 (some (.dat p.2))) ρ) else none
    | none => none
def wipeE (ρ : Env) : List Nat → Env
  | [] => ρ
  | v :: vs => (wipeE ρ vs).set v none
def isOwn : Option Sl → Bool
  | some (.own _) => true
  | _ => false
/-- behind a comprehension the block's own names are as they were -/
def backE (ρ ρ' : Env) : List Nat → Env
  | [] => ρ'
  | v :: vs => (backE ρ ρ' vs).set v (slot ρ v)

/-- an argument: a result, or the object of slot i handed on -/
inductive Arg where
  | val (r : R)
  | ref (i : Nat)
def argSl (ρ : Env) : Arg → Option Sl
  | .val r => (res ρ r).map .dat
  | .ref i => slot ρ i
def argSls (ρ : Env) : List Arg → Option (List Sl)
  | [] => some []
  | a :: as => match argSl ρ a, argSls ρ as with
    | some s, some ss => some (s :: ss)
    | _, _ => none
def refsOf : List Arg → List Nat
  | [] => []
  | .ref i :: as => i :: refsOf as
  | .val _ :: as => refsOf as
def lentOf : List Arg → List Nat
  | [] => []
  | .val (.loc i) :: as => i :: lentOf as
  | _ :: as => lentOf as
def putBack (ρ : Env) : List Nat → List MO → Option Env
  | [], [] => some ρ
  | i :: is, m :: ms => putBack (ρ.set i (some (.own m))) is ms
  | _, _ => none
def back : List Sl → List MO → List Sl
  | [], _ => []
  | .dat d :: ss, ms => .dat d :: back ss ms
  | .own _ :: ss, m :: ms => .own m :: back ss ms
  | .own m :: ss, [] => .own m :: back ss []
def freezeAll (ρ : Env) : List Nat → Option Env
  | [] => some ρ
  | i :: is => (freeze ρ i).bind fun p => freezeAll p.2 is

/-- a comprehension's turns -/
def turns (fE : Env → Option (R × Env)) (fC : Env → Option (Bool × Env)) (tg : Tg) (own : List Nat) : List D → Env → Option (List D × Env)
  | [], ρ => some ([], ρ)
  | d :: ds, ρ => (assignT ρ tg d).bind fun ρ1 => (fC ρ1).bind fun (k, ρ2) => match k with
      | true => (fE ρ2).bind fun p => (esc p).bind fun (y, ρ3) => (turns fE fC tg own ds (wipeE ρ3 own)).map fun (ys, ρ4) => (y :: ys, ρ4)
      | false => turns fE fC tg own ds (wipeE ρ2 own)

/-- the turns of a comprehension that fills an object; el: what one turn adds -/
def turnsM (el : MO → Env → Option (MO × Env)) (fC : Env → Option (Bool × Env)) (tg : Tg) (own : List Nat) : List D → MO → Env → Option (MO × Env)
  | [], m, ρ => some (m, ρ)
  | d :: ds, m, ρ => (assignT ρ tg d).bind fun ρ1 => (fC ρ1).bind fun (k, ρ2) => match k with
      | true => (el m ρ2).bind fun (m', ρ3) => turnsM el fC tg own ds m' (wipeE ρ3 own)
      | false => turnsM el fC tg own ds m (wipeE ρ2 own)
def elL (fE : Env → Option (R × Env)) : MO → Env → Option (MO × Env) := fun m ρ => (fE ρ).bind fun p => (esc p).bind fun (y, ρ1) => match m with
  | .lst ds => if ds.length < szMax then some (.lst (ds ++ [y]), ρ1) else none
  | _ => none
def elD (fK fV : Env → Option (R × Env)) : MO → Env → Option (MO × Env) := fun m ρ => (fK ρ).bind fun p => (esc p).bind fun (x, ρ1) => (fV ρ1).bind fun q => (esc q).bind fun (y, ρ2) => match m with
  | .dct kvs => (putF kvs x y).map fun kvs' => (.dct kvs', ρ2)
  | _ => none
/-- a second walk within -/
def el2 (fI : Env → Option (List D × Env)) (el : MO → Env → Option (MO × Env)) (fC : Env → Option (Bool × Env)) (tg : Tg) (own : List Nat) : MO → Env → Option (MO × Env) := fun m ρ => (fI ρ).bind fun (ds, ρ1) => turnsM el fC tg own ds m (wipeE ρ1 own)
/-- a comprehension that fills the object m0 -/
def compM (fI : Env → Option (List D × Env)) (el : MO → Env → Option (MO × Env)) (fC : Env → Option (Bool × Env)) (tg : Tg) (own : List Nat) (m0 : MO) (ρ : Env) : Option (R × Env) := (fI ρ).bind fun (ds, ρ1) =>
  if own.all (fun v => !isOwn (slot ρ1 v) && decide (v < ρ1.length)) then (turnsM el fC tg own ds m0 (wipeE ρ1 own)).map fun (m, ρ2) => (.new m, backE ρ1 ρ2 own) else none

/-- a comprehension over the list of slot i, that stays its owner's: nobody meets it meanwhile -/
def compOwn (el : MO → Env → Option (MO × Env)) (fC : Env → Option (Bool × Env)) (tg : Tg) (i : Nat) (own : List Nat) (ρ : Env) : Option (R × Env) := match slot ρ i with
  | some (.own (.lst ds)) => (compM (fun ρ => some (ds, ρ)) el fC tg own (.lst []) (ρ.set i none)).map fun (r, ρ2) => (r, ρ2.set i (some (.own (.lst ds))))
  | _ => none

section
variable {F : Type} (Φ : F → List Sl → Option (Sl × List MO))

def callE (f : F) (as : List Arg) (ρ : Env) : Option (R × Env) :=
  match argSls ρ as with
  | none => none
  | some ss =>
    if (refsOf as).Nodup ∧ (∀ i ∈ refsOf as, isOwn (slot ρ i) = true) ∧ (∀ i ∈ lentOf as, i ∉ refsOf as) then
      match Φ f ss with
      | none => none
      | some (s, ms) =>
        match (if (refsOf as).isEmpty && cleanS s then some ρ else freezeAll ρ (lentOf as)) with
        | none => none
        | some ρ1 => (putBack ρ1 (refsOf as) ms).map fun ρ2 => (s.res, ρ2)
    else none

mutual
def evE : E F → Env → Option (R × Env)
  | .loc i, ρ => match slot ρ i with
    | some (.dat d) => some (.dat d, ρ)
    | some (.own _) => some (.loc i, ρ)
    | none => none
  | .cst d, ρ => some (.dat d, ρ)
  | .glo d, ρ => some (.dat d, ρ)
  | .bin op a b, ρ => (evE a ρ).bind fun (r, ρ1) => (evE b ρ1).bind fun (q, ρ2) =>
      (res ρ2 r).bind fun x => (res ρ2 q).bind fun y => (binD op x y).map fun s => (s.res, ρ2)
  | .neg a, ρ => (evE a ρ).bind fun (r, ρ1) => (res ρ1 r).bind fun x => (intOf x).map fun i => (.dat (.int (-i)), ρ1)
  | .not a, ρ => (evE a ρ).bind fun (r, ρ1) => (res ρ1 r).bind fun x => (boolOf x).map fun b => (.dat (.bool (!b)), ρ1)
  | .and a b, ρ => (evE a ρ).bind fun (r, ρ1) => (res ρ1 r).bind fun x => (boolOf x).bind fun k => match k with
      | true => (evE b ρ1).bind fun (q, ρ2) => (res ρ2 q).bind fun y => (boolOf y).map fun k2 => (.dat (.bool k2), ρ2)
      | false => some (.dat (.bool false), ρ1)
  | .or a b, ρ => (evE a ρ).bind fun (r, ρ1) => (res ρ1 r).bind fun x => (boolOf x).bind fun k => match k with
      | false => (evE b ρ1).bind fun (q, ρ2) => (res ρ2 q).bind fun y => (boolOf y).map fun k2 => (.dat (.bool k2), ρ2)
      | true => some (.dat (.bool true), ρ1)
  | .cmp op a b, ρ => (evE a ρ).bind fun (r, ρ1) => (evE b ρ1).bind fun (q, ρ2) =>
      (res ρ2 r).bind fun x => (res ρ2 q).bind fun y => (cmpD op x y).map fun k => (.dat (.bool k), ρ2)
  | .chain op op' a b c, ρ => (evE a ρ).bind fun (r, ρ1) => (evE b ρ1).bind fun (q, ρ2) =>
      (res ρ2 r).bind fun x => (res ρ2 q).bind fun y => (cmpD op x y).bind fun k => match k with
        | false => some (.dat (.bool false), ρ2)
        | true => (evE c ρ2).bind fun (t, ρ3) => (res ρ3 q).bind fun y => (res ρ3 t).bind fun z => (cmpD op' y z).map fun k => (.dat (.bool k), ρ3)
  | .ite c a b, ρ => (evE c ρ).bind fun (r, ρ1) => (res ρ1 r).bind fun x => (boolOf x).bind fun k => match k with
      | true => evE a ρ1
      | false => evE b ρ1
  | .call f as, ρ => (evA as ρ).bind fun (rs, ρ1) => callE Φ f rs ρ1
  | .blt b as, ρ => (evEs as ρ).bind fun (rs, ρ1) => (ress ρ1 rs).bind fun ds => (bltD b ds).map fun s => (s.res, ρ1)
  | .isi _ tys e, ρ => (evE e ρ).bind fun (r, ρ1) => (res ρ1 r).map fun x => (.dat (.bool (tys.any (isTy x))), ρ1)
  | .rng tup a b, ρ => (evE a ρ).bind fun (r, ρ1) => (evE b ρ1).bind fun (q, ρ2) =>
      (res ρ2 r).bind fun x => (res ρ2 q).bind fun y => (intOf x).bind fun i => (intOf y).bind fun j =>
        if okRng i j ∧ j - i ≤ szMax then some (if tup then .dat (.tuple (rngL i j)) else .new (.lst (rngL i j)), ρ2) else none
  | .mth m o as, ρ => (evE o ρ).bind fun (r, ρ1) => (res ρ1 r).bind fun x0 => if mthOk m x0 then (evEs as ρ1).bind fun (rs, ρ2) =>
      (res ρ2 r).bind fun x => (ress ρ2 rs).bind fun ds => (mthD m x ds).map fun d => (.dat d, ρ2) else none
  | .tup es, ρ => (evX es ρ).bind fun (ds, ρ1) => if ds.length ≤ szMax then some (.dat (.tuple ds), ρ1) else none
  | .lst es, ρ => (evX es ρ).bind fun (ds, ρ1) => if ds.length ≤ szMax then some (.new (.lst ds), ρ1) else none
  | .dct0, ρ => some (.new (.dct []), ρ)
  | .dct1 k v, ρ => (evE k ρ).bind fun p => (esc p).bind fun (x, ρ1) => (evE v ρ1).bind fun q => (esc q).bind fun (y, ρ2) => (putF [] x y).map fun kvs => (.new (.dct kvs), ρ2)
  | .idx a b, ρ => (evE a ρ).bind fun (r, ρ1) => (evE b ρ1).bind fun (q, ρ2) =>
      (res ρ2 r).bind fun x => (res ρ2 q).bind fun y => (idxD x y).map fun d => (.dat d, ρ2)
  | .slc a lo hi elo ehi, ρ => (evE a ρ).bind fun (r, ρ1) => (evO lo elo ρ1).bind fun (l, ρ2) => (evO hi ehi ρ2).bind fun (h, ρ3) =>
      (res ρ3 r).bind fun x => (slcD x l h).map fun s => (s.res, ρ3)
  | .rev a, ρ => (evE a ρ).bind fun (r, ρ1) => (res ρ1 r).bind fun x => (revD x).map fun s => (s.res, ρ1)
  | .comp elt tg it cond own, ρ => (evI it ρ).bind fun (ds, ρ1) =>
      if own.all (fun v => !isOwn (slot ρ1 v) && decide (v < ρ1.length)) then
        (turns (fun ρ => evE elt ρ) (fun ρ => evC cond ρ) tg own ds (wipeE ρ1 own)).bind fun (ys, ρ2) => if ys.length ≤ szMax then some (.new (.lst ys), backE ρ1 ρ2 own) else none
      else none
  | .dcomp ke ve tg it cond own, ρ => compM (fun ρ => evI it ρ) (elD (fun ρ => evE ke ρ) (fun ρ => evE ve ρ)) (fun ρ => evC cond ρ) tg own (.dct []) ρ
  | .comp2 elt tg it cond tg1 it1 cond1 own own1, ρ => compM (fun ρ => evI it ρ) (el2 (fun ρ => evI it1 ρ) (elL (fun ρ => evE elt ρ)) (fun ρ => evC cond1 ρ) tg1 own1) (fun ρ => evC cond ρ) tg own (.lst []) ρ
  | .dcomp2 ke ve tg it cond tg1 it1 cond1 own own1, ρ => compM (fun ρ => evI it ρ) (el2 (fun ρ => evI it1 ρ) (elD (fun ρ => evE ke ρ) (fun ρ => evE ve ρ)) (fun ρ => evC cond1 ρ) tg1 own1) (fun ρ => evC cond ρ) tg own (.dct []) ρ
  | .compO elt tg i cond own, ρ => compOwn (elL (fun ρ => evE elt ρ)) (fun ρ => evC cond ρ) tg i own ρ
  | .pop i as, ρ => (evEs as ρ).bind fun (rs, ρ1) => (ress ρ1 rs).bind fun ds => match slot ρ1 i with
      | some (.own m) => (popM m ds).map fun (d, m') => (.dat d, ρ1.set i (some (.own m')))
      | _ => none
/-- results, from the left -/
def evEs : Es F → Env → Option (List R × Env)
  | .nil, ρ => some ([], ρ)
  | .cons e es, ρ => (evE e ρ).bind fun (r, ρ1) => (evEs es ρ1).map fun (rs, ρ2) => (r :: rs, ρ2)
  | .ref _ _, _ => none
def evA : Es F → Env → Option (List Arg × Env)
  | .nil, ρ => some ([], ρ)
  | .cons e es, ρ => (evE e ρ).bind fun (r, ρ1) => (evA es ρ1).map fun (rs, ρ2) => (.val r :: rs, ρ2)
  | .ref i es, ρ => if isOwn (slot ρ i) = true then (evA es ρ).map fun (rs, ρ2) => (.ref i :: rs, ρ2) else none
/-- data that go into another object -/
def evX : Es F → Env → Option (List D × Env)
  | .nil, ρ => some ([], ρ)
  | .cons e es, ρ => (evE e ρ).bind fun p => (esc p).bind fun (d, ρ1) => (evX es ρ1).map fun (ds, ρ2) => (d :: ds, ρ2)
  | .ref _ _, _ => none
/-- a slice's bound: none, or one expression -/
def evO : Option Int → Es F → Env → Option (Option Int × Env)
  | lo, .nil, ρ => some (lo, ρ)
  | _, .cons e _, ρ => (evE e ρ).bind fun (r, ρ1) => (res ρ1 r).bind fun x => (intOf x).map fun i => (some i, ρ1)
  | _, .ref _ _, _ => none
/-- the items that are walked, as data; an owned object that is walked is frozen -/
def evI : I F → Env → Option (List D × Env)
  | .val e, ρ => (evE e ρ).bind fun p => (esc p).bind fun (d, ρ1) => (itemsD d).map fun ds => (ds, ρ1)
  | .rng1 b, ρ => (evE b ρ).bind fun (q, ρ1) => (res ρ1 q).bind fun y => (intOf y).bind fun j => if okRng 0 j then some (rngL 0 j, ρ1) else none
  | .rng2 a b, ρ => (evE a ρ).bind fun (r, ρ1) => (evE b ρ1).bind fun (q, ρ2) => (res ρ2 r).bind fun x => (res ρ2 q).bind fun y =>
      (intOf x).bind fun i => (intOf y).bind fun j => if okRng i j then some (rngL i j, ρ2) else none
  | .enum e, ρ => (evE e ρ).bind fun p => (esc p).bind fun (d, ρ1) => (seqD d).map fun ds => (ds.zipIdx.map fun (x, i) => .tuple [.int (i : Nat), x], ρ1)
  | .zip a b, ρ => (evE a ρ).bind fun p => (esc p).bind fun (x, ρ1) => (evE b ρ1).bind fun q => (esc q).bind fun (y, ρ2) => (zipD x y).map fun zs => (zs, ρ2)
/-- a comprehension's test: none, or one -/
def evC : Es F → Env → Option (Bool × Env)
  | .nil, ρ => some (true, ρ)
  | .cons e _, ρ => (evE e ρ).bind fun (r, ρ1) => (res ρ1 r).bind fun x => (boolOf x).map fun k => (k, ρ1)
  | .ref _ _, _ => none
end
end

/-! ### statements -/
inductive Out where
  | nx (ρ : Env)
  | ct (ρ : Env)
  | rt (s : Sl) (ρ : Env)
def setT (ρ : Env) (i : Nat) (o : Bool) (r : R) : Option Env :=
  match r, o with
  | .dat d, _ => some (ρ.set i (some (.dat d)))
  | .new m, false => some (ρ.set i (some (.dat m.data)))
  | .new m, true => some (ρ.set i (some (.own m)))
  | .loc j, _ => (freeze ρ j).map fun p => p.2.set i (some (.dat p.1))
/-- a walk's turns -/
def forL (tg : Tg) (b : Env → Option Out) : List D → Env → Option Out
  | [], ρ => some (.nx ρ)
  | d :: ds, ρ => (assignT ρ tg d).bind fun ρ1 => (b ρ1).bind fun o => match o with
      | .nx ρ2 => forL tg b ds ρ2
      | .ct ρ2 => forL tg b ds ρ2
      | .rt s ρ2 => some (.rt s ρ2)
def whlL (c : Env → Option (Bool × Env)) (b : Env → Option Out) : Nat → Env → Option Out
  | 0, _ => none
  | n + 1, ρ => (c ρ).bind fun (k, ρ1) => match k with
      | false => some (.nx ρ1)
      | true => (b ρ1).bind fun o => match o with
        | .nx ρ2 => whlL c b n ρ2
        | .ct ρ2 => whlL c b n ρ2
        | .rt s ρ2 => some (.rt s ρ2)
def wMax : Nat := 1000000
/-- data moved into several names: fresh objects may keep their owner -/
def setPar : List (Nat × Bool) → List R → Env → Option Env
  | [], [], ρ => some ρ
  | (i, o) :: ts, r :: rs, ρ => match r with
    | .loc _ => none
    | r => (setT ρ i o r).bind fun ρ1 => setPar ts rs ρ1
  | _, _, _ => none
def setAll (ρ : Env) : List Nat → List D → Option Env
  | [], [] => some ρ
  | i :: is, d :: ds => setAll (ρ.set i (some (.dat d))) is ds
  | _, _ => none

section
variable {F : Type} (Φ : F → List Sl → Option (Sl × List MO))
def evTest (e : E F) (ρ : Env) : Option (Bool × Env) := (evE Φ e ρ).bind fun (r, ρ1) => (res ρ1 r).bind fun x => (boolOf x).map fun k => (k, ρ1)
/-- results that move: an owned object met by its name is frozen -/
def evM : Es F → Env → Option (List R × Env)
  | .nil, ρ => some ([], ρ)
  | .cons e es, ρ => (evE Φ e ρ).bind fun p => match p.1 with
    | .loc i => (freeze p.2 i).bind fun (d, ρ1) => (evM es ρ1).map fun (rs, ρ2) => (.dat d :: rs, ρ2)
    | r => (evM es p.2).map fun (rs, ρ2) => (r :: rs, ρ2)
  | .ref _ _, _ => none
variable (W : Nat)
mutual
def evS : C F → Env → Option Out
  | .expr e, ρ => (evE Φ e ρ).map fun p => .nx p.2
  | .set i e, ρ => (evE Φ e ρ).bind fun (r, ρ1) => (setT ρ1 i false r).map .nx
  | .setO i e, ρ => (evE Φ e ρ).bind fun (r, ρ1) => (setT ρ1 i true r).map .nx
  | .par ts es, ρ => (evM Φ es ρ).bind fun (rs, ρ1) => (setPar ts rs ρ1).map .nx
  | .unp is e, ρ => (evE Φ e ρ).bind fun p => (esc p).bind fun (d, ρ1) => (unpOf d).bind fun ds => (setAll ρ1 is ds).map .nx
  | .app i e, ρ => match slot ρ i with
      | some (.own (.lst _)) => (evE Φ e ρ).bind fun p => (esc p).bind fun (d, ρ1) => match slot ρ1 i with
        | some (.own (.lst ds)) => if ds.length < szMax then some (.nx (ρ1.set i (some (.own (.lst (ds ++ [d])))))) else none
        | _ => none
      | _ => none
  | .sto i k e, ρ => (evE Φ e ρ).bind fun p => (esc p).bind fun (d, ρ1) => if isOwn (slot ρ1 i) = true then (evE Φ k ρ1).bind fun (q, ρ2) => (res ρ2 q).bind fun y => match slot ρ2 i with
      | some (.own m) => (stoM m y d).map fun m' => .nx (ρ2.set i (some (.own m')))
      | _ => none
      else none
  | .clr i, ρ => match slot ρ i with
      | some (.own (.lst _)) => some (.nx (ρ.set i (some (.own (.lst [])))))
      | some (.own (.dct _)) => some (.nx (ρ.set i (some (.own (.dct [])))))
      | _ => none
  | .aug i e, ρ => match slot ρ i with
      | some (.dat (.int a)) => (evE Φ e ρ).bind fun (r, ρ1) => (res ρ1 r).bind fun y => (intOf y).map fun b => .nx (ρ1.set i (some (.dat (.int (a + b)))))
      | _ => none
  | .ite c a b, ρ => (evTest Φ c ρ).bind fun (k, ρ1) => match k with
      | true => evB a ρ1
      | false => evB b ρ1
  | .whl c b, ρ => whlL (fun ρ => evTest Φ c ρ) (fun ρ => evB b ρ) W ρ
  | .for tg it b, ρ => (evI Φ it ρ).bind fun (ds, ρ1) => forL tg (fun ρ => evB b ρ) ds ρ1
  | .ret e, ρ => (evE Φ e ρ).bind fun (r, ρ1) => match r with
      | .dat d => some (.rt (.dat d) ρ1)
      | .new m => some (.rt (.own m) ρ1)
      | .loc i => match slot ρ1 i with
        | some s => some (.rt s (ρ1.set i none))
        | none => none
  | .cont, ρ => some (.ct ρ)
def evB : Cs F → Env → Option Out
  | .nil, ρ => some (.nx ρ)
  | .cons c cs, ρ => (evS c ρ).bind fun o => match o with
      | .nx ρ1 => evB cs ρ1
      | o => some o
end
end
section
variable {F : Type} (Φ : F → List Sl → Option (Sl × List MO))
/-- the objects handed in, as they stand behind the body -/
def outs (ρ : Env) : Nat → List Sl → Option (List MO)
  | _, [] => some []
  | i, .dat _ :: ss => outs ρ (i + 1) ss
  | i, .own _ :: ss => match slot ρ i with
    | some (.own m) => (outs ρ (i + 1) ss).map (m :: ·)
    | _ => none
def runD (d : Def F) (ss : List Sl) : Option (Sl × List MO) :=
  if ss.length = d.ps ∧ d.ps ≤ d.ns ∧ (∀ i ∈ List.range ss.length, isOwn (ss[i]?) = true → i ∈ d.refs) then
    (evB Φ wMax d.body (ss.map some ++ List.replicate (d.ns - d.ps) none)).bind fun o => match o with
      | .nx ρ => (outs ρ 0 ss).map fun ms => (.dat .none, ms)
      | .rt s ρ => (outs ρ 0 ss).map fun ms => (s, ms)
      | .ct _ => none
  else none
end
/-- a def's value, calls k deep -/
def evF {F : Type} (T : F → Def F) : Nat → F → List Sl → Option (Sl × List MO)
  | 0, _, _ => none
  | k + 1, f, ss => runD (evF T k) (T f) ss
end SP

/-! SpRep: what a value of the layer stands for as data; the relation of slots and heap. -/
namespace SP
open PySem PySem.W PyProof.Rows L2

abbrev ASet := Addr → Prop

/-- a dict: its object stands at a -/
def rawD (a : Addr) (o : Obj) : HO := .ext fun h => h.get? a = some o
/-- the object o (at a) holds the entries es (key, value, the key as a key), which stand for kvs -/
structure DOk (w : World) (a : Addr) (o : Obj) (es : List (V × V × NestedKey)) (kvs : List (D × D)) : Prop where
  ex : o.ExactDict
  ent : ∃ (ep : Nat) (xs : List DictEntry), o.data = .dict xs.toArray ep ∧ Paired (fun (p : V × V × NestedKey) (e : DictEntry) => RelV p.1 e.key ∧ RelV p.2.1 e.val ∧ e.hash = p.2.2.hash w) es xs
  keys : kvs.map (fun kv => keyOf kv.1) = es.map (fun e => some e.2.2)
  nd : (es.map (·.2.2)).Nodup
  dep : ∀ e ∈ es, e.2.2.depth ≤ 8
  nosys : (a == sysModules) = false
  len : es.length ≤ sizeLine

mutual
inductive Rep (w : World) (K : Frag) (G : ASet) (H : Hp) : V → D → Prop
  | non : Rep w K G H .non .none
  | bl (b : Bool) : Rep w K G H (.bl b) (.bool b)
  | int (i : Int) : Rep w K G H (.int i) (.int i)
  | str (x : Str) : Rep w K G H (.str x) (.str x)
  | list {a : Addr} {vs : List V} {ds : List D} (g : ¬ G a) (h : Rd H a (.lst vs)) (r : RepL w K G H vs ds) : Rep w K G H (.ref a) (.list ds)
  | tuple {a : Addr} {vs : List V} {ds : List D} (h : SqT K H a vs) (r : RepL w K G H vs ds) : Rep w K G H (.ref a) (.tuple ds)
  | dict {a : Addr} {es : List (V × V × NestedKey)} {kvs : List (D × D)} {o : Obj} (g : ¬ G a) (h : H a = some (rawD a o)) (n : DOk w a o es kvs)
      (rk : RepL w K G H (es.map (·.1)) (kvs.map (·.1))) (rv : RepL w K G H (es.map (·.2.1)) (kvs.map (·.2))) : Rep w K G H (.ref a) (.dict kvs)
inductive RepL (w : World) (K : Frag) (G : ASet) (H : Hp) : List V → List D → Prop
  | nil : RepL w K G H [] []
  | cons {v : V} {d : D} {vs : List V} {ds : List D} : Rep w K G H v d → RepL w K G H vs ds → RepL w K G H (v :: vs) (d :: ds)
end

/-- all tracked objects but those of O stand; no object is lost; tuples and locked objects stand -/
structure Keep (O : ASet) (H H' : Hp) : Prop where
  keep : ∀ a o, H a = some o → ¬ O a → H' a = some o
  there : ∀ a, H a ≠ none → H' a ≠ none
  tup : ∀ a xs, H a = some (.tup xs) → H' a = some (.tup xs)
  frz : ∀ a o u, H a = some (.frz o u) → H' a = some (.frz o u)
theorem Keep.refl {O : ASet} {H : Hp} : Keep O H H := ⟨fun _ _ e _ => e, fun _ e => e, fun _ _ e => e, fun _ _ _ e => e⟩
theorem Keep.trans {O O' : ASet} {H H1 H2 : Hp} (a : Keep O H H1) (b : Keep O' H1 H2) (s : ∀ x, O' x → O x) : Keep O H H2 :=
  ⟨fun x o e n => b.keep x o (a.keep x o e n) fun z => n (s x z), fun x e => b.there x (a.there x e), fun x o e => b.tup x o (a.tup x o e), fun x o u e => b.frz x o u (a.frz x o u e)⟩
theorem Keep.of_same {O : ASet} {H H' : Hp} (s : Same H H') : Keep O H H' := by
  refine ⟨fun a o e _ => s a o e, fun a e z => ?_, fun a o e => s a _ e, fun a o u e => s a _ e⟩
  cases q : H a with
  | none => exact e q
  | some o => rw [s a o q] at z; cases z
theorem Keep.mono {O O' : ASet} {H H' : Hp} (k : Keep O H H') (s : ∀ x, O x → O' x) : Keep O' H H' := ⟨fun a o e n => k.keep a o e fun z => n (s a z), k.there, k.tup, k.frz⟩
theorem same_upd {H : Hp} {p : Addr} {o : HO} (h : H p = none) : Same H (upd H p o) := fun b x e => by
  rw [upd_ne (ne_of_none e h)]; exact e

section
variable {w : World} {K : Frag}
theorem rd_keep {O : ASet} {H H' : Hp} (k : Keep O H H') {a : Addr} {u : HO} (n : ¬ O a) (h : Rd H a u) : Rd H' a u := by
  rcases h with h | ⟨o, h⟩
  · exact .inl (k.keep a _ h n)
  · exact .inr ⟨o, k.frz a o u h⟩
theorem sqT_keep {O : ASet} {H H' : Hp} (k : Keep O H H') {a : Addr} {xs : List V} (h : SqT K H a xs) : SqT K H' a xs := by
  rcases h with (h | ⟨o, h⟩) | h
  · exact .inl (.inl (k.tup a xs h))
  · exact .inl (.inr ⟨o, k.frz a o _ h⟩)
  · exact .inr h
mutual
theorem Rep.keep {G O : ASet} {H H' : Hp} (k : Keep O H H') (s : ∀ a, O a → G a) : ∀ {v : V} {d : D}, Rep w K G H v d → Rep w K G H' v d
  | _, _, .non => .non
  | _, _, .bl b => .bl b
  | _, _, .int i => .int i
  | _, _, .str x => .str x
  | _, _, .list g h r => .list g (rd_keep k (fun z => g (s _ z)) h) (RepL.keep k s r)
  | _, _, .tuple h r => .tuple (sqT_keep k h) (RepL.keep k s r)
  | _, _, .dict g h n rk rv => .dict g (k.keep _ _ h fun z => g (s _ z)) n (RepL.keep k s rk) (RepL.keep k s rv)
theorem RepL.keep {G O : ASet} {H H' : Hp} (k : Keep O H H') (s : ∀ a, O a → G a) : ∀ {vs : List V} {ds : List D}, RepL w K G H vs ds → RepL w K G H' vs ds
  | _, _, .nil => .nil
  | _, _, .cons a b => .cons (Rep.keep k s a) (RepL.keep k s b)
end
theorem rd_some {H : Hp} {a : Addr} {u : HO} (h : Rd H a u) : H a ≠ none := by
  rcases h with h | ⟨o, h⟩ <;> rw [h] <;> simp
mutual
/-- other bars: at each tracked address of it -/
theorem Rep.bar {G G' : ASet} {H : Hp} (s : ∀ a, G' a → H a ≠ none → G a) : ∀ {v : V} {d : D}, Rep w K G H v d → Rep w K G' H v d
  | _, _, .non => .non
  | _, _, .bl b => .bl b
  | _, _, .int i => .int i
  | _, _, .str x => .str x
  | _, _, .list g h r => .list (fun z => g (s _ z (rd_some h))) h (RepL.bar s r)
  | _, _, .tuple h r => .tuple h (RepL.bar s r)
  | _, _, .dict g h n rk rv => .dict (fun z => g (s _ z (by rw [h]; simp))) h n (RepL.bar s rk) (RepL.bar s rv)
theorem RepL.bar {G G' : ASet} {H : Hp} (s : ∀ a, G' a → H a ≠ none → G a) : ∀ {vs : List V} {ds : List D}, RepL w K G H vs ds → RepL w K G' H vs ds
  | _, _, .nil => .nil
  | _, _, .cons a b => .cons (Rep.bar s a) (RepL.bar s b)
end
mutual
/-- nothing in it that could be barred -/
theorem Rep.imm {G G' : ASet} {H : Hp} : ∀ {v : V} {d : D}, immD d = true → Rep w K G H v d → Rep w K G' H v d
  | _, _, _, .non => .non
  | _, _, _, .bl b => .bl b
  | _, _, _, .int i => .int i
  | _, _, _, .str x => .str x
  | _, _, e, .list _ _ _ => by simp [immD] at e
  | _, _, e, .tuple h r => .tuple h (RepL.imm (by simpa [immD] using e) r)
  | _, _, e, .dict _ _ _ _ _ => by simp [immD] at e
theorem RepL.imm {G G' : ASet} {H : Hp} : ∀ {vs : List V} {ds : List D}, immAll ds = true → RepL w K G H vs ds → RepL w K G' H vs ds
  | _, _, _, .nil => .nil
  | _, _, e, .cons a b => by
    simp only [immAll, Bool.and_eq_true] at e
    exact .cons (Rep.imm e.1 a) (RepL.imm e.2 b)
end
theorem RepL.length {G : ASet} {H : Hp} : ∀ {vs : List V} {ds : List D}, RepL w K G H vs ds → vs.length = ds.length
  | _, _, .nil => rfl
  | _, _, .cons _ b => by simp [RepL.length b]
theorem RepL.get {G : ASet} {H : Hp} : ∀ {vs : List V} {ds : List D} {i : Nat} {d : D}, RepL w K G H vs ds → ds[i]? = some d → ∃ v, vs[i]? = some v ∧ Rep w K G H v d
  | _, _, _, _, .nil, e => by simp at e
  | _, _, 0, _, .cons a _, e => by simp at e; subst e; exact ⟨_, rfl, a⟩
  | _, _, i + 1, _, .cons _ b, e => by
    obtain ⟨v, h, r⟩ := RepL.get (i := i) b (by simpa using e)
    exact ⟨v, by simpa using h, r⟩
theorem RepL.getV {G : ASet} {H : Hp} : ∀ {vs : List V} {ds : List D} {i : Nat} {v : V}, RepL w K G H vs ds → vs[i]? = some v → ∃ d, ds[i]? = some d ∧ Rep w K G H v d
  | _, _, _, _, .nil, e => by simp at e
  | _, _, 0, _, .cons a _, e => by simp at e; subst e; exact ⟨_, rfl, a⟩
  | _, _, i + 1, _, .cons _ b, e => by
    obtain ⟨v, h, r⟩ := RepL.getV (i := i) b (by simpa using e)
    exact ⟨v, by simpa using h, r⟩
theorem RepL.app {G : ASet} {H : Hp} : ∀ {vs us : List V} {ds es : List D}, RepL w K G H vs ds → RepL w K G H us es → RepL w K G H (vs ++ us) (ds ++ es)
  | _, _, _, _, .nil, s => s
  | _, _, _, _, .cons a b, s => .cons a (RepL.app b s)
theorem RepL.take {G : ASet} {H : Hp} : ∀ {vs : List V} {ds : List D} (n : Nat), RepL w K G H vs ds → RepL w K G H (vs.take n) (ds.take n)
  | _, _, 0, _ => .nil
  | _, _, _ + 1, .nil => .nil
  | _, _, n + 1, .cons a b => .cons a (RepL.take n b)
theorem RepL.drop {G : ASet} {H : Hp} : ∀ {vs : List V} {ds : List D} (n : Nat), RepL w K G H vs ds → RepL w K G H (vs.drop n) (ds.drop n)
  | _, _, 0, r => r
  | _, _, _ + 1, .nil => .nil
  | _, _, n + 1, .cons _ b => RepL.drop n b
theorem RepL.rev {G : ASet} {H : Hp} : ∀ {vs : List V} {ds : List D}, RepL w K G H vs ds → RepL w K G H vs.reverse ds.reverse
  | _, _, .nil => .nil
  | _, _, .cons a b => by
    rw [List.reverse_cons, List.reverse_cons]
    exact (RepL.rev b).app (.cons a .nil)
theorem RepL.set {G : ASet} {H : Hp} {v : V} {d : D} (r : Rep w K G H v d) : ∀ {vs : List V} {ds : List D} (i : Nat), RepL w K G H vs ds → RepL w K G H (vs.set i v) (ds.set i d)
  | _, _, _, .nil => .nil
  | _, _, 0, .cons _ b => .cons r b
  | _, _, i + 1, .cons a b => .cons a (RepL.set r i b)

/-! ### with the concrete heap -/
theorem Paired.mapB {α β : Type} {P Q : α → β → Prop} : ∀ {l : List α} {m : List β}, Paired P l m → (∀ a b, P a b → Q a b) → Paired Q l m
  | _, _, .nil, _ => .nil
  | _, _, .cons r t, f => .cons (f _ _ r) (Paired.mapB t f)
theorem vals_keys {w : World} : ∀ {es : List (V × V × NestedKey)} {xs : List DictEntry}, Paired (fun (p : V × V × NestedKey) (e : DictEntry) => RelV p.1 e.key ∧ RelV p.2.1 e.val ∧ e.hash = p.2.2.hash w) es xs →
    Vals (es.map (·.1)) (xs.map (·.key)) ∧ Vals (es.map (·.2.1)) (xs.map (·.val))
  | _, _, .nil => ⟨.nil, .nil⟩
  | _, _, .cons r t => let ⟨a, b⟩ := vals_keys t; ⟨.cons r.1 a, .cons r.2.1 b⟩
/-- the tuple object that stands for SqT -/
theorem sqT_obj {P : Program} {H : Hp} {h : Heap} (ok : HOk P w H h) (KX : K.In h) {a : Addr} {vs : List V} (q : SqT K H a vs) : ∃ its : List Value, Vals vs its ∧ IsTup h a its.toArray ∧ vs.length ≤ sizeLine := by
  rcases q with q | ⟨o, its, n, hk, hc, hs, hz, r⟩
  · obtain ⟨z, its, r, p⟩ := q.ok ok
    exact ⟨its, r, p, z⟩
  · refine ⟨its.toList, r, ⟨o, KX a o hk, hc, n, by simpa using hs⟩, ?_⟩
    have e := r.length
    simp only [Array.length_toList] at e
    omega
mutual
theorem Rep.reads {P : Program} {G : ASet} {H : Hp} {h : Heap} (ok : HOk P w H h) (KX : K.In h) : ∀ {v : V} {d : D} {u : Value}, Rep w K G H v d → RelV v u → ∃ as, Reads h u d as ∧ ∀ a ∈ as, H a ≠ none
  | _, _, _, .non, r => by cases r; exact ⟨_, .none, fun _ z => nomatch z⟩
  | _, _, _, .bl b, r => by cases r; exact ⟨_, .bool b, fun _ z => nomatch z⟩
  | _, _, _, .int i, r => by obtain ⟨t, rfl⟩ := r; exact ⟨_, .int i t, fun _ z => nomatch z⟩
  | _, _, _, .str x, r => by obtain ⟨t, rfl⟩ := r; exact ⟨_, .str x t, fun _ z => nomatch z⟩
  | _, _, _, .list g q rl, r => by
    cases r
    obtain ⟨z, its, n, rv, e⟩ := q.ok ok
    obtain ⟨as, ra, ha⟩ := RepL.reads ok KX rl rv
    refine ⟨_, .list e rfl rfl (by simpa using ra), fun b hb => ?_⟩
    rcases List.mem_cons.mp hb with rfl | hb
    · exact rd_some q
    · exact ha b hb
  | _, _, _, .tuple q rl, r => by
    cases r
    obtain ⟨its, rv, ⟨o, e, c, n, dd⟩, _⟩ := sqT_obj ok KX q
    obtain ⟨as, ra, ha⟩ := RepL.reads ok KX rl rv
    exact ⟨_, .tuple e c dd (by simpa using ra), ha⟩
  | _, _, _, .dict g q n rk rv, r => by
    cases r
    obtain ⟨e, _⟩ := ok _ _ q
    obtain ⟨ep, xs, dd, pr⟩ := n.ent
    have ex := n.ex
    obtain ⟨vk, vv⟩ := vals_keys pr
    obtain ⟨as, ra, ha⟩ := RepL.reads ok KX rk vk
    obtain ⟨bs, rb, hb⟩ := RepL.reads ok KX rv vv
    refine ⟨_, .dict e ex.1 dd (by simpa using ra) (by simpa using rb), fun c hc => ?_⟩
    rcases List.mem_append.mp hc with hc | hc
    · rcases List.mem_cons.mp hc with rfl | hc
      · rw [q]; simp
      · exact ha c hc
    · exact hb c hc
theorem RepL.reads {P : Program} {G : ASet} {H : Hp} {h : Heap} (ok : HOk P w H h) (KX : K.In h) : ∀ {vs : List V} {ds : List D} {us : List Value}, RepL w K G H vs ds → Vals vs us → ∃ as, ReadsAll h us ds as ∧ ∀ a ∈ as, H a ≠ none
  | _, _, _, .nil, r => by cases r; exact ⟨_, .nil, fun _ z => nomatch z⟩
  | _, _, _, .cons a b, r => by
    cases r with
    | cons r1 r2 =>
      obtain ⟨as, ra, ha⟩ := Rep.reads ok KX a r1
      obtain ⟨bs, rb, hb⟩ := RepL.reads ok KX b r2
      exact ⟨_, .cons ra rb, fun c hc => (List.mem_append.mp hc).elim (ha c) (hb c)⟩
end

/-! ### the top of a value: its own address is not barred -/
inductive Top (w : World) (K : Frag) (G : ASet) (H : Hp) : V → D → Prop
  | rep {v : V} {d : D} (r : Rep w K G H v d) : Top w K G H v d
  | list {a : Addr} {vs : List V} {ds : List D} (h : Rd H a (.lst vs)) (r : RepL w K G H vs ds) : Top w K G H (.ref a) (.list ds)
  | dict {a : Addr} {es : List (V × V × NestedKey)} {kvs : List (D × D)} {o : Obj} (h : H a = some (rawD a o)) (n : DOk w a o es kvs)
      (rk : RepL w K G H (es.map (·.1)) (kvs.map (·.1))) (rv : RepL w K G H (es.map (·.2.1)) (kvs.map (·.2))) : Top w K G H (.ref a) (.dict kvs)
def NoBar : ASet := fun _ => False
theorem Top.free {G : ASet} {H : Hp} {v : V} {d : D} (t : Top w K G H v d) : Rep w K NoBar H v d := by
  have s : ∀ a, NoBar a → H a ≠ none → G a := fun a z => z.elim
  cases t with
  | rep r => exact r.bar s
  | list h r => exact .list (fun z => z) h (r.bar s)
  | dict h n rk rv => exact .dict (fun z => z) h n (rk.bar s) (rv.bar s)
theorem Top.list_inv {G : ASet} {H : Hp} {v : V} {ds : List D} (t : Top w K G H v (.list ds)) : ∃ a vs, v = .ref a ∧ Rd H a (.lst vs) ∧ RepL w K G H vs ds := by
  cases t with
  | rep r => cases r with | list g h r => exact ⟨_, _, rfl, h, r⟩
  | list h r => exact ⟨_, _, rfl, h, r⟩
theorem Top.tuple_inv {G : ASet} {H : Hp} {v : V} {ds : List D} (t : Top w K G H v (.tuple ds)) : ∃ a vs, v = .ref a ∧ SqT K H a vs ∧ RepL w K G H vs ds := by
  cases t with
  | rep r => cases r with | tuple h r => exact ⟨_, _, rfl, h, r⟩
theorem Top.dict_inv {G : ASet} {H : Hp} {v : V} {kvs : List (D × D)} (t : Top w K G H v (.dict kvs)) : ∃ a o es, v = .ref a ∧ H a = some (rawD a o) ∧ DOk w a o es kvs ∧ RepL w K G H (es.map (·.1)) (kvs.map (·.1)) ∧ RepL w K G H (es.map (·.2.1)) (kvs.map (·.2)) := by
  cases t with
  | rep r => cases r with | dict g h n rk rv => exact ⟨_, _, _, rfl, h, n, rk, rv⟩
  | dict h n rk rv => exact ⟨_, _, _, rfl, h, n, rk, rv⟩
theorem Top.int_inv {G : ASet} {H : Hp} {v : V} {i : Int} (t : Top w K G H v (.int i)) : v = .int i := by
  cases t with | rep r => cases r; rfl
theorem Top.bool_inv {G : ASet} {H : Hp} {v : V} {b : Bool} (t : Top w K G H v (.bool b)) : v = .bl b := by
  cases t with | rep r => cases r; rfl
theorem Top.str_inv {G : ASet} {H : Hp} {v : V} {x : Str} (t : Top w K G H v (.str x)) : v = .str x := by
  cases t with | rep r => cases r; rfl
theorem Top.none_inv {G : ASet} {H : Hp} {v : V} (t : Top w K G H v .none) : v = .non := by
  cases t with | rep r => cases r; rfl

/-! ### owned objects -/
inductive Cell (w : World) (K : Frag) (G : ASet) (H : Hp) (a : Addr) : MO → Prop
  | lst {vs : List V} {ds : List D} (h : H a = some (.lst vs)) (r : RepL w K G H vs ds) : Cell w K G H a (.lst ds)
  | dct {es : List (V × V × NestedKey)} {kvs : List (D × D)} {o : Obj} (h : H a = some (rawD a o)) (n : DOk w a o es kvs)
      (rk : RepL w K G H (es.map (·.1)) (kvs.map (·.1))) (rv : RepL w K G H (es.map (·.2.1)) (kvs.map (·.2))) : Cell w K G H a (.dct kvs)
theorem Cell.some {G : ASet} {H : Hp} {a : Addr} {m : MO} (c : Cell w K G H a m) : H a ≠ none := by
  cases c with
  | lst h _ => rw [h]; simp
  | dct h _ _ _ => rw [h]; simp
theorem Cell.top {G : ASet} {H : Hp} {a : Addr} {m : MO} (c : Cell w K G H a m) : Top w K G H (.ref a) m.data := by
  cases c with
  | lst h r => exact .list (.inl h) r
  | dct h n rk rv => exact .dict h n rk rv
theorem Cell.rep {G : ASet} {H : Hp} {a : Addr} {m : MO} (c : Cell w K G H a m) (g : ¬ G a) : Rep w K G H (.ref a) m.data := by
  cases c with
  | lst h r => exact .list g (.inl h) r
  | dct h n rk rv => exact .dict g h n rk rv
theorem Cell.bar {G G' : ASet} {H : Hp} {a : Addr} {m : MO} (s : ∀ a, G' a → H a ≠ none → G a) (c : Cell w K G H a m) : Cell w K G' H a m := by
  cases c with
  | lst h r => exact .lst h (r.bar s)
  | dct h n rk rv => exact .dct h n (rk.bar s) (rv.bar s)
theorem Cell.keep {G O : ASet} {H H' : Hp} {a : Addr} {m : MO} (k : Keep O H H') (s : ∀ a, O a → G a) (n : ¬ O a) (c : Cell w K G H a m) : Cell w K G H' a m := by
  cases c with
  | lst h r => exact .lst (k.keep a _ h n) (r.keep k s)
  | dct h nn rk rv => exact .dct (k.keep a _ h n) nn (rk.keep k s) (rv.keep k s)
/-- the contents stay when another owned object (in O, barred) changes -/
theorem Cell.keepAt {G O : ASet} {H H' : Hp} {a : Addr} {m : MO} (k : Keep O H H') (s : ∀ a, O a → G a) (n : H' a = H a) (c : Cell w K G H a m) : Cell w K G H' a m := by
  cases c with
  | lst h r => exact .lst (n.trans h) (r.keep k s)
  | dct h nn rk rv => exact .dct (n.trans h) nn (rk.keep k s) (rv.keep k s)
end
end SP

/-! SpTs: rows of tuples can be sorted, also where some of them are empty. -/
namespace SP
open PySem PySem.W PySem.Calls PySem.SeqAt PyProof.Rows
section
variable {prog : Program} {w : World} {A : Around} {s : Shared}
theorem call_tuple_lt {E : Value → Shared → Prop} {Q : Value → Shared → Prop} {l b : Addr} {items items2 : Array Value} {e r : Nat → Bool} (hl : s.heap.IsTuple l items) (hb : s.heap.IsTuple b items2)
    (he : ∀ j (h1 : j < items.size) (h2 : j < items2.size), EqAt A.in1 s items[j] items2[j] (e j)) (hr : ∀ j (h1 : j < items.size) (h2 : j < items2.size), e j = false → RcLt A.in1 s items[j] items2[j] (r j))
    (h : Q (.bool (firstLt e r (decide (items.size < items2.size)) (List.range (min items.size items2.size)))) s) : wpAny (model prog w) A (call (.builtin "tuple.__lt__") [.ref l, .ref b]) Q E s := by
  obtain ⟨⟨cls, dd, data, sl⟩, ho, hc, n, hd⟩ := id hl
  obtain ⟨⟨cls2, dd2, data2, sl2⟩, ho2, hc2, n2, hd2⟩ := id hb
  simp only at hc hd hc2 hd2
  subst hc hd hc2 hd2
  exact call_meets F.slot_tuple_lt ⟨_, ho, rfl⟩ F.entry_tuple_lt (F.args_tuple_lt_2 _ _) (tuple_ltAt l b items items2 n n2 dd dd2 sl sl2 e r) ⟨ho, ho2, he, hr, h⟩
theorem oneLt_tup {xs ys : List PyData} {a b : Value} {as bs : List Addr} {E : Value → Shared → Prop} {Q : Bool → Shared → Prop} (ra : Reads s.heap a (.tuple xs) as) (rb : Reads s.heap b (.tuple ys) bs) (h : alike (.tuple xs) (.tuple ys) = true)
    (hu : A.units + min (PyData.tuple xs).depth (PyData.tuple ys).depth < cLine) (hq : Q (dataLt (.tuple xs) (.tuple ys)) s) : wpAny (model prog w) A (oneLt' true a b) Q E s := by
  have hal : alikeAll xs ys = true := by simpa [alike] using h
  cases ra with
  | @tuple l o vs n _ as₁ h1 h2 h3 h4 =>
    cases rb with
    | @tuple l' o' vs' n' _ bs₁ k1 k2 k3 k4 =>
      have n1 : vs.size = xs.length := by simpa using ReadsAll.length _ _ _ h4
      have n2 : vs'.size = ys.length := by simpa using ReadsAll.length _ _ _ k4
      rw [dataLt_tuple, ← firstLt_toks xs ys hal, ← n1, ← n2] at hq
      rw [oneLt'_eq]
      simp only [if_true]
      refine wpAny_bind (wpAny_cRoomFor (room_here hu) ?_)
      refine wpAny_bind (wpAny_callSpecialIfBound?_slot (T := "tuple") ⟨_, h1, h2⟩ F.slot_tuple_lt (call_tuple_lt (e := pairEq xs ys) (r := fun j => dataLt (xs.getD j .none) (ys.getD j .none)) ⟨_, h1, h2, _, h3⟩ ⟨_, k1, k2, _, k3⟩ (fun j j1 j2 => ?_) (fun j j1 j2 hj => ?_) ?_))
      · have := eqAt_alikeAll xs ys A.in1 s vs.toList vs'.toList _ _ h4 k4 hal (room_in hu) j (by simpa using j1) (by simpa using j2)
        simpa using this
      · have := rcLt_alikeAll xs ys A.in1 s vs.toList vs'.toList _ _ h4 k4 hal (room_in hu) j (by simpa using j1) (by simpa using j2) hj
        simpa using this
      · exact wpAny_truthy_bool hq
def neT : PyData → Bool
  | .tuple (_ :: _) => true
  | _ => false
theorem ts_firsts {M : Model} : ∀ {vs : List Value} {ds : List PyData}, EachIs (fun v d => ∃ as, Reads s.heap v d as) vs ds → (∀ d ∈ ds, ∃ xs, d = .tuple xs) →
    ∃ fs : List (Option Value), fs.map (·.isSome) = ds.map neT ∧ ∀ (Q : List (Option Value) → Shared → Prop) (E : Value → Shared → Prop), Q fs s → wpAny M A (vs.mapM firstOfTuple') Q E s
  | _, _, .nil, _ => ⟨[], rfl, fun Q E h => by rw [List.mapM_nil]; exact wpAny_pure h⟩
  | v :: vs, d :: ds, .cons ⟨as, r⟩ t, ht => by
    obtain ⟨fs, h1, h2⟩ := ts_firsts (M := M) t fun x hx => ht x (List.mem_cons_of_mem _ hx)
    obtain ⟨xs, rfl⟩ := ht d (List.mem_cons_self ..)
    cases r with
    | @tuple a o vs' n _ _ ho hc hd hr =>
      refine ⟨vs'[0]? :: fs, ?_, fun Q E hq => ?_⟩
      · rw [List.map_cons, List.map_cons, h1]
        congr 1
        have hl : vs'.size = xs.length := by simpa using ReadsAll.length _ _ _ hr
        cases xs with
        | nil => simp at hl; simp [neT, hl]
        | cons x r => 
          have : 0 < vs'.size := by rw [hl]; simp
          simp [neT, this]
      · rw [List.mapM_cons]
        refine wpAny_bind ?_
        rw [kas_first_eq]
        refine wpAny_bind (Looks.here (show Looks M s.heap (typeOf (.ref a)) o.cls from (Looks.ld ho).andThen .now) ?_)
        rw [hc, if_neg (by first | decide | simp)]
        refine wpAny_bind (listItems_at ho hd (wpAny_pure ?_))
        exact wpAny_bind (h2 _ _ (wpAny_pure hq))
theorem ts_kind {M : Model} {vs : List Value} {ds : List PyData} (e : EachIs (fun v d => ∃ as, Reads s.heap v d as) vs ds) (ht : ∀ d ∈ ds, ∃ xs, d = .tuple xs) (hn : ∃ d ∈ ds, neT d = false) {Q : SortKind → Shared → Prop} {E : Value → Shared → Prop}
    (h : Q (if (ds[0]?.map neT).getD false then general' else oneType') s) : wpAny M A (keyKind' vs.toArray) Q E s := by
  obtain ⟨fs, h1, h2⟩ := ts_firsts (M := M) (A := A) e ht
  rw [keyKind'_eq, List.mapM_toArray, map_eq_pure_bind]
  refine wpAny_bind (wpAny_bind (h2 _ _ (wpAny_pure ?_)))
  have hall : (fs.toArray.all fun x => x.isSome) = false := by
    rw [List.all_toArray]
    have : (fs.all fun x => x.isSome) = (ds.all neT) := by
      have q := congrArg (fun l : List Bool => l.all id) h1
      simpa [List.all_map] using q
    rw [this]
    obtain ⟨d, hd, hd2⟩ := hn
    rw [List.all_eq_false]
    exact ⟨d, hd, by simp [hd2]⟩
  rw [hall, if_neg (by simp)]
  have hfirst : (fs.toArray[0]?.bind id).isSome = (ds[0]?.map neT).getD false := by
    have q := congrArg (fun l : List Bool => l[0]?) h1
    simp only [List.getElem?_map] at q
    rw [List.getElem?_toArray]
    rw [← q]
    cases fs[0]? with
    | none => rfl
    | some x => cases x <;> rfl
  rw [hfirst]
  by_cases hb : (ds[0]?.map neT).getD false = true
  · rw [if_pos hb] at h ⊢
    exact wpAny_pure h
  · rw [if_neg hb] at h ⊢
    rw [oneTypeOnly'_eq, List.mapM_toArray, map_eq_pure_bind]
    refine wpAny_bind (wpAny_bind (wpAny_bind (kas_mapM (r := Value.type "tuple") _ (fun v hv Q' hq => ?_) (wpAny_pure ?_))))
    · obtain ⟨d, hd, as, r⟩ := e.left v hv
      obtain ⟨xs, rfl⟩ := ht d hd
      exact (looks_reads r).here hq
    · have hall2 : ((List.map (fun _ => Value.type "tuple") vs).toArray.all fun x => x == Value.type "tuple") = true := by
        simp only [List.all_toArray, List.all_map, List.all_eq_true]
        intro _ _
        rfl
      have hvs : vs ≠ [] := by
        rintro rfl
        cases e
        obtain ⟨d, hd, _⟩ := hn
        cases hd
      obtain ⟨v, vr, rfl⟩ : ∃ v vr, vs = v :: vr := by
        cases vs with
        | nil => exact absurd rfl hvs
        | cons v vr => exact ⟨v, vr, rfl⟩
      have h0 : (List.map (fun _ => Value.type "tuple") (v :: vr)).toArray[0]? = some (Value.type "tuple") := by simp
      rw [h0]
      simp only [hall2, if_true]
      exact wpAny_pure (wpAny_pure h)
/-- alike data can be sorted: none of them None; tuples, or none a tuple -/
theorem sorts_data {vs : List Value} {ds : List PyData} (e : EachIs (fun v d => ∃ as, Reads s.heap v d as) vs ds) (hal : AllAlike ds) (hk : (∀ d ∈ ds, ∃ xs, d = .tuple xs) ∨ ∀ d ∈ ds, d ≠ .none ∧ ∀ xs, d ≠ .tuple xs) (hu : ∀ d, d ∈ ds → A.units + d.depth < cLine) : SortsAt prog w A s (dataKind s.heap ds) vs := by
  rcases hk with ht | hn
  · by_cases hne : ∀ d ∈ ds, neT d = true
    · refine SortsAt.data e hal (.inl fun d hd => ?_) hu
      obtain ⟨xs, rfl⟩ := ht d hd
      have := hne _ hd
      cases xs with
      | nil => cases this
      | cons x r => exact ⟨x, r, rfl⟩
    · have hn : ∃ d ∈ ds, neT d = false := by
        false_or_by_contra
        rename_i z
        exact hne fun d hd => by
          cases q : neT d with
          | true => rfl
          | false => exact absurd ⟨d, hd, q⟩ z
      have room : ∀ {d d' : PyData}, d ∈ ds → A.units + min d.depth d'.depth < cLine := fun {d d'} hd => Nat.lt_of_le_of_lt (Nat.add_le_add_left (Nat.min_le_left _ _) _) (hu d hd)
      refine ⟨fun v hv => ?_, if (ds[0]?.map neT).getD false then general' else oneType', ?_, fun h2 E Q hq => ts_kind e ht hn hq⟩
      · obtain ⟨d, hd, as, r⟩ := e.left v hv
        exact ⟨_, dataKind_some hal hd r⟩
      · intro E x y a b Q ha hb hq
        obtain ⟨d, as, hd, ra, rfl⟩ := dataKind_inv ha
        obtain ⟨d', as', hd', rb, rfl⟩ := dataKind_inv hb
        obtain ⟨xs, rfl⟩ := ht d hd
        obtain ⟨ys, rfl⟩ := ht d' hd'
        split
        · exact oneLt_alike (f := false) (fun z => nomatch z) ra rb (hal _ hd _ hd') (fun z => nomatch z) (room hd) hq
        · rw [keyLt'_oneType]
          exact oneLt_tup ra rb (hal _ hd _ hd') (room hd) hq
  · exact SortsAt.data e hal (.inr hn) hu
end
section
variable {prog : Program} {w : World} {A : Around} {E : Value → Shared → Prop} {s : Shared} {β : Type} {vs : List Value} {bs : List β} {enc : β → PyData} {R : Value → β → Prop}
theorem list_sort_tups {a : Addr} {n : Nat} {Q : Value → Shared → Prop} (ho : s.heap.get? a = some (seqObj "list" vs.toArray n)) (e : EachIs R vs bs) (er : EachIs (fun v b => ∃ as, Reads s.heap v (enc b) as ∧ a ∉ as) vs bs) (hal : AllAlike (bs.map enc)) (hk : (∀ d ∈ bs.map enc, ∃ xs, d = .tuple xs) ∨ ∀ d ∈ bs.map enc, d ≠ .none ∧ ∀ xs, d ≠ .tuple xs) (hL : bs.length ≤ sizeLine)
    (hu : ∀ b, b ∈ bs → A.units + 1 + (enc b).depth < cLine) (h : ∀ out, out.length = bs.length → EachIs R out (bs.mergeSort (dataLe false enc)) → Q .none { s with heap := sortedHeap s.heap a vs (List.toArray out) }) :
    wpAny (model prog w) A (call (.builtin "list.sort") [.ref a]) Q E s := by
  have er' : EachIs (fun v b => ∃ as, Reads (sortingHeap s.heap a vs) v (enc b) as) vs bs := each_keepBut (h' := sortingHeap s.heap a vs) (fun _ _ hb q => sortingHeap_old hb q) (fun o q => by rw [ho] at q; rw [← Option.some.inj q]) hal er
  refine wpAny_call_entry slot_list_sort ⟨_, ho, rfl⟩ entry_list_sort (list_sort_vals (κ := dataKind (sortingHeap s.heap a vs) (bs.map enc)) ho (sorts_data (s := { s with heap := sortingHeap s.heap a vs }) (each_map (R := fun v d => ∃ as, Reads (sortingHeap s.heap a vs) v d as) enc er') hal hk (bound_map hu)) (by rw [e.length]; exact hL) ⟨.none, rfl, ?_⟩) (args_list_sort _)
  exact h _ (by rw [sortVals_length false rfl]; exact e.length) (sortVals_data false e er' hal)
end
end SP

/-! SpDct: dicts: their entries, what is looked up and stored. -/
namespace SP
open PySem PySem.W PyProof.Rows L2 PySem.SeqAt

abbrev Ent := V × V × NestedKey
def lookE (es : List Ent) (k : NestedKey) : Option V := (es.find? fun e => decide (e.2.2 = k)).map (·.2.1)
def putE (es : List Ent) (k : NestedKey) (kv v : V) : List Ent := if (lookE es k).isSome then es.map fun e => if e.2.2 = k then (e.1, v, e.2.2) else e else es ++ [(kv, v, k)]
section
variable {w : World} {K : Frag} {G : ASet} {H : Hp}
theorem look_cons {kd d : D} {kvs : List (D × D)} {k : NestedKey} : look ((kd, d) :: kvs) k = if keyOf kd = some k then some d else look kvs k := by
  unfold look
  rw [List.find?_cons]
  by_cases h : keyOf kd = some k
  · rw [if_pos h, show (keyOf kd == some k) = true from beq_iff_eq.mpr h]; rfl
  · rw [if_neg h, show (keyOf kd == some k) = false from beq_eq_false_iff_ne.mpr h]
theorem lookE_cons {e : Ent} {es : List Ent} {k : NestedKey} : lookE (e :: es) k = if e.2.2 = k then some e.2.1 else lookE es k := by
  unfold lookE
  rw [List.find?_cons]
  by_cases h : e.2.2 = k
  · simp [h]
  · simp [h]
theorem look_rep {k : NestedKey} : ∀ {es : List Ent} {kvs : List (D × D)}, kvs.map (fun kv => keyOf kv.1) = es.map (fun e => some e.2.2) → RepL w K G H (es.map (·.2.1)) (kvs.map (·.2)) →
    (look kvs k = none ∧ lookE es k = none) ∨ ∃ d v, look kvs k = some d ∧ lookE es k = some v ∧ Rep w K G H v d
  | [], [], _, _ => .inl ⟨rfl, rfl⟩
  | e :: es, (kd, d) :: kvs, h, r => by
    simp only [List.map_cons, List.cons.injEq] at h
    rw [List.map_cons, List.map_cons] at r
    cases r with
    | cons r1 r2 =>
      rw [look_cons, lookE_cons, h.1]
      by_cases q : e.2.2 = k
      · rw [if_pos (by rw [q]), if_pos q]
        exact .inr ⟨_, _, rfl, rfl, r1⟩
      · rw [if_neg (fun z => q (Option.some.inj z)), if_neg q]
        exact look_rep h.2 r2
  | [], _ :: _, h, _ => by simp at h
  | _ :: _, [], h, _ => by simp at h
theorem look_isSome {k : NestedKey} {es : List Ent} {kvs : List (D × D)} (h : kvs.map (fun kv => keyOf kv.1) = es.map (fun e => some e.2.2)) (r : RepL w K G H (es.map (·.2.1)) (kvs.map (·.2))) : (look kvs k).isSome = (lookE es k).isSome := by
  rcases look_rep (k := k) h r with ⟨a, b⟩ | ⟨d, v, a, b, _⟩ <;> rw [a, b] <;> rfl
theorem lookE_none {k : NestedKey} : ∀ {es : List Ent}, lookE es k = none ↔ k ∉ es.map (·.2.2)
  | [] => by simp [lookE]
  | e :: es => by
    rw [lookE_cons, List.map_cons, List.mem_cons, not_or]
    by_cases q : e.2.2 = k
    · rw [if_pos q]; simp [q]
    · rw [if_neg q, lookE_none]
      exact ⟨fun z => ⟨fun y => q y.symm, z⟩, fun z => z.2⟩
theorem putE_keys {es : List Ent} {k : NestedKey} {kv v : V} : (putE es k kv v).map (·.2.2) = if (lookE es k).isSome then es.map (·.2.2) else es.map (·.2.2) ++ [k] := by
  unfold putE
  split
  · rw [List.map_map]
    refine List.map_congr_left fun e _ => ?_
    simp only [Function.comp_apply]
    split <;> rfl
  · simp
theorem putE_len {es : List Ent} {k : NestedKey} {kv v : V} : (putE es k kv v).length ≤ es.length + 1 := by
  unfold putE
  split
  · simp
  · simp

/-! ### keys that are ints and texts -/
def kN : L2.Key → NestedKey
  | .inl i => .num i
  | .inr x => .text x
theorem kN_inj {a b : L2.Key} (h : kN a = kN b) : a = b := by
  cases a <;> cases b <;> simp [kN] at h <;> rw [h]
def mixE (mk : List (L2.Key × V)) : List Ent := mk.map fun p => (kV p.1, p.2, kN p.1)
theorem leaf_inv {v : V} {d : D} {k : NestedKey} (h : leafK d = true) (hk : keyOf d = some k) (r : Top w K G H v d) : ∃ key, v = kV key ∧ k = kN key := by
  cases d with
  | int i => cases r.int_inv; simp [keyOf] at hk; exact ⟨.inl i, rfl, hk.symm⟩
  | str x => cases r.str_inv; simp [keyOf] at hk; exact ⟨.inr x, rfl, hk.symm⟩
  | _ => cases h
theorem mix_of : ∀ {es : List Ent} {kvs : List (D × D)}, kvs.map (fun kv => keyOf kv.1) = es.map (fun e => some e.2.2) → RepL w K G H (es.map (·.1)) (kvs.map (·.1)) → (kvs.all fun kv => leafK kv.1) = true → ∃ mk, es = mixE mk
  | [], [], _, _, _ => ⟨[], rfl⟩
  | e :: es, (kd, d) :: kvs, h, r, a => by
    simp only [List.map_cons, List.cons.injEq] at h
    rw [List.map_cons, List.map_cons] at r
    rw [List.all_cons, Bool.and_eq_true] at a
    cases r with
    | cons r1 r2 =>
      obtain ⟨mk, rfl⟩ := mix_of h.2 r2 a.2
      obtain ⟨key, e1, e2⟩ := leaf_inv a.1 h.1 (.rep r1)
      obtain ⟨e1', e2', e3'⟩ := e
      simp only at e1 e2
      exact ⟨(key, e2') :: mk, by rw [e1, e2]; rfl⟩
  | [], _ :: _, h, _, _ => by simp at h
  | _ :: _, [], h, _, _ => by simp at h
theorem valV_mixE {key : L2.Key} : ∀ {mk : List (L2.Key × V)}, valV mk key = lookE (mixE mk) (kN key)
  | [] => rfl
  | p :: mk => by
    have e : mixE (p :: mk) = (kV p.1, p.2, kN p.1) :: mixE mk := rfl
    rw [e, lookE_cons]
    by_cases q : p.1 = key
    · rw [valV_pos q, if_pos (by rw [q])]
    · rw [valV_neg q, if_neg (fun z => q (kN_inj z)), valV_mixE]
theorem mixE_put {mk : List (L2.Key × V)} {key : L2.Key} {v : V} : mixE (putK mk key v) = putE (mixE mk) (kN key) (kV key) v := by
  unfold putK putE
  rw [valV_any, valV_mixE]
  split
  · unfold mixE
    rw [List.map_map, List.map_map]
    refine List.map_congr_left fun p _ => ?_
    simp only [Function.comp_apply]
    by_cases q : p.1 = key
    · rw [if_pos q, if_pos (by rw [q])]
    · rw [if_neg q, if_neg fun z => q (kN_inj z)]
  · simp [mixE]
theorem mix_hash {P : Program} {key : L2.Key} : (mixKind P w).hash key = (kN key).hash w := by cases key <;> rfl
theorem mix_pairs {P : Program} : ∀ {mk : List (L2.Key × V)} {xs : List DictEntry}, Paired (fun (p : Ent) (e : DictEntry) => RelV p.1 e.key ∧ RelV p.2.1 e.val ∧ e.hash = p.2.2.hash w) (mixE mk) xs →
    ∃ vs : List (L2.Key × Value), KV mk vs ∧ Pairs (mixKind P w) xs vs ∧ ∀ e ∈ xs, ∃ k, (mixKind P w).is k e.key = true ∧ e.hash = (mixKind P w).hash k
  | [], xs, h => by
    have h' : Paired _ ([] : List Ent) xs := h
    cases h'
    exact ⟨[], .nil, .nil, fun _ z => nomatch z⟩
  | p :: mk, xs, h => by
    have h' : Paired _ ((kV p.1, p.2, kN p.1) :: mixE mk) xs := h
    cases h' with
    | @cons _ e _ xs r t =>
      obtain ⟨vs, a, b, c⟩ := mix_pairs t
      refine ⟨(p.1, e.val) :: vs, .cons ⟨rfl, r.2.1⟩ a, .cons (kV_is r.1) rfl b, fun e' he => ?_⟩
      rcases List.mem_cons.mp he with rfl | he
      · exact ⟨p.1, kV_is r.1, by rw [mix_hash]; exact r.2.2⟩
      · exact c e' he
theorem mixE_keys (mk : List (L2.Key × V)) : (mixE mk).map (·.2.2) = mk.map fun p => kN p.1 := by unfold mixE; rw [List.map_map]; rfl
theorem nodup_of_map {α β : Type} {f : α → β} : ∀ {l : List α}, (l.map f).Nodup → l.Nodup
  | [], _ => List.nodup_nil
  | a :: l, h => by
    rw [List.map_cons, List.nodup_cons] at h
    exact List.nodup_cons.mpr ⟨fun z => h.1 (List.mem_map.mpr ⟨a, z, rfl⟩), nodup_of_map h.2⟩
theorem mix_dictOf {P : Program} {h : Heap} {a : Addr} {o : Obj} {mk : List (L2.Key × V)} {kvs : List (D × D)} (e : h.get? a = some o) (n : DOk w a o (mixE mk) kvs) : ∃ vs, KV mk vs ∧ h.DictOf (mixKind P w) a vs := by
  obtain ⟨ep, xs, dd, pr⟩ := n.ent
  obtain ⟨vs, a1, a2, a3⟩ := mix_pairs (P := P) pr
  refine ⟨vs, a1, o, xs.toArray, ep, e, n.ex, dd, fun e' he => a3 e' (by simpa using he), by simpa using a2, ?_⟩
  have hn := n.nd
  rw [mixE_keys] at hn
  rw [← a1.keys]
  have e2 : mk.map (fun p => kN p.1) = (mk.map (·.1)).map kN := by rw [List.map_map]; rfl
  rw [e2] at hn
  exact nodup_of_map hn
theorem mix_back {P : Program} {h : Heap} {a : Addr} {mk : List (L2.Key × V)} {vs : List (L2.Key × Value)} (r : KV mk vs) (d : h.DictOf (mixKind P w) a vs) :
    ∃ o, h.get? a = some o ∧ o.ExactDict ∧ ∃ (ep : Nat) (xs : List DictEntry), o.data = .dict xs.toArray ep ∧ Paired (fun (p : Ent) (e : DictEntry) => RelV p.1 e.key ∧ RelV p.2.1 e.val ∧ e.hash = p.2.2.hash w) (mixE mk) xs := by
  obtain ⟨o, es, ep, e, ex, dd, ko, pr, nd⟩ := d
  refine ⟨o, e, ex, ep, es.toList, by simpa using dd, ?_⟩
  have hk : ∀ e ∈ es.toList, ∃ k, (mixKind P w).is k e.key = true ∧ e.hash = (mixKind P w).hash k := fun e he => ko e (by simpa using he)
  clear dd ko nd e
  generalize es.toList = xs at *
  induction pr generalizing mk with
  | nil => cases r; exact .nil
  | @cons e kv xs kvs h1 h2 h3 ih =>
    cases r with
    | @cons p _ mk _ r1 r2 =>
      refine .cons ⟨?_, ?_, ?_⟩ (ih r2 fun e' he => hk e' (List.mem_cons_of_mem _ he))
      · show RelV (kV p.1) e.key
        rw [r1.1]
        rcases keyIs_shape h1 with ⟨i, t, e1, e2⟩ | ⟨x, t, e1, e2⟩
        · rw [e1, e2]; exact ⟨t, rfl⟩
        · rw [e1, e2]; exact ⟨t, rfl⟩
      · show RelV p.2 e.val
        rw [h2]; exact r1.2
      · show e.hash = (kN p.1).hash w
        obtain ⟨k, k1, k2⟩ := hk e (List.mem_cons_self ..)
        rw [k2, (mixKind P w).inj _ _ _ k1 h1, ← r1.1]
        exact mix_hash

/-! ### keys that are tuples -/
mutual
theorem Rep.nested {P : Program} {h : Heap} (ok : HOk P w H h) (KX : K.In h) : ∀ {v : V} {d : D} {u : Value} {k : NestedKey}, Rep w K G H v d → RelV v u → keyOf d = some k → NestedIs h k u
  | _, _, _, _, .non, r, e => by cases r; simp [keyOf] at e; subst e; exact .none
  | _, _, _, _, .bl b, r, e => by cases r; simp [keyOf] at e; subst e; exact .bool rfl
  | _, _, _, _, .int i, r, e => by obtain ⟨t, rfl⟩ := r; simp [keyOf] at e; subst e; exact .int i t
  | _, _, _, _, .str x, r, e => by obtain ⟨t, rfl⟩ := r; simp [keyOf] at e; subst e; exact .text x t
  | _, _, _, _, .list _ _ _, _, e => by simp [keyOf] at e
  | _, _, _, _, .dict _ _ _ _ _, _, e => by simp [keyOf] at e
  | _, _, _, _, .tuple q rl, r, e => by
    cases r
    simp only [keyOf] at e
    obtain ⟨ks, e2, rfl⟩ := Option.map_eq_some_iff.mp e
    obtain ⟨its, rv, ⟨o, e3, c, n, dd⟩, _⟩ := sqT_obj ok KX q
    exact .tup e3 c dd (by simpa using RepL.nested ok KX rl rv e2)
theorem RepL.nested {P : Program} {h : Heap} (ok : HOk P w H h) (KX : K.In h) : ∀ {vs : List V} {ds : List D} {us : List Value} {ks : List NestedKey}, RepL w K G H vs ds → Vals vs us → keysOf ds = some ks → NestedAll h ks us
  | _, _, _, _, .nil, r, e => by cases r; simp [keysOf] at e; subst e; exact .nil
  | _, _, _, _, .cons a b, r, e => by
    cases r with
    | cons r1 r2 =>
      simp only [keysOf] at e
      split at e
      · rename_i k ks h1 h2
        cases e
        exact .cons (Rep.nested ok KX a r1 h1) (RepL.nested ok KX b r2 h2)
      · cases e
end
abbrev TupP (es : List Ent) (xs : List (NestedKey × Addr × Value)) : Prop := Paired (fun (p : Ent) (q : NestedKey × Addr × Value) => p.1 = .ref q.2.1 ∧ p.2.2 = q.1 ∧ RelV p.2.1 q.2.2) es xs
theorem tup_ref {v : V} {d : D} (h : tupK d = true) (r : Rep w K G H v d) : ∃ b, v = .ref b := by
  cases r with
  | tuple _ _ => exact ⟨_, rfl⟩
  | _ => simp [tupK] at h
theorem tup_rows {P : Program} {h : Heap} (ok : HOk P w H h) (KX : K.In h) : ∀ {es : List Ent} {kvs : List (D × D)} {xs : List DictEntry}, kvs.map (fun kv => keyOf kv.1) = es.map (fun e => some e.2.2) → RepL w K G H (es.map (·.1)) (kvs.map (·.1)) →
    (kvs.all fun kv => tupK kv.1) = true → (∀ e ∈ es, e.2.2.depth ≤ 8) → Paired (fun (p : Ent) (e : DictEntry) => RelV p.1 e.key ∧ RelV p.2.1 e.val ∧ e.hash = p.2.2.hash w) es xs →
    ∃ ys, TupP es ys ∧ xs = ys.map (entryOfKey (nestedKind P w)) ∧ ∀ y ∈ ys, (nestedKind P w).is h y.1 y.2.1
  | [], [], xs, _, _, _, _, p => by cases p; exact ⟨[], .nil, rfl, fun _ z => nomatch z⟩
  | e :: es, (kd, d) :: kvs, xs, hk, r, a, dp, p => by
    simp only [List.map_cons, List.cons.injEq] at hk
    rw [List.map_cons, List.map_cons] at r
    rw [List.all_cons, Bool.and_eq_true] at a
    cases r with
    | cons r1 r2 =>
      cases p with
      | @cons _ x _ xs p1 p2 =>
        obtain ⟨ys, q1, q2, q3⟩ := tup_rows ok KX hk.2 r2 a.2 (fun e he => dp e (List.mem_cons_of_mem _ he)) p2
        obtain ⟨b, eb⟩ := tup_ref a.1 r1
        obtain ⟨v1, v2, k⟩ := e
        simp only at eb hk p1 r1
        subst eb
        have ek : x.key = .ref b := p1.1
        have ni := Rep.nested ok KX r1 p1.1 hk.1
        rw [ek] at ni
        refine ⟨(k, b, x.val) :: ys, .cons ⟨rfl, rfl, p1.2.1⟩ q1, ?_, fun y hy => ?_⟩
        · rw [List.map_cons, ← q2]
          obtain ⟨xh, xk, xv⟩ := x
          simp only at ek p1
          rw [ek, p1.2.2]
          rfl
        · rcases List.mem_cons.mp hy with rfl | hy
          · exact ⟨ni, dp _ (List.mem_cons_self ..)⟩
          · exact q3 y hy
  | [], _ :: _, _, h, _, _, _, _ => by simp at h
  | _ :: _, [], _, h, _, _, _, _ => by simp at h
theorem TupP.look {k : NestedKey} : ∀ {es : List Ent} {xs : List (NestedKey × Addr × Value)}, TupP es xs → RelO (lookE es k) ((atKey xs k).map (·.2))
  | _, _, .nil => True.intro
  | _, _, @Paired.cons _ _ _ e x es xs r t => by
    rw [lookE_cons]
    unfold atKey
    rw [List.find?_cons]
    by_cases q : e.2.2 = k
    · rw [if_pos q, decide_eq_true (by rw [← r.2.1]; exact q)]
      exact r.2.2
    · rw [if_neg q, decide_eq_false (by rw [← r.2.1]; exact q)]
      exact TupP.look t
theorem TupP.keys : ∀ {es : List Ent} {xs : List (NestedKey × Addr × Value)}, TupP es xs → es.map (·.2.2) = xs.map (·.1)
  | _, _, .nil => rfl
  | _, _, .cons r t => by rw [List.map_cons, List.map_cons, TupP.keys t, r.2.1]
theorem TupP.repl {k : NestedKey} {v : V} {u : Value} (rv : RelV v u) : ∀ {es : List Ent} {xs : List (NestedKey × Addr × Value)}, TupP es xs → TupP (es.map fun e => if e.2.2 = k then (e.1, v, e.2.2) else e) (xs.map (putAt k u))
  | _, _, .nil => .nil
  | _, _, @Paired.cons _ _ _ e x es xs r t => by
    rw [List.map_cons, List.map_cons]
    refine .cons ?_ (TupP.repl rv t)
    unfold putAt
    by_cases q : e.2.2 = k
    · rw [if_pos q, if_pos (by rw [← r.2.1]; exact q)]
      exact ⟨r.1, r.2.1, rv⟩
    · rw [if_neg q, if_neg (by rw [← r.2.1]; exact q)]
      exact r
theorem TupP.snoc {e : Ent} {x : NestedKey × Addr × Value} (h : e.1 = .ref x.2.1 ∧ e.2.2 = x.1 ∧ RelV e.2.1 x.2.2) : ∀ {es : List Ent} {xs : List (NestedKey × Addr × Value)}, TupP es xs → TupP (es ++ [e]) (xs ++ [x])
  | _, _, .nil => .cons h .nil
  | _, _, .cons r t => .cons r (TupP.snoc h t)
theorem relO_some {o : Option V} {u : Option Value} (r : RelO o u) : o.isSome = u.isSome := by
  cases o <;> cases u <;> first | rfl | exact r.elim
theorem TupP.put {k : NestedKey} {b : Addr} {v : V} {u : Value} (rv : RelV v u) {es : List Ent} {xs : List (NestedKey × Addr × Value)} (t : TupP es xs) : TupP (putE es k (.ref b) v) (storedH xs k b u) := by
  unfold putE storedH
  rw [relO_some (t.look (k := k)), Option.isSome_map]
  split
  · exact t.repl rv
  · exact t.snoc ⟨rfl, rfl, rv⟩
theorem TupP.ents {P : Program} : ∀ {es : List Ent} {xs : List (NestedKey × Addr × Value)}, TupP es xs → Paired (fun (p : Ent) (e : DictEntry) => RelV p.1 e.key ∧ RelV p.2.1 e.val ∧ e.hash = p.2.2.hash w) es (xs.map (entryOfKey (nestedKind P w)))
  | _, _, .nil => .nil
  | _, _, .cons r t => .cons ⟨by rw [r.1]; rfl, r.2.2, by rw [r.2.1]; rfl⟩ (TupP.ents t)
end
/-! ### a dict and a key -/
theorem famK_of {kvs : List (D × D)} {d : D} {k : NestedKey} (h : famK kvs d = some k) : keyOf d = some k ∧ k.depth ≤ 8 ∧ ((leafK d = true ∧ (kvs.all fun kv => leafK kv.1) = true) ∨ (tupK d = true ∧ (kvs.all fun kv => tupK kv.1) = true)) := by
  unfold famK at h
  split at h
  · rename_i k' e
    split at h
    · rename_i z
      cases h
      simp only [Bool.and_eq_true, Bool.or_eq_true, decide_eq_true_eq] at z
      exact ⟨e, z.1, z.2⟩
    · cases h
  · cases h
/-- how a dict is seen by the library's rules: keys by value, or keys that are tuples -/
inductive View (P : Program) (w : World) (h : Heap) (a : Addr) (es : List Ent) (xv : V) (u : Value) (k : NestedKey) : Prop where
  | mix (key : L2.Key) (mk : List (L2.Key × V)) (vs : List (L2.Key × Value)) (e1 : es = mixE mk) (e2 : xv = kV key) (e3 : k = kN key) (hk : (mixKind P w).is key u = true) (r : KV mk vs) (d : h.DictOf (mixKind P w) a vs)
  | tup (b : Addr) (xs : List (NestedKey × Addr × Value)) (e2 : xv = .ref b) (e3 : u = .ref b) (hk : (nestedKind P w).is h k b) (t : TupP es xs) (d : h.DictOfH (nestedKind P w) a xs)
section
variable {X : Cx} {pins : List (Addr × Obj)} {s : Shared} {σ : L2.St} {H : Hp} {G : ASet}
theorem view {a : Addr} {o : Obj} {es : List Ent} {kvs : List (D × D)} {xv : V} {d : D} {u : Value} {k : NestedKey} {G2 : ASet} (I : Inv X pins σ H s) (h : H a = some (rawD a o)) (n : DOk X.w a o es kvs) (rk : RepL X.w X.K G H (es.map (·.1)) (kvs.map (·.1)))
    (t : Top X.w X.K G2 H xv d) (ru : RelV xv u) (f : famK kvs d = some k) : View X.prog X.w s.heap a es xv u k := by
  obtain ⟨hk, dp, q⟩ := famK_of f
  obtain ⟨e, _⟩ := I.hok a _ h
  rcases q with ⟨q1, q2⟩ | ⟨q1, q2⟩
  · obtain ⟨mk, rfl⟩ := mix_of n.keys rk q2
    obtain ⟨key, rfl, rfl⟩ := leaf_inv q1 hk t
    obtain ⟨vs, kv, dd⟩ := mix_dictOf (P := X.prog) e n
    exact .mix key mk vs rfl rfl rfl (kV_is ru) kv dd
  · obtain ⟨ep, xs, dd, pr⟩ := n.ent
    obtain ⟨ys, y1, y2, y3⟩ := tup_rows I.hok I.kIn n.keys rk q2 n.dep pr
    have tr : Rep X.w X.K G2 H xv d := by
      cases t with
      | rep r => exact r
      | list _ _ => simp [tupK] at q1
      | dict _ _ _ _ => simp [tupK] at q1
    obtain ⟨b, rfl⟩ := tup_ref q1 tr
    have eu : u = .ref b := ru
    subst eu
    refine .tup b ys rfl rfl ⟨Rep.nested I.hok I.kIn tr rfl hk, dp⟩ y1 ⟨o, xs.toArray, ep, e, n.ex, dd, by simpa using y2, y3, by rw [← y1.keys]; exact n.nd⟩
variable {A : Around} {E : Value → Shared → Prop}
theorem v_in {a : Addr} {es : List Ent} {xv : V} {u : Value} {k : NestedKey} {Q : Value → Shared → Prop} (hu : A.units + 20 < cLine) (I : Inv X pins σ H s) (hs : (a == sysModules) = false) (v : View X.prog X.w s.heap a es xv u k)
    (h : ∀ s', Inv X pins σ H s' → Q (.bool (lookE es k).isSome) s') : wpAny (model X.prog X.w) A (compareOp .In u (.ref a)) Q E s := by
  cases v with
  | mix key mk vs e1 e2 e3 hk r d =>
    subst e1 e3
    refine wpAny_in_of hk hs d.mapOf ?_
    rw [← relO_some (r.val key), valV_mixE]
    exact h _ (I.tok _)
  | tup b xs e2 e3 hk t d =>
    subst e3
    refine in_keyed (knd := nestedKind X.prog X.w) (by show A.units + 1 + 8 < cLine; omega) hk hs ⟨xs, d, rfl⟩ ?_
    rw [valueAt_pairsH, ← relO_some t.look]
    exact h _ (I.tok _)
theorem v_notIn {a : Addr} {es : List Ent} {xv : V} {u : Value} {k : NestedKey} {Q : Value → Shared → Prop} (hu : A.units + 20 < cLine) (I : Inv X pins σ H s) (hs : (a == sysModules) = false) (v : View X.prog X.w s.heap a es xv u k)
    (h : ∀ s', Inv X pins σ H s' → Q (.bool (!(lookE es k).isSome)) s') : wpAny (model X.prog X.w) A (compareOp .NotIn u (.ref a)) Q E s := by
  cases v with
  | mix key mk vs e1 e2 e3 hk r d =>
    subst e1 e3
    refine wpAny_notIn_of hk hs d.mapOf ?_
    rw [← relO_some (r.val key), valV_mixE]
    exact h _ (I.tok _)
  | tup b xs e2 e3 hk t d =>
    subst e3
    refine notIn_keyed (knd := nestedKind X.prog X.w) (by show A.units + 1 + 8 < cLine; omega) hk hs ⟨xs, d, rfl⟩ ?_
    rw [valueAt_pairsH, ← relO_some t.look]
    exact h _ (I.tok _)
theorem relO_get {o : Option V} {u : Option Value} {v : V} (r : RelO o u) (h : o = some v) : ∃ z, u = some z ∧ RelV v z := by
  subst h
  cases u with
  | none => exact r.elim
  | some z => exact ⟨z, rfl, r⟩
theorem v_get {a : Addr} {es : List Ent} {xv v : V} {u : Value} {k : NestedKey} {Q : Value → Shared → Prop} (hu : A.units + 20 < cLine) (I : Inv X pins σ H s) (vw : View X.prog X.w s.heap a es xv u k) (l : lookE es k = some v)
    (h : ∀ z s', Inv X pins σ H s' → RelV v z → Q z s') : wpAny (model X.prog X.w) A (getItem (.ref a) u) Q E s := by
  cases vw with
  | mix key mk vs e1 e2 e3 hk r d =>
    subst e1 e3
    obtain ⟨z, hz, rz⟩ := relO_get (v := v) (r.val key) (by rw [valV_mixE]; exact l)
    exact wpAny_getItem_of hk d.mapOf hz (h z _ (I.tok _) rz)
  | tup b xs e2 e3 hk t d =>
    subst e3
    obtain ⟨z, hz, rz⟩ := relO_get t.look l
    exact getItem_keyed (knd := nestedKind X.prog X.w) (by show A.units + 1 + 8 < cLine; omega) hk ⟨xs, d, rfl⟩ (by rw [valueAt_pairsH]; exact hz) (h z _ (I.tok _) rz)
theorem View.typeIs {a : Addr} {es : List Ent} {xv : V} {u : Value} {k : NestedKey} (v : View X.prog X.w s.heap a es xv u k) : s.TypeIs (.ref a) "dict" := by
  cases v with
  | mix key mk vs e1 e2 e3 hk r d => exact d.typeIs
  | tup b xs e2 e3 hk t d => exact d.typeIs
/-- d[k] = v: the object a behind it -/
theorem v_set {a : Addr} {o : Obj} {es : List Ent} {xv v : V} {u z : Value} {k : NestedKey} {Q : Unit → Shared → Prop} (hu : A.units + 20 < cLine) (I : Inv X pins σ H s) (he : H a = some (rawD a o)) (hl : es.length < sizeLine) (vw : View X.prog X.w s.heap a es xv u k) (rz : RelV v z)
    (h : ∀ o' s', Inv X pins σ (upd H a (rawD a o')) s' → o'.ExactDict → (∃ (ep : Nat) (xs : List DictEntry), o'.data = .dict xs.toArray ep ∧ Paired (fun (p : Ent) (e : DictEntry) => RelV p.1 e.key ∧ RelV p.2.1 e.val ∧ e.hash = p.2.2.hash X.w) (putE es k xv v) xs) → Q () s') :
    wpAny (model X.prog X.w) A (setItem (.ref a) u z) Q E s := by
  have mu : Mut (H a) := by rw [he]; exact True.intro
  cases vw with
  | mix key mk vs e1 e2 e3 hk r d =>
    subst e1 e2 e3
    have hz : vs.length ≤ sizeLine := by rw [← r.length]; have : (mixE mk).length = mk.length := by simp [mixE]
                                         omega
    refine wpAny_setItem_pairs (hsz := hz) hk d fun h' dd hs => ?_
    obtain ⟨o', g1, g2, g3⟩ := mix_back (r.put key rz) dd
    rw [mixE_put] at g3
    exact h o' _ (d_write I mu hs ⟨o', g1⟩ ⟨g1, ⟨o', g1⟩, fun _ _ p q => q o' p⟩) g2 g3
  | tup b xs e2 e3 hk t d =>
    subst e2 e3
    have hz : xs.length ≤ sizeLine := by have := Paired.length t; omega
    refine wpAny_setItem_heap (knd := nestedKind X.prog X.w) (hsz := hz) (by show A.units + 1 + 8 < cLine; omega) hk d fun h' dd hs => ?_
    obtain ⟨o', es', ep, g1, g2, g3, g4, g5, g6⟩ := dd
    refine h o' _ (d_write I mu hs ⟨o', g1⟩ ⟨g1, ⟨o', g1⟩, fun _ _ p q => q o' p⟩) g2 ⟨ep, es'.toList, by simpa using g3, ?_⟩
    rw [g4]
    exact (t.put rz).ents
/-- the same by a comprehension -/
theorem v_dset {a : Addr} {o : Obj} {es : List Ent} {xv v : V} {u z : Value} {k : NestedKey} {Q : Unit → Shared → Prop} (hu : A.units + 20 < cLine) (I : Inv X pins σ H s) (he : H a = some (rawD a o)) (hl : es.length < sizeLine) (vw : View X.prog X.w s.heap a es xv u k) (rz : RelV v z)
    (h : ∀ o' s', Inv X pins σ (upd H a (rawD a o')) s' → o'.ExactDict → (∃ (ep : Nat) (xs : List DictEntry), o'.data = .dict xs.toArray ep ∧ Paired (fun (p : Ent) (e : DictEntry) => RelV p.1 e.key ∧ RelV p.2.1 e.val ∧ e.hash = p.2.2.hash X.w) (putE es k xv v) xs) → Q () s') :
    wpAny (model X.prog X.w) A (dictSet a u z) Q E s := by
  have mu : Mut (H a) := by rw [he]; exact True.intro
  cases vw with
  | mix key mk vs e1 e2 e3 hk r d =>
    subst e1 e2 e3
    have hz : vs.length ≤ sizeLine := by rw [← r.length]; have : (mixE mk).length = mk.length := by simp [mixE]
                                         omega
    refine wpAny_dictSet_pairs (hsz := hz) hk d fun h' dd hs => ?_
    obtain ⟨o', g1, g2, g3⟩ := mix_back (r.put key rz) dd
    rw [mixE_put] at g3
    exact h o' _ (d_write I mu hs ⟨o', g1⟩ ⟨g1, ⟨o', g1⟩, fun _ _ p q => q o' p⟩) g2 g3
  | tup b xs e2 e3 hk t d =>
    subst e2 e3
    have hz : xs.length ≤ sizeLine := by have := Paired.length t; omega
    refine wpAny_dictSet_heap (knd := nestedKind X.prog X.w) (hsz := hz) (by show A.units + 8 < cLine; omega) hk d fun h' dd hs => ?_
    obtain ⟨o', es', ep, g1, g2, g3, g4, g5, g6⟩ := dd
    refine h o' _ (d_write I mu hs ⟨o', g1⟩ ⟨g1, ⟨o', g1⟩, fun _ _ p q => q o' p⟩) g2 ⟨ep, es'.toList, by simpa using g3, ?_⟩
    rw [g4]
    exact (t.put rz).ents
end
/-! ### an entry put in -/
section
variable {w : World} {K : Frag} {G : ASet} {H H' : Hp}
mutual
theorem keyOf_imm : ∀ {d : D} {k : NestedKey}, keyOf d = some k → immD d = true
  | .none, _, _ => rfl
  | .bool _, _, _ => rfl
  | .int _, _, _ => rfl
  | .str _, _, _ => rfl
  | .tuple xs, _, h => by
    simp only [keyOf] at h
    obtain ⟨ks, e, _⟩ := Option.map_eq_some_iff.mp h
    simpa [immD] using keysOf_imm e
  | .list _, _, h => by simp [keyOf] at h
  | .dict _, _, h => by simp [keyOf] at h
theorem keysOf_imm : ∀ {ds : List D} {ks : List NestedKey}, keysOf ds = some ks → immAll ds = true
  | [], _, _ => rfl
  | d :: ds, _, h => by
    simp only [keysOf] at h
    split at h
    · rename_i h1 h2
      simp only [immAll, Bool.and_eq_true]
      exact ⟨keyOf_imm h1, keysOf_imm h2⟩
    · cases h
end
theorem Top.imm {G G2 : ASet} {v : V} {d : D} (h : immD d = true) (t : Top w K G H v d) : Rep w K G2 H v d := by
  cases t with
  | rep r => exact r.imm h
  | list _ _ => simp [immD] at h
  | dict _ _ _ _ => simp [immD] at h
theorem put_keys {kvs : List (D × D)} {k : NestedKey} {kd d : D} : (put kvs k kd d).map (·.1) = if (look kvs k).isSome then kvs.map (·.1) else kvs.map (·.1) ++ [kd] := by
  unfold put
  split
  · rw [List.map_map]
    refine List.map_congr_left fun e _ => ?_
    simp only [Function.comp_apply]
    split <;> rfl
  · simp
theorem putE_fst {es : List Ent} {k : NestedKey} {kv v : V} : (putE es k kv v).map (·.1) = if (lookE es k).isSome then es.map (·.1) else es.map (·.1) ++ [kv] := by
  unfold putE
  split
  · rw [List.map_map]
    refine List.map_congr_left fun e _ => ?_
    simp only [Function.comp_apply]
    split <;> rfl
  · simp
theorem rep_repl {k : NestedKey} {v : V} {d : D} (r : Rep w K G H v d) : ∀ {es : List Ent} {kvs : List (D × D)}, kvs.map (fun kv => keyOf kv.1) = es.map (fun e => some e.2.2) → RepL w K G H (es.map (·.2.1)) (kvs.map (·.2)) →
    RepL w K G H ((es.map fun e => if e.2.2 = k then (e.1, v, e.2.2) else e).map (·.2.1)) ((kvs.map fun kv => if keyOf kv.1 == some k then (kv.1, d) else kv).map (·.2))
  | [], [], _, _ => .nil
  | e :: es, (kd, x) :: kvs, h, rl => by
    simp only [List.map_cons, List.cons.injEq] at h
    rw [List.map_cons, List.map_cons] at rl
    rw [List.map_cons, List.map_cons, List.map_cons, List.map_cons]
    cases rl with
    | cons r1 r2 =>
      refine .cons ?_ (rep_repl r h.2 r2)
      dsimp only
      rw [h.1]
      by_cases q : e.2.2 = k
      · rw [if_pos q, show (some e.2.2 == some k) = true from beq_iff_eq.mpr (by rw [q])]; exact r
      · rw [if_neg q, show (some e.2.2 == some k) = false from beq_eq_false_iff_ne.mpr fun z => q (Option.some.inj z)]; exact r1
  | [], _ :: _, h, _ => by simp at h
  | _ :: _, [], h, _ => by simp at h
theorem rep_put {k : NestedKey} {kv v : V} {kd d : D} {es : List Ent} {kvs : List (D × D)} (hk : kvs.map (fun kv => keyOf kv.1) = es.map (fun e => some e.2.2)) (rk : RepL w K G H (es.map (·.1)) (kvs.map (·.1))) (rv : RepL w K G H (es.map (·.2.1)) (kvs.map (·.2)))
    (r1 : Rep w K G H kv kd) (r2 : Rep w K G H v d) : RepL w K G H ((putE es k kv v).map (·.1)) ((put kvs k kd d).map (·.1)) ∧ RepL w K G H ((putE es k kv v).map (·.2.1)) ((put kvs k kd d).map (·.2)) := by
  have e := look_isSome (k := k) hk rv
  refine ⟨?_, ?_⟩
  · rw [putE_fst, put_keys, e]
    split
    · exact rk
    · exact rk.app (.cons r1 .nil)
  · unfold putE put
    rw [e]
    split
    · exact rep_repl r2 hk rv
    · rw [List.map_append, List.map_append]
      exact rv.app (.cons r2 .nil)
theorem DOk.put {a : Addr} {o o' : Obj} {es : List Ent} {kvs : List (D × D)} {k : NestedKey} {kv v : V} {kd d : D} (n : DOk w a o es kvs) (rv : (look kvs k).isSome = (lookE es k).isSome) (h1 : keyOf kd = some k) (h2 : k.depth ≤ 8) (hl : es.length < sizeLine) (ex : o'.ExactDict)
    (ent : ∃ (ep : Nat) (xs : List DictEntry), o'.data = .dict xs.toArray ep ∧ Paired (fun (p : Ent) (e : DictEntry) => RelV p.1 e.key ∧ RelV p.2.1 e.val ∧ e.hash = p.2.2.hash w) (putE es k kv v) xs) : DOk w a o' (putE es k kv v) (SP.put kvs k kd d) := by
  refine ⟨ex, ent, ?_, ?_, ?_, n.nosys, Nat.le_trans putE_len hl⟩
  · have a1 : (SP.put kvs k kd d).map (fun kv => keyOf kv.1) = ((SP.put kvs k kd d).map (·.1)).map keyOf := by rw [List.map_map]; rfl
    have a2 : (putE es k kv v).map (fun e => some e.2.2) = ((putE es k kv v).map (·.2.2)).map some := by rw [List.map_map]; rfl
    have a3 : kvs.map (fun kv => keyOf kv.1) = (kvs.map (·.1)).map keyOf := by rw [List.map_map]; rfl
    have a4 : es.map (fun e => some e.2.2) = (es.map (·.2.2)).map some := by rw [List.map_map]; rfl
    have hk := n.keys
    rw [a3, a4] at hk
    rw [a1, a2, put_keys, putE_keys, rv]
    split
    · exact hk
    · rw [List.map_append, List.map_append, hk]; simp [h1]
  · rw [putE_keys]
    split
    · exact n.nd
    · rename_i z
      rw [List.nodup_append]
      refine ⟨n.nd, by simp, fun x hx y hy e => ?_⟩
      rw [List.mem_singleton] at hy
      subst hy e
      exact lookE_none.mp (by simpa using z) hx
  · intro e he
    have : e.2.2 ∈ (putE es k kv v).map (·.2.2) := List.mem_map.mpr ⟨e, he, rfl⟩
    rw [putE_keys] at this
    have old : ∀ {z : NestedKey}, z ∈ es.map (·.2.2) → z.depth ≤ 8 := fun {z} hz => by
      obtain ⟨e', he', rfl⟩ := List.mem_map.mp hz
      exact n.dep e' he'
    split at this
    · exact old this
    · rcases List.mem_append.mp this with z | z
      · exact old z
      · rw [List.mem_singleton] at z; rw [z]; exact h2
theorem keep_updD {D0 : Addr} {o o' : Obj} (h : H D0 = some (rawD D0 o)) : Keep (fun a => a = D0) H (upd H D0 (rawD D0 o')) := by
  refine ⟨fun a o e n => by rw [upd_ne n]; exact e, fun a e => ?_, fun a zs e => ?_, fun a o u e => ?_⟩
  · unfold upd; split
    · simp
    · exact e
  · by_cases z : a = D0
    · subst z; rw [h] at e; cases e
    · rw [upd_ne z]; exact e
  · by_cases z : a = D0
    · subst z; rw [h] at e; cases e
    · rw [upd_ne z]; exact e
end
/-- o[i] = v: lists, dicts -/
def rSetA (w : World) (K : Frag) : V → V → V → Hp → (Hp → Prop) → Prop := fun o i v H Q => rSetL o i v H Q ∨
  ∃ a ob es kvs kd k G, o = .ref a ∧ H a = some (rawD a ob) ∧ DOk w a ob es kvs ∧ RepL w K G H (es.map (·.1)) (kvs.map (·.1)) ∧ Top w K G H i kd ∧ famK kvs kd = some k ∧ es.length < sizeLine ∧
    ∀ ob' : Obj, ob'.ExactDict → (∃ (ep : Nat) (xs : List DictEntry), ob'.data = .dict xs.toArray ep ∧ Paired (fun (p : Ent) (e : DictEntry) => RelV p.1 e.key ∧ RelV p.2.1 e.val ∧ e.hash = p.2.2.hash w) (putE es k i v) xs) → Q (upd H a (rawD a ob'))
theorem set_any {X : Cx} (hr : X.A.units + 20 < cLine) : PSet X (rSetA X.w X.K) := by
  intro pins s σ H o i v ov iv u Q I ro ri rv h
  rcases h with h | ⟨a, ob, es, kvs, kd, k, G, rfl, he, n, rk, t, fk, hl, q⟩
  · exact set_list pins s σ H o i v ov iv u Q I ro ri rv h
  · cases ro
    exact v_set hr I he hl (view I he n rk t ri fk) rv fun ob' s' I' g1 g2 => ⟨_, I', q ob' g1 g2⟩
end SP

/-! SpOps: the operations on data, by the layer's rules. -/
namespace SP
open PySem PySem.W PyProof.Rows L2 PySem.SeqAt
open PySem.AutoSeq1 (wpAny_loadPart')

/-- an operation's end: nothing that stood is changed; the value is the result -/
def OpPost (w : World) (K : Frag) (G : ASet) (H : Hp) (s : Sl) (v : V) (H' : Hp) : Prop :=
  Same H H' ∧ match s with
    | .dat d => Rep w K G H' v d
    | .own m => ∃ a, v = .ref a ∧ H a = none ∧ Cell w K (fun x => G x ∨ x = a) H' a m

section
variable {w : World} {K : Frag} {G : ASet} {H : Hp}
theorem post_dat {v : V} {d : D} (r : Rep w K G H v d) : OpPost w K G H (.dat d) v H := ⟨Same.refl _, r⟩
theorem post_bool {b : Bool} : OpPost w K G H (.dat (.bool b)) (.bl b) H := post_dat (.bl b)
theorem post_int {i : Int} : OpPost w K G H (.dat (.int i)) (.int i) H := post_dat (.int i)
theorem post_str {x : Str} : OpPost w K G H (.dat (.str x)) (.str x) H := post_dat (.str x)
theorem new_bar {p : Addr} (np : H p = none) : ∀ a, (G a ∨ a = p) → H a ≠ none → G a := fun a z n => by
  rcases z with z | rfl
  · exact z
  · exact absurd np n
theorem post_tup {p : Addr} {vs : List V} {ds : List D} (np : H p = none) (r : RepL w K G H vs ds) : OpPost w K G H (.dat (.tuple ds)) (.ref p) (upd H p (.tup vs)) :=
  ⟨same_upd np, .tuple (SqT.of upd_same) (r.keep (Keep.of_same (O := fun _ => False) (same_upd np)) fun _ z => z.elim)⟩
theorem post_lst {p : Addr} {vs : List V} {ds : List D} (np : H p = none) (r : RepL w K G H vs ds) : OpPost w K G H (.own (.lst ds)) (.ref p) (upd H p (.lst vs)) :=
  ⟨same_upd np, p, rfl, np, .lst upd_same ((r.bar (new_bar np)).keep (Keep.of_same (O := fun _ => False) (same_upd np)) fun _ z => z.elim)⟩
end

/-! ### a tuple times a number: one, none -/
theorem tup_mul_self (l : Addr) (items : Array Value) (n : Nat) (dd : Option Addr) (sl : Array (Option Value)) (x : Int) (u : Tok) (c0 : (decide (x < -(2 ^ 63)) || decide (x ≥ 2 ^ 63)) = false) (c1 : (items.isEmpty || x == 1) = true) :
    Meets (Builtin.«tuple.__mul__» ⟨[.ref l, .int x u], []⟩) (fun _ R s => s.heap.get? l = some { cls := .type "tuple", dict := dd, data := .seq items n, slots := sl } ∧ R (.ok (.ret (Value.ref l))) s) :=
  .of_wp fun prog w A R s h => by
    obtain ⟨hp, g, d, tk, os⟩ := s
    obtain ⟨hl, h⟩ := h
    have f1 := AutoSeq1.idx_int
    wp_walk using wpAny_loadPart' hl
    repeat (first
      | (refine wpAny_ite_false (decide_eq_false (by rw [c0]; exact Bool.false_ne_true)) ?_; wp_walk using wpAny_loadPart' hl)
      | (refine wpAny_ite_true (decide_eq_true c1) ?_; wp_walk using wpAny_loadPart' hl))
    exact ⟨_, rfl, h⟩
theorem tup_mul_none (l : Addr) (items : Array Value) (n : Nat) (dd : Option Addr) (sl : Array (Option Value)) (x : Int) (u : Tok) (c0 : (decide (x < -(2 ^ 63)) || decide (x ≥ 2 ^ 63)) = false) (c1 : (items.isEmpty || x == 1) = false) (c2 : (decide (x ≤ 0) || items.isEmpty) = true) :
    Meets (Builtin.«tuple.__mul__» ⟨[.ref l, .int x u], []⟩) (fun _ R s => s.heap.get? l = some { cls := .type "tuple", dict := dd, data := .seq items n, slots := sl } ∧
      R (.ok (.ret (Value.ref s.heap.objs.size))) { s with heap := s.heap.push { cls := Value.type "tuple", data := Data.seq #[] }, toks := s.toks }) :=
  .of_wp fun prog w A R s h => by
    obtain ⟨hp, g, d, tk, os⟩ := s
    obtain ⟨hl, h⟩ := h
    have f1 := AutoSeq1.idx_int
    wp_walk using wpAny_loadPart' hl
    repeat (first
      | (refine wpAny_ite_false (decide_eq_false (by rw [c0]; exact Bool.false_ne_true)) ?_; wp_walk using wpAny_loadPart' hl)
      | (refine wpAny_ite_false (decide_eq_false (by rw [c1]; exact Bool.false_ne_true)) ?_; wp_walk using wpAny_loadPart' hl)
      | (refine wpAny_ite_true (decide_eq_true c2) ?_; wp_walk using wpAny_loadPart' hl))
    exact ⟨_, rfl, h⟩

theorem szLine : szMax ≤ sizeLine := by rw [sizeLine_eq]; decide
theorem RepL.rep {w : World} {K : Frag} {G : ASet} {H : Hp} {vs : List V} {ds : List D} (r : RepL w K G H vs ds) : ∀ n : Nat, RepL w K G H (List.replicate n vs).flatten (List.replicate n ds).flatten
  | 0 => .nil
  | n + 1 => by
    rw [List.replicate_succ, List.replicate_succ, List.flatten_cons, List.flatten_cons]
    exact r.app (RepL.rep r n)
theorem RepL.nil_iff {w : World} {K : Frag} {G : ASet} {H : Hp} {vs : List V} {ds : List D} (r : RepL w K G H vs ds) : vs = [] ↔ ds = [] := by
  cases r with
  | nil => simp
  | cons _ _ => simp

section
variable {X : Cx}
theorem fin_of {pins : List (Addr × Obj)} {s : Shared} {σ : L2.St} {H : Hp} {Q : VK} {v : V} {u : Value} (I : Inv X pins σ H s) (r : RelV v u) (q : Q v H) : EP X pins σ Q u s := ⟨v, H, I, r, q⟩

/-- lists: one behind another, over anything that is read as a list -/
def rCatR : R2 := fun x y H Q => ∃ l b xs zs, x = .ref l ∧ y = .ref b ∧ Rd H l (.lst xs) ∧ Rd H b (.lst zs) ∧ xs.length + zs.length ≤ sizeLine ∧ ∀ p, H p = none → Q (.ref p) (upd H p (.lst (xs ++ zs)))
theorem op_catR : OpR X (binaryOp .Add) rCatR := by
  rintro pins s σ H x y v u Q I rx ry ⟨l, b, xs, zs, rfl, rfl, hH, hB, hz, q⟩
  cases rx; cases ry
  obtain ⟨_, its, n, r, e⟩ := hH.ok I.hok
  obtain ⟨_, its2, n2, r2, e2⟩ := hB.ok I.hok
  have l1 := r.length
  have l2 := r2.length
  refine PySem.P.add_list e e2 ?_ (by simp only [List.size_toArray]; omega)
  rw [show its.toArray ++ its2.toArray = (its ++ its2).toArray by simp]
  exact ⟨.ref _, _, I.lnew (t' := s.toks) (r.append r2) (by rw [List.length_append]; exact hz), rfl, q _ I.fresh⟩
def rRepR : R2 := fun x y H Q => ∃ l k xs, x = .ref l ∧ y = .int k ∧ Rd H l (.lst xs) ∧ -1000 ≤ k ∧ k ≤ 1000 ∧ xs.length ≤ 1000 ∧ ∀ p, H p = none → Q (.ref p) (upd H p (.lst (List.replicate k.toNat xs).flatten))
theorem flat_rep (its : List Value) (m : Nat) : List.foldl (fun p q => p ++ q) (#[] : Array Value) (List.replicate m its.toArray) = (List.replicate m its).flatten.toArray := by
  have e := foldl_rep its m []
  rw [List.nil_append] at e
  exact e
theorem op_repR : OpR X (binaryOp .Mult) rRepR := by
  rintro pins s σ H x y v u Q I rx ry ⟨l, k, xs, rfl, rfl, hH, h1, h2, h3, q⟩
  cases rx
  obtain ⟨tk, rfl⟩ := ry
  obtain ⟨_, its, n, r, e⟩ := hH.ok I.hok
  have hl := r.length
  have hm : xs.length * k.toNat ≤ 1000 * 1000 := Nat.mul_le_mul h3 (by omega)
  have hs : its.toArray.size * k.toNat ≤ sizeLine := by
    rw [List.size_toArray, ← hl, sizeLine_eq]; omega
  have g1 : ¬ (!Builtin.List.listFitsIndex k) = true := by
    rw [fitsIndex_both (by omega) (by omega)]; exact Bool.false_ne_true
  have g2 : ¬ its.toArray.size * k.toNat > (2 ^ 63 - 1) / 8 := by
    rw [sizeLine_eq] at hs; omega
  have g3 : ¬ Builtin.List.listTooLong (its.toArray.size * k.toNat) = true := by
    rw [notLongL hs]; exact Bool.false_ne_true
  have ef : List.foldl (fun p q => p ++ q) #[] (List.replicate (if its.toArray.isEmpty = true then 0 else k.toNat) its.toArray) = (List.replicate k.toNat its).flatten.toArray := by
    rw [flat_rep]
    cases its with
    | nil => simp
    | cons c d => rw [if_neg (by simp)]
  have go := AutoListH.list___mul___list_int_3 l its.toArray n k tk g1 g2 g3
  refine wpAny_binaryOp_repeat_ref (U := "int") (T := "list") (by decide) ⟨_, e, rfl⟩ (fun z => typeIs_int z k tk) noFill_list_mul F.fills_int_mul F.slot_int_rmul repeat_list F.slot_int_index.lookup
    (call_meets F.slot_int_rmul (typeIs_int s k tk) F.entry_int_rmul (F.args_int_rmul_2 _ _) (int___rmul___int_list k tk l its.toArray n) ⟨e, rfl, ⟨_, e, rfl⟩, ?_⟩)
  refine call_meets F.slot_list_mul ⟨_, e, rfl⟩ F.entry_list_mul (F.args_list_mul_2 _ _) go ⟨e, ?_⟩
  rw [ef]
  refine ⟨.ref _, _, I.lnew (t' := s.toks) (r.rep k.toNat) ?_, rfl, q _ I.fresh⟩
  rw [PyProof.Rows.lm_len_rep_flat, sizeLine_eq, Nat.mul_comm]; omega
/-- a tuple times a number -/
def rRepA (K : Frag) : R2 := fun x y H Q => ∃ l k xs, x = .ref l ∧ y = .int k ∧ SqT K H l xs ∧ -1000 ≤ k ∧ k ≤ 1000 ∧ xs.length ≤ 1000 ∧
  (xs = [] ∨ k = 1 → Q (.ref l) H) ∧ (xs ≠ [] ∧ k ≠ 1 → ∀ p, H p = none → Q (.ref p) (upd H p (.tup (List.replicate k.toNat xs).flatten)))
theorem op_repA : OpR X (binaryOp .Mult) (rRepA X.K) := by
  rintro pins s σ H x y v u Q I rx ry ⟨l, k, xs, rfl, rfl, hT, h1, h2, h3, q1, q2⟩
  by_cases hk : xs ≠ [] ∧ 2 ≤ k
  · exact op_repT pins s σ H _ _ v u Q I rx ry ⟨l, k, xs, rfl, rfl, hT, hk.1, hk.2, h2, h3, q2 ⟨hk.1, by omega⟩⟩
  cases rx
  obtain ⟨tk, rfl⟩ := ry
  obtain ⟨its, r, ⟨⟨cls, dd, data, sl⟩, ho, hc, n, hd⟩, hs⟩ := I.tuple hT
  simp only at hc hd
  subst hc hd
  have hl := r.length
  have c0 : (decide (k < -(2 ^ 63)) || decide (k ≥ 2 ^ 63)) = false := by
    rw [decide_eq_false (by omega), decide_eq_false (by omega)] <;> rfl
  have way : ∀ {R : Value → Shared → Prop}, wpAny (model X.prog X.w) X.A (call (.builtin "tuple.__mul__") [.ref l, .int k tk]) R X.xe s → wpAny (model X.prog X.w) X.A (binaryOp .Mult (.ref l) (.int k tk)) R X.xe s := fun hw =>
    wpAny_binaryOp_repeat_ref (U := "int") (T := "tuple") (by decide) ⟨_, ho, rfl⟩ (fun z => typeIs_int z k tk) noFill_tuple_mul F.fills_int_mul F.slot_int_rmul repeat_tuple F.slot_int_index.lookup
      (call_meets F.slot_int_rmul (typeIs_int s k tk) F.entry_int_rmul (F.args_int_rmul_2 _ _) (int_rmul_tuple k tk l its.toArray n dd sl) ⟨ho, rfl, ⟨_, ho, rfl⟩, hw⟩)
  have emp : its.toArray.isEmpty = true ↔ xs = [] := by
    cases r with
    | nil => simp
    | cons _ _ => simp
  by_cases hS : xs = [] ∨ k = 1
  · have c1 : (its.toArray.isEmpty || k == 1) = true := by
      rcases hS with z | z
      · rw [emp.mpr z]; rfl
      · subst z; simp
    exact way (call_meets F.slot_tuple_mul ⟨_, ho, rfl⟩ F.entry_tuple_mul (F.args_tuple_mul_2 _ _) (tup_mul_self l its.toArray n dd sl k tk c0 c1) ⟨ho, .ref l, H, I, rfl, q1 hS⟩)
  · have hx : xs ≠ [] := fun z => hS (.inl z)
    have hk1 : k ≠ 1 := fun z => hS (.inr z)
    have hk0 : k ≤ 0 := by
      rcases Int.lt_or_le 0 k with z | z
      · exact absurd ⟨hx, by omega⟩ hk
      · exact z
    have c1 : (its.toArray.isEmpty || k == 1) = false := by
      have z : its.toArray.isEmpty = false := by
        cases e : its.toArray.isEmpty with
        | false => rfl
        | true => exact absurd (emp.mp e) hx
      rw [z, Bool.false_or]
      exact beq_eq_false_iff_ne.mpr hk1
    have c2 : (decide (k ≤ 0) || its.toArray.isEmpty) = true := by rw [decide_eq_true hk0]; rfl
    refine way (call_meets F.slot_tuple_mul ⟨_, ho, rfl⟩ F.entry_tuple_mul (F.args_tuple_mul_2 _ _) (tup_mul_none l its.toArray n dd sl k tk c0 c1 c2) ⟨ho, ?_⟩)
    have z : (List.replicate k.toNat xs).flatten = [] := by
      rw [show k.toNat = 0 by omega]; rfl
    have q3 := q2 ⟨hx, hk1⟩ s.heap.objs.size (I.hok.fresh (Nat.le_refl _))
    rw [z] at q3
    exact ⟨.ref s.heap.objs.size, _, I.laid (t' := s.toks) (o := .tup []) (fun b ob e => Heap.get?_push_of_some _ e) (Nat.le_refl _) ⟨Nat.zero_le _, [], .nil, IsTup.new _ _⟩, rfl, q3⟩

/-- a two-place operation on data -/
def rBin (w : World) (K : Frag) (op : Operator) : R2 := fun x y H Q => ∃ G d e sl, Top w K G H x d ∧ Top w K G H y e ∧ binD op d e = some sl ∧ ∀ v H', OpPost w K G H sl v H' → Q v H'
theorem op_bin (op : Operator) : OpR X (binaryOp op) (rBin X.w X.K op) := by
  rintro pins s σ H x y v u Q I rx ry ⟨G, d, e, sl, tx, ty, hb, q⟩
  unfold binD at hb
  split at hb
  · cases hb; cases tx.int_inv; cases ty.int_inv
    exact op_add pins s σ H _ _ v u Q I rx ry ⟨_, _, rfl, rfl, q _ _ post_int⟩
  · split at hb
    · rename_i hz
      cases hb
      obtain ⟨a, vs, rfl, ha, ra⟩ := tx.list_inv
      obtain ⟨b, us, rfl, hb', rb⟩ := ty.list_inv
      exact op_catR pins s σ H _ _ v u Q I rx ry ⟨a, b, vs, us, rfl, rfl, ha, hb', by rw [ra.length, rb.length]; exact Nat.le_trans hz szLine, fun p np => q _ _ (post_lst np (ra.app rb))⟩
    · cases hb
  · split at hb
    · rename_i hz
      cases hb
      obtain ⟨a, vs, rfl, ha, ra⟩ := tx.tuple_inv
      obtain ⟨b, us, rfl, hb', rb⟩ := ty.tuple_inv
      refine op_catA pins s σ H _ _ v u Q I rx ry ⟨a, b, vs, us, rfl, rfl, ha, hb', by rw [ra.length, rb.length]; exact Nat.le_trans hz szLine, fun z => ?_, fun _ z => ?_, fun _ _ p np => q _ _ (post_tup np (ra.app rb))⟩
      · rw [ra.nil_iff.mp z, List.nil_append] at q
        exact q _ _ (post_dat (.tuple hb' rb))
      · rw [rb.nil_iff.mp z, List.append_nil] at q
        exact q _ _ (post_dat (.tuple ha ra))
    · cases hb
  · split at hb
    · rename_i hz
      cases hb; cases tx.str_inv; cases ty.str_inv
      exact op_add_str pins s σ H _ _ v u Q I rx ry ⟨_, _, rfl, rfl, Nat.le_trans hz szLine, q _ _ post_str⟩
    · cases hb
  · cases hb; cases tx.int_inv; cases ty.int_inv
    exact op_sub pins s σ H _ _ v u Q I rx ry ⟨_, _, rfl, rfl, q _ _ post_int⟩
  · split at hb
    · rename_i hz
      cases hb; cases tx.int_inv; cases ty.int_inv
      exact op_mul pins s σ H _ _ v u Q I rx ry ⟨_, _, rfl, rfl, hz, q _ _ post_int⟩
    · cases hb
  · split at hb
    · rename_i hz
      cases hb; cases ty.int_inv
      obtain ⟨a, vs, rfl, ha, ra⟩ := tx.tuple_inv
      refine op_repA pins s σ H _ _ v u Q I rx ry ⟨a, _, vs, rfl, rfl, ha, hz.2.1, hz.2.2, by rw [ra.length]; exact hz.1, fun z => ?_, fun _ p np => q _ _ (post_tup np (ra.rep _))⟩
      rcases z with z | z
      · rw [ra.nil_iff.mp z] at q
        subst z
        have e : ∀ n : Nat, (List.replicate n ([] : List D)).flatten = [] := fun n => by simp
        rw [e] at q
        exact q _ _ (post_dat (.tuple ha .nil))
      · subst z
        have e : ∀ l : List D, (List.replicate (Int.toNat 1) l).flatten = l := fun l => by simp
        rw [e] at q
        exact q _ _ (post_dat (.tuple ha ra))
    · cases hb
  · split at hb
    · rename_i hz
      cases hb; cases ty.int_inv
      obtain ⟨a, vs, rfl, ha, ra⟩ := tx.list_inv
      exact op_repR pins s σ H _ _ v u Q I rx ry ⟨a, _, vs, rfl, rfl, ha, hz.2.1, hz.2.2, by rw [ra.length]; exact hz.1, fun p np => q _ _ (post_lst np (ra.rep _))⟩
    · cases hb
  · split at hb
    · rename_i hz
      cases hb; cases tx.int_inv; cases ty.int_inv
      exact op_mod pins s σ H _ _ v u Q I rx ry ⟨_, _, rfl, rfl, hz, q _ _ post_int⟩
    · cases hb
  · split at hb
    · rename_i hz
      cases hb; cases tx.int_inv; cases ty.int_inv
      exact op_fdiv pins s σ H _ _ v u Q I rx ry ⟨_, _, rfl, rfl, hz, q _ _ post_int⟩
    · cases hb
  · split at hb
    · rename_i hz
      cases hb; cases tx.int_inv; cases ty.int_inv
      exact op_pow pins s σ H _ _ v u Q I rx ry ⟨_, _, rfl, rfl, hz, q _ _ post_int⟩
    · cases hb
  · cases hb
end

/-! ### small data -/
mutual
theorem sm_plain : ∀ {n : Nat} {d : D}, sm n d = true → d.plain = true ∧ d.depth ≤ n
  | _, .none, _ => ⟨rfl, by simp [PyData.depth]⟩
  | _, .bool _, _ => ⟨rfl, by simp [PyData.depth]⟩
  | _, .int _, _ => ⟨rfl, by simp [PyData.depth]⟩
  | _, .str _, _ => ⟨rfl, by simp [PyData.depth]⟩
  | 0, .list _, h => by simp [sm] at h
  | 0, .tuple _, h => by simp [sm] at h
  | n + 1, .list xs, h => by
    have z := smAll_plain (n := n) (ds := xs) (by simpa [sm] using h)
    exact ⟨by simpa [PyData.plain] using z.1, by simp only [PyData.depth]; omega⟩
  | n + 1, .tuple xs, h => by
    have z := smAll_plain (n := n) (ds := xs) (by simpa [sm] using h)
    exact ⟨by simpa [PyData.plain] using z.1, by simp only [PyData.depth]; omega⟩
  | 0, .dict _, h => by simp [sm] at h
  | _ + 1, .dict _, h => by simp [sm] at h
theorem smAll_plain : ∀ {n : Nat} {ds : List D}, smAll n ds = true → PyData.plainAll ds = true ∧ PyData.depthAll ds ≤ n
  | _, [], _ => ⟨rfl, by simp [PyData.depthAll]⟩
  | n, x :: xs, h => by
    simp only [smAll, Bool.and_eq_true] at h
    have a := sm_plain h.1
    have b := smAll_plain h.2
    exact ⟨by simp [PyData.plainAll, a.1, b.1], by simp only [PyData.depthAll]; omega⟩
end

/-- where the rules are used -/
structure Ctx (X : Cx) : Prop where
  calm : X.calm = true
  grd : X.A.guards = some []
  room : X.A.units + 200 < cLine
  xe : X.xe = fun _ _ => False
  nd : X.N.Nodup
  sysm : ∃ o, X.base.get? sysModules = some o

section
variable {X : Cx}
theorem no_sys {pins : List (Addr × Obj)} {s : Shared} {σ : L2.St} {H : Hp} (c : Ctx X) (I : Inv X pins σ H s) : H sysModules = none := let ⟨o, e⟩ := c.sysm; (I.bs _ o e).2
theorem not_sys {pins : List (Addr × Obj)} {s : Shared} {σ : L2.St} {H : Hp} (c : Ctx X) (I : Inv X pins σ H s) {as : List Addr} (h : ∀ a ∈ as, H a ≠ none) : sysModules ∉ as := fun z => h _ z (no_sys c I)
theorem Top.reads {G : ASet} {pins : List (Addr × Obj)} {s : Shared} {σ : L2.St} {H : Hp} {x : V} {d : D} {v : Value} (I : Inv X pins σ H s) (t : Top X.w X.K G H x d) (r : RelV x v) : ∃ as, Reads s.heap v d as ∧ ∀ a ∈ as, H a ≠ none :=
  t.free.reads I.hok I.kIn r
/-- a comparison of data -/
def rCmp (w : World) (K : Frag) (op : CmpOp) : R2 := fun x y H Q => ∃ G d e k, Top w K G H x d ∧ Top w K G H y e ∧ cmpD op d e = some k ∧ Q (.bl k) H
theorem ordD_of {x y : D} (h : ordD x y = true) : sm deepest x = true ∧ sm deepest y = true ∧ alike x y = true ∧ x ≠ .none := by
  simp only [ordD, Bool.and_eq_true] at h
  refine ⟨h.1.1.1, h.1.1.2, h.1.2, fun z => ?_⟩
  subst z
  exact absurd h.2 Bool.false_ne_true
theorem op_cmp (c : Ctx X) (op : CmpOp) : OpR X (compareOp op) (rCmp X.w X.K op) := by
  rintro pins s σ H x y v u Q I rx ry ⟨G, d, e, k, tx, ty, hb, q⟩
  obtain ⟨as, ra, _⟩ := tx.reads I rx
  obtain ⟨bs, rb, _⟩ := ty.reads I ry
  have hr := c.room
  have fin : ∀ {k' : Bool}, k = k' → EP X pins σ Q (.bool k') s := fun e => by subst e; exact ⟨.bl k, H, I, rfl, q⟩
  have eqs : ∀ {kk}, eqD d e = some kk → d.plain = true ∧ e.plain = true ∧ X.A.units + min d.depth e.depth < cLine ∧ kk = PyData.eqv d e := fun {kk} h => by
    unfold eqD at h
    split at h
    · rename_i z
      rw [Bool.and_eq_true] at z
      have a := sm_plain z.1
      have b := sm_plain z.2
      have hd : deepest = 60 := rfl
      cases h
      exact ⟨a.1, b.1, by omega, rfl⟩
    · cases h
  have ords : ordD d e = true → alike d e = true ∧ d ≠ .none ∧ X.A.units + min d.depth e.depth < cLine := fun h => by
    obtain ⟨h1, h2, h3, h4⟩ := ordD_of h
    have a := sm_plain h1
    have hd : deepest = 60 := rfl
    exact ⟨h3, h4, by omega⟩
  have lts : ∀ {kk}, ltD d e = some kk → ordD d e = true ∧ kk = dataLt d e := fun {kk} h => by
    unfold ltD at h
    split at h
    · rename_i z; cases h; exact ⟨z, rfl⟩
    · cases h
  cases op with
  | Eq =>
    obtain ⟨h1, h2, h3, h4⟩ := eqs hb
    exact eq_plain ra rb h1 h2 h3 (fin h4)
  | NotEq =>
    obtain ⟨kk, h, rfl⟩ := Option.map_eq_some_iff.mp hb
    obtain ⟨h1, h2, h3, h4⟩ := eqs h
    exact ne_plain ra rb h1 h2 h3 (fin (by rw [h4]))
  | Lt =>
    obtain ⟨h1, h2⟩ := lts hb
    obtain ⟨h3, h4, h5⟩ := ords h1
    exact lt_data ra rb h3 h4 h5 (fin h2)
  | Gt =>
    simp only [cmpD] at hb
    split at hb
    · rename_i z
      cases hb
      obtain ⟨h3, h4, h5⟩ := ords z
      exact gt_data ra rb h3 h4 h5 (fin rfl)
    · cases hb
  | LtE =>
    simp only [cmpD] at hb
    split at hb
    · rename_i z
      cases hb
      obtain ⟨h3, h4, h5⟩ := ords z
      exact le_data ra rb h3 h4 h5 (fin rfl)
    · cases hb
  | GtE =>
    obtain ⟨kk, h, rfl⟩ := Option.map_eq_some_iff.mp hb
    obtain ⟨h1, h2⟩ := lts h
    obtain ⟨h3, h4, h5⟩ := ords h1
    exact ge_data ra rb h3 h4 h5 (fin (by rw [h2]))
  | Is =>
    simp only [cmpD] at hb
    unfold isD at hb
    split at hb
    · cases hb
      cases ty.none_inv
      refine op_isN pins s σ H x _ v u Q I rx ry ⟨rfl, ?_⟩
      have z : decide (x = V.non) = isNoneD d := by
        cases tx with
        | rep r => cases r <;> simp [isNoneD]
        | list _ _ => simp [isNoneD]
        | dict _ _ _ _ => simp [isNoneD]
      rw [z]; exact q
    · split at hb
      · cases hb
        cases ty.bool_inv
        cases tx.bool_inv
        exact op_isBl pins s σ H _ _ v u Q I rx ry ⟨_, _, rfl, rfl, q⟩
      · cases hb
    · cases hb
  | IsNot =>
    obtain ⟨kk, hk, rfl⟩ := Option.map_eq_some_iff.mp hb
    unfold isD at hk
    split at hk
    · cases hk
      cases ty.none_inv
      refine op_notN pins s σ H x _ v u Q I rx ry ⟨rfl, ?_⟩
      have z : decide (x = V.non) = isNoneD d := by
        cases tx with
        | rep r => cases r <;> simp [isNoneD]
        | list _ _ => simp [isNoneD]
        | dict _ _ _ _ => simp [isNoneD]
      rw [z]; exact q
    · split at hk
      · cases hk
        cases ty.bool_inv
        cases tx.bool_inv
        exact op_notBl pins s σ H _ _ v u Q I rx ry ⟨_, _, rfl, rfl, q⟩
      · cases hk
    · cases hk
  | In =>
    simp only [cmpD] at hb
    unfold inD at hb
    have dd : deepest = 60 := rfl
    split at hb
    · split at hb
      · rename_i z
        rw [Bool.and_eq_true] at z
        have a := sm_plain z.1
        have b := smAll_plain z.2
        cases hb
        exact in_list_data rb ra b.1 a.1 (by omega) (fin rfl)
      · cases hb
    · split at hb
      · rename_i z
        rw [Bool.and_eq_true] at z
        have a := sm_plain z.1
        have b := smAll_plain z.2
        cases hb
        exact in_tuple_data rb ra b.1 a.1 (by omega) (fin rfl)
      · cases hb
    · split at hb
      · rename_i k' fk
        cases hb
        obtain ⟨a, o, es, rfl, hh, n, rk, rvs⟩ := ty.dict_inv
        cases ry
        refine v_in (by omega) I n.nosys (view I hh n rk tx rx fk) fun s' I' => ⟨.bl _, H, I', rfl, ?_⟩
        rw [look_isSome n.keys rvs] at q
        exact q
      · cases hb
    · cases hb
  | NotIn =>
    obtain ⟨kk, hk, rfl⟩ := Option.map_eq_some_iff.mp hb
    unfold inD at hk
    have dd : deepest = 60 := rfl
    split at hk
    · split at hk
      · rename_i z
        rw [Bool.and_eq_true] at z
        have a := sm_plain z.1
        have b := smAll_plain z.2
        cases hk
        exact notIn_list_data rb ra b.1 a.1 (by omega) (fin rfl)
      · cases hk
    · split at hk
      · rename_i z
        rw [Bool.and_eq_true] at z
        have a := sm_plain z.1
        have b := smAll_plain z.2
        cases hk
        exact notIn_tuple_data rb ra b.1 a.1 (by omega) (fin rfl)
      · cases hk
    · split at hk
      · rename_i k' fk
        cases hk
        obtain ⟨a, o, es, rfl, hh, n, rk, rvs⟩ := ty.dict_inv
        cases ry
        refine v_notIn (by omega) I n.nosys (view I hh n rk tx rx fk) fun s' I' => ⟨.bl _, H, I', rfl, ?_⟩
        rw [look_isSome n.keys rvs] at q
        exact q
      · cases hk
    · cases hk
end
end SP

/-! SpZip: zip(x, y, strict=False). -/
namespace PySem
open Sem (wp)
theorem tc_zipK (a b c : Value) : checkTypeCall "zip" ⟨[a, b], [(Str.ofString "strict", c)]⟩ = pure () := by kernel_rfl
theorem nc_zipK (a b c : Value) : checkBuiltinCall "zip.__new__" ⟨[.type "zip", a, b], [(Str.ofString "strict", c)]⟩ = pure () := by kernel_rfl
theorem ao_zipK (obj a b c : Value) : argsOk "object.__init__" ⟨[obj, a, b], [(Str.ofString "strict", c)]⟩ := by unfold argsOk; kernel_rfl
theorem meets_zipK {v1 v2 : Value} {o1 o2 : Obj} {H1 H2 : Heap → Prop} (B1 : Begins v1 o1 H1) (B2 : Begins v2 o2 H2) :
    Meets (Builtin.«zip.__new__» ⟨[.type "zip", v1, v2], [(Str.ofString "strict", .bool false)]⟩) (fun _ R s => (H1 s.heap ∧ H2 s.heap) ∧ R (.ok (.ret (.ref (gzO2 s.heap o1 o2).objs.size))) { s with heap := gzZ2 s.heap o1 o2 }) := by
  refine .of_wp fun prog w A R s h => ?_
  obtain ⟨hp, g, d, tk, os⟩ := s
  obtain ⟨⟨a1, a2⟩, h⟩ := h
  have hsub := sub_zip
  have e2 : (Str.ofString "strict" != ("strict" : Str)) = false := by decide +kernel
  have it1 : ∀ {A' : Around} {E Q : Value → Shared → Prop}, Q (.ref hp.objs.size) ⟨hp.push o1, g, d, tk, os⟩ → wpAny (model prog w) A' (pyIter v1) Q E ⟨hp, g, d, tk, os⟩ := fun z => B1.iter prog w _ _ ⟨hp, g, d, tk, os⟩ _ a1 z
  have it2 : ∀ {A' : Around} {E Q : Value → Shared → Prop}, Q (.ref (hp.push o1).objs.size) ⟨(hp.push o1).push o2, g, d, tk, os⟩ → wpAny (model prog w) A' (pyIter v2) Q E ⟨hp.push o1, g, d, tk, os⟩ :=
    fun z => B2.iter prog w _ _ ⟨hp.push o1, g, d, tk, os⟩ _ (B2.keeps _ _ a2 fun _ _ y => Heap.get?_push_of_some _ y) z
  wp_walk using it1, it2
  exact ⟨_, rfl, h⟩
section
variable {prog : Program} {w : World} {A : Around} {E : Value → Shared → Prop} {s : Shared}
/-- its five new cells, as without the keyword -/
theorem zip_K {v1 v2 : Value} {o1 o2 : Obj} {H1 H2 : Heap → Prop} {Q : Value → Shared → Prop} (B1 : Begins v1 o1 H1) (B2 : Begins v2 o2 H2) (a1 : H1 s.heap) (a2 : H2 s.heap)
    (h : ∀ h', IsZip h' (s.heap.objs.size + 4) (s.heap.objs.size + 2) (s.heap.objs.size + 3) .none → IsTupOf2 h' (s.heap.objs.size + 2) (.ref s.heap.objs.size) (.ref (s.heap.objs.size + 1)) →
      IsTupOf2 h' (s.heap.objs.size + 3) .none .none → h'.get? s.heap.objs.size = some o1 → h'.get? (s.heap.objs.size + 1) = some o2 →
      (∀ c o, s.heap.get? c = some o → h'.get? c = some o) → Q (.ref (s.heap.objs.size + 4)) { s with heap := h' }) :
    wpAny (model prog w) A (call (.type "zip") [v1, v2] [(Str.ofString "strict", .bool false)]) Q E s := by
  refine callType_newKw F.called_zip (by decide) (tc_zipK _ _ _) (nc_zipK _ _ _) (fun obj => ao_zipK obj _ _ _) F.entry_zip_new (meets_zipK B1 B2) ⟨⟨a1, a2⟩, ?_⟩
  have n1 : (s.heap.push o1).objs.size = s.heap.objs.size + 1 := Heap.size_push ..
  have n2 : ((s.heap.push o1).push o2).objs.size = s.heap.objs.size + 2 := by rw [Heap.size_push, n1]
  have n3 : (gzT2 s.heap o1 o2).objs.size = s.heap.objs.size + 3 := by rw [Heap.size_push, n2]
  have n4 : (gzO2 s.heap o1 o2).objs.size = s.heap.objs.size + 4 := by rw [Heap.size_push, n3]
  have p5 : (gzZ2 s.heap o1 o2).get? (gzO2 s.heap o1 o2).objs.size = some { cls := .type "zip", data := .fields #[.none, .bool false, .bool false, .ref ((s.heap.push o1).push o2).objs.size, .ref (gzT2 s.heap o1 o2).objs.size] } := Heap.get?_push_size _ rfl
  have p4 : (gzZ2 s.heap o1 o2).get? (gzT2 s.heap o1 o2).objs.size = some { cls := .type "tuple", data := .seq #[.none, .none] } := Heap.get?_push_of_some _ (Heap.get?_push_size _ rfl)
  have p3 : (gzZ2 s.heap o1 o2).get? ((s.heap.push o1).push o2).objs.size = some { cls := .type "tuple", data := .seq #[.ref s.heap.objs.size, .ref (s.heap.push o1).objs.size] } := Heap.get?_push_of_some _ (Heap.get?_push_of_some _ (Heap.get?_push_size _ rfl))
  have p2 : (gzZ2 s.heap o1 o2).get? (s.heap.push o1).objs.size = some o2 := Heap.get?_push_of_some _ (Heap.get?_push_of_some _ (Heap.get?_push_of_some _ (Heap.get?_push_size _ B2.free)))
  have p1 : (gzZ2 s.heap o1 o2).get? s.heap.objs.size = some o1 := Heap.get?_push_of_some _ (Heap.get?_push_of_some _ (Heap.get?_push_of_some _ (Heap.get?_push_of_some _ (Heap.get?_push_size _ B1.free))))
  rw [n4, n3, n2] at p5
  rw [n3] at p4
  rw [n2, n1] at p3
  rw [n1] at p2
  show _ ∧ _
  rw [n4]
  exact ⟨⟨_, p5, rfl⟩, h _ p5 p3 p4 p1 p2 fun c o e => Heap.get?_push_of_some _ (Heap.get?_push_of_some _ (Heap.get?_push_of_some _ (Heap.get?_push_of_some _ (Heap.get?_push_of_some _ e))))⟩
theorem callWith_tyK {M : Model} {A : Around} {E : Value → Shared → Prop} {s : Shared} {env : Env} {pos : Pos} {T : String} {e : Expr} {rest : List Expr} {kws : List Keyword} {Q : Value → Shared → Prop}
    (h : wpAny M A (spliced (backTo pos (starEach (e :: rest) env))) (fun vs s₁ => wpAny M A (evalAll ((backToKw pos (keywordEach kws env)).map (·.2)))
      (fun kvs s₂ => wpAny M A (call (.type T) vs (((backToKw pos (keywordEach kws env)).filterMap (·.1)).zip kvs)) Q E s₂) E s₁) E s)
    (he : backTo pos (starEach (e :: rest) env) = (false, eval e env) :: backTo pos (starEach rest env)) (hpl : (backTo pos (starEach (e :: rest) env)).any (·.1) = false)
    (hall : (backToKw pos (keywordEach kws env)).all (·.1.isSome) = true) (hkw : (backToKw pos (keywordEach kws env)).any (·.1.isNone) = false) :
    wpAny M A (callWith pos (.type T) [] (backTo pos (starEach (e :: rest) env)) (backToKw pos (keywordEach kws env))) Q E s := by
  have k : wpAny M A (evalArgs (.type T) true (backTo pos (starEach (e :: rest) env)) (backToKw pos (keywordEach kws env))) (fun a s₁ => wpAny M A (call (.type T) ([] ++ a.pos) a.kw) Q E s₁) E s := by
    rw [he] at h ⊢
    exact PyProof.Rows.evalArgs_kwB hall h
  unfold callWith
  refine wpAny_bind (wpAny_holding (wpAny_mono k (fun a s₁ h₁ => wpAny_bind (wpAny_standAt ?_)) fun _ _ x => x))
  simp only [hpl, hkw, Bool.or_false]
  refine wpAny_bind (wpAny_pure ?_)
  exact wpAny_bind (wpAny_mono h₁ (fun r s₂ hr => wpAny_bind (wpAny_holding (wpAny_point (wpAny_pure hr)))) fun _ _ x => x)
end
end PySem
namespace SP
open PySem PySem.W PyProof.Rows L2 PySem.SeqAt
/-- for .. in zip(x, y, strict=False) -/
theorem pi_zipK {X : Cx} {e e2 : Expr} {ta : TA} {p pos tpos kp cp : Pos} {cj : Nat} {elts : List Expr} {kk : Nat} (hg : Gl X "zip") (hm : X.mg "zip" = none) (ha : PA X [e, e2] ta)
    (hs : starEach [e, e2] X.env = (false, eval e X.env) :: starEach [e2] X.env) (hpl : (backTo pos (starEach [e2] X.env)).any (·.1) = false) :
    PI X (.Tuple elts kk tpos) (.Call (.Name "zip" p) [e, e2] [⟨some (Str.ofString "strict"), .Constant (.bool false) cj cp, kp⟩] pos) (RZ.iZipA X.K ta) := by
  refine ⟨fun pins s σ H R I h => ?_⟩
  refine wpAny_Call_Name_kw (ld_blt I hg hm PyProof.Rows.boot_zip ?_)
  refine callWith_tyK (thn (ha.run pos pins s σ H _ I h) fun us s1 ⟨vs, H1, I1, r1, q1⟩ => ?_) (by rw [hs]; rfl) (by rw [hs]; exact hpl) rfl rfl
  refine thn ((pk_cons (X := X) (nm := some (Str.ofString "strict")) (kpos := kp) (pe_bl (b := false) (j := cj) (pos := cp)) pk_nil).run pos pins s1 σ H1 (fun zs H2 => zs = [.bl false] ∧ H2 = H1) I1 (by exact ⟨rfl, rfl⟩)) fun ws s2 ⟨zs, H2, I2, r2, ez, eH⟩ => ?_
  subst ez eH
  have ew : ws = [.bool false] := by
    cases r2 with
    | cons a b => cases b; cases a; rfl
  subst ew
  obtain ⟨a, b, xs, ys, ex, q1⟩ := q1
  subst ex
  cases r1 with
  | cons r rr =>
    cases rr with
    | cons r' rr =>
      cases rr
      cases r
      cases r'
      have fresh5 : ∀ c, c ∈ [s2.heap.objs.size + 4, s2.heap.objs.size + 2, s2.heap.objs.size + 3, s2.heap.objs.size, s2.heap.objs.size + 1] → FpOk X pins H2 c := fun c hc => by
        have hle : s2.heap.objs.size ≤ c := by
          simp only [List.mem_cons, List.not_mem_nil, or_false] at hc
          omega
        exact I2.fpOk hle (I2.hok.fresh hle)
      show wpAny _ _ (call (.type "zip") [.ref a, .ref b] [(Str.ofString "strict", .bool false)]) _ _ s2
      rcases q1 with ⟨hqx, hqy, q⟩ | ⟨hqx, hqy, q⟩
      · obtain ⟨its, rv, p1, _⟩ := I2.list hqx
        obtain ⟨its2, rv2, p2, _⟩ := I2.list hqy
        refine zip_K (begins_list a its.toArray) (begins_list b its2.toArray) p1.isList p2.isList fun h' hz hTI hTO g1 g2 hk => wpAny_pyIter_zip hz ?_
        have I3 : Inv X pins σ H2 { s2 with heap := h' } := I2.kept (t' := s2.toks) hk
        exact ⟨s2.heap.objs.size + 4, [s2.heap.objs.size + 4, s2.heap.objs.size + 2, s2.heap.objs.size + 3, s2.heap.objs.size, s2.heap.objs.size + 1], _, _, H2, rfl, I3, turn_zip (PySem.W.ktu_apart s2.heap.objs.size a b p1.lt p2.lt), ⟨hz, hTI, ⟨_, _, hTO⟩, ⟨_, g1, rfl, rfl⟩, ⟨_, g2, rfl, rfl⟩⟩, fresh5, q⟩
      · obtain ⟨its, rv, p1, _⟩ := I2.tuple hqx
        obtain ⟨its2, rv2, p2, _⟩ := I2.tuple hqy
        obtain ⟨o1, ho1, _⟩ := id p1
        obtain ⟨o2, ho2, _⟩ := id p2
        refine zip_K (begins_tuple a its.toArray) (begins_tuple b its2.toArray) (show s2.heap.IsTuple a its.toArray from p1) (show s2.heap.IsTuple b its2.toArray from p2) fun h' hz hTI hTO g1 g2 hk => wpAny_pyIter_zip hz ?_
        have I3 : Inv X pins σ H2 { s2 with heap := h' } := I2.kept (t' := s2.toks) hk
        exact ⟨s2.heap.objs.size + 4, [s2.heap.objs.size + 4, s2.heap.objs.size + 2, s2.heap.objs.size + 3, s2.heap.objs.size, s2.heap.objs.size + 1], _, _, H2, rfl, I3, RZ.turn_zipT (PySem.W.ktu_apart s2.heap.objs.size a b (Heap.lt_size ho1) (Heap.lt_size ho2)), ⟨hz, hTI, ⟨_, _, hTO⟩, ⟨_, g1, rfl, rfl⟩, ⟨_, g2, rfl, rfl⟩⟩, fresh5, q⟩
end SP

/-! SpBlt: built-in functions on data. -/
namespace SP
open PySem PySem.W PyProof.Rows L2 PySem.SeqAt

inductive TopL (w : World) (K : Frag) (G : ASet) (H : Hp) : List V → List D → Prop
  | nil : TopL w K G H [] []
  | cons {v : V} {d : D} {vs : List V} {ds : List D} : Top w K G H v d → TopL w K G H vs ds → TopL w K G H (v :: vs) (d :: ds)
theorem TopL.one {w : World} {K : Frag} {G : ASet} {H : Hp} {xs : List V} {d : D} (t : TopL w K G H xs [d]) : ∃ x, xs = [x] ∧ Top w K G H x d := by
  cases t with
  | cons a b => cases b; exact ⟨_, rfl, a⟩
theorem TopL.two {w : World} {K : Frag} {G : ASet} {H : Hp} {xs : List V} {d e : D} (t : TopL w K G H xs [d, e]) : ∃ x y, xs = [x, y] ∧ Top w K G H x d ∧ Top w K G H y e := by
  cases t with
  | cons a b =>
    obtain ⟨y, rfl, t⟩ := b.one
    exact ⟨_, _, rfl, a, t⟩

/-! ### isinstance -/
def tyOf : D → String
  | .none => "NoneType"
  | .bool _ => "bool"
  | .int _ => "int"
  | .str _ => "str"
  | .list _ => "list"
  | .tuple _ => "tuple"
  | .dict _ => "dict"
def Ty.name : Ty → String
  | .int => "int"
  | .bool => "bool"
  | .str => "str"
  | .tuple => "tuple"
  | .list => "list"
  | .dict => "dict"
theorem kit_is (d : D) (t : Ty) : kitB (tyOf d) t.name = some (isTy d t) := by
  cases d <;> cases t <;> (simp only [tyOf, Ty.name, isTy]; decide +kernel)
theorem kit_any (K : Frag) (d : D) : ∀ tys : List Ty, kitAny K (.type (tyOf d)) (tys.map fun t => .type t.name) = some (tys.any (isTy d))
  | [] => rfl
  | t :: r => by
    rw [List.map_cons, List.any_cons]
    refine kitAny_cons (b := isTy d t) (kit_ty (kit_is d t)) (fun z => ?_) fun z => ?_
    · rw [z, Bool.false_or]; exact kit_any K d r
    · rw [z]; rfl
section
variable {X : Cx}
theorem kit_data {pins : List (Addr × Obj)} {s : Shared} {σ : L2.St} {H : Hp} {x : V} {d : D} {v : Value} {as : List Addr} (r : Reads s.heap v d as) : ∃ P : Heap → Prop, KitX X.K v (.type (tyOf d)) P ∧ P s.heap ∧ v ≠ .builtin "__main__.__loader__#opaque" := by
  cases r with
  | none => exact ⟨_, kitx_none, True.intro, fun z => nomatch z⟩
  | bool b => exact ⟨_, kitx_bool, True.intro, fun z => nomatch z⟩
  | int i t => exact ⟨_, kitx_int, True.intro, fun z => nomatch z⟩
  | str y t => exact ⟨_, kitx_str, True.intro, fun z => nomatch z⟩
  | list h1 h2 h3 h4 => exact ⟨_, kitx_list, ⟨_, h1, h2⟩, fun z => nomatch z⟩
  | tuple h1 h2 h3 h4 => exact ⟨_, kitx_tuple, ⟨_, h1, h2⟩, fun z => nomatch z⟩
  | dict h1 h2 h3 h4 h5 => exact ⟨_, kitx_dict, ⟨_, h1, h2⟩, fun z => nomatch z⟩
/-- isinstance(x, T), isinstance(x, (T, ..)) -/
def rIsa (w : World) (K : Frag) (many : Bool) (tys : List Ty) : List V → Hp → VK → Prop := fun xs H Q => ∃ G x c d, xs = [x, c] ∧ Top w K G H x d ∧
  (match many with
    | false => ∃ t, tys = [t] ∧ c = .ty t.name
    | true => ∃ a, c = .ref a ∧ H a = some (.tup (tys.map fun t => V.ty t.name))) ∧ Q (.bl (tys.any (isTy d))) H
theorem vals_ty : ∀ {tys : List Ty} {us : List Value}, Vals (tys.map fun t => V.ty t.name) us → us = tys.map fun t => .type t.name
  | [], _, .nil => rfl
  | _ :: _, _, .cons r t => by rw [List.map_cons, vals_ty t]; cases r; rfl
theorem call_isa (many : Bool) (tys : List Ty) : CallR X (.builtin "isinstance") (rIsa X.w X.K many tys) := by
  rintro pins s σ H xs us Q I r ⟨G, x, c, d, rfl, t, hc, q⟩
  obtain ⟨u1, u2, rfl, r1, r2⟩ := vals2 r
  obtain ⟨as, rd, _⟩ := t.reads I r1
  obtain ⟨P, Z, p, hx⟩ := kit_data (X := X) (pins := pins) (σ := σ) (H := H) (x := x) rd
  cases many with
  | false =>
    obtain ⟨ty, rfl, rfl⟩ := hc
    cases r2
    refine kia_one Z I.kIn p (kit_ty (kit_is d ty)) hx fun tk => ⟨.bl _, H, I.tok tk, rfl, ?_⟩
    simpa using q
  | true =>
    obtain ⟨a, rfl, ha⟩ := hc
    cases r2
    obtain ⟨_, its, rv, o, h1, h2, n, h3⟩ := (show ObjOk X.prog X.w H s.heap a (.tup _) from I.hok a _ ha)
    have e := vals_ty rv
    subst e
    obtain ⟨oc, od, dt, sl⟩ := o
    simp only at h2 h3
    subst h2 h3
    exact kia_tup Z I.kIn p h1 (kit_any X.K d tys) hx fun tk => ⟨.bl _, H, I.tok tk, rfl, q⟩

/-! ### by name -/
def Blt.fn : Blt → Value
  | .len => .builtin "len"
  | .int => .type "int"
  | .repr => .builtin "repr"
  | .tuple => .type "tuple"
  | .list => .type "list"
  | .sorted => .builtin "sorted"
  | .min => .builtin "min"
  | .max => .builtin "max"
  | .sum => .builtin "sum"
  | .all => .builtin "all"
  | .any => .builtin "any"
  | .dict => .type "dict"
  | .sortedSet => .none
  | .lenSet => .none
def rBlt (w : World) (K : Frag) (b : Blt) : List V → Hp → VK → Prop := fun xs H Q => ∃ G ds sl, TopL w K G H xs ds ∧ bltD b ds = some sl ∧ ∀ v H', OpPost w K G H sl v H' → Q v H'
theorem sqL_of {K : Frag} {H : Hp} {a : Addr} {vs : List V} (h : Rd H a (.lst vs)) : SqL K H a vs := .inl h
theorem intsD_rep {w : World} {K : Frag} {G : ASet} {H : Hp} : ∀ {vs : List V} {ds : List D} {ns : List Int}, RepL w K G H vs ds → intsD ds = some ns → vs = ns.map V.int
  | _, _, _, .nil, h => by cases h; rfl
  | _, _, _, .cons a b, h => by
    cases a with
    | int i =>
      simp only [intsD] at h
      obtain ⟨r, h2, rfl⟩ := Option.map_eq_some_iff.mp h
      rw [List.map_cons, ← intsD_rep b h2]
    | _ => simp [intsD] at h
theorem boolsD_of : ∀ {ds : List D} {bs : List Bool}, boolsD ds = some bs → ds = bs.map PyData.bool
  | [], _, h => by cases h; rfl
  | d :: r, bs, h => by
    cases d with
    | bool b =>
      simp only [boolsD] at h
      obtain ⟨l, h2, rfl⟩ := Option.map_eq_some_iff.mp h
      rw [List.map_cons, ← boolsD_of h2]
    | _ => simp [boolsD] at h
theorem plain_bools : ∀ bs : List Bool, PyData.plainAll (bs.map PyData.bool) = true
  | [] => rfl
  | b :: r => by rw [List.map_cons]; simp [PyData.plainAll, PyData.plain, plain_bools r]
theorem any_bools (bs : List Bool) : (bs.map PyData.bool).any PyData.truthy = bs.any id := by
  rw [List.any_map]; rfl
theorem all_bools (bs : List Bool) : (bs.map PyData.bool).all PyData.truthy = bs.all id := by
  rw [List.all_map]; rfl
theorem cr_repr (c : Ctx X) : CallR X (.builtin "repr") (rBlt X.w X.K .repr) := by
  rintro pins s σ H xs us Q I r ⟨G, ds, sl, t, hb, q⟩
  simp only [bltD] at hb
  unfold reprD at hb
  split at hb
  · split at hb
    · rename_i hz
      cases hb
      obtain ⟨x, rfl, tt⟩ := t.one
      obtain ⟨u, rfl, ru⟩ := vals1 r
      simp only [Bool.and_eq_true, decide_eq_true_eq] at hz
      obtain ⟨⟨h1, h2⟩, h3⟩ := hz
      have h3 := Nat.le_trans h3 szLine
      obtain ⟨as, rd, ha⟩ := tt.reads I ru
      have hr := c.room
      have hd : deepest = 60 := rfl
      have fin : ∀ (y : Str) (tk : Tok) (s' : Shared), Inv X pins σ H s' → Q (.str y) H → EP X pins σ Q (.str y tk) s' := fun y tk s' I' q' => ⟨.str y, H, I', ⟨tk, rfl⟩, q'⟩
      have q1 := q (.str _) H post_str
      cases rd with
      | none => exact PySem.P.repr_of_none (fin _ _ _ (I.tok _) q1)
      | bool b => exact PySem.P.repr_of_bool (fin _ _ _ (I.tok _) (by simpa [PyData.shown] using q1))
      | int i tk => exact PySem.P.repr_of_int (by simpa [PyData.showable] using h1) (fin _ _ _ (I.tok _) (by simpa [PyData.shown] using q1))
      | str y tk => exact PySem.P.repr_of_str (fin _ _ _ (I.tok _) (by simpa [PyData.shown] using q1)) (by simpa [PyData.shown] using h3)
      | list g1 g2 g3 g4 => exact repr_of_reads' (.list g1 g2 g3 g4) h1 (fun _ => not_sys c I ha) c.grd (by omega) (fun _ _ e => e) (fun h' u tk k => fin _ _ _ (I.kept k) q1) h3
      | tuple g1 g2 g3 g4 => exact repr_of_reads' (.tuple g1 g2 g3 g4) h1 (fun _ => not_sys c I ha) c.grd (by omega) (fun _ _ e => e) (fun h' u tk k => fin _ _ _ (I.kept k) q1) h3
      | dict g1 g2 g3 g4 g5 => exact repr_of_reads' (.dict g1 g2 g3 g4 g5) h1 (fun _ => not_sys c I ha) c.grd (by omega) (fun _ _ e => e) (fun h' u tk k => fin _ _ _ (I.kept k) q1) h3
    · cases hb
  · cases hb
/-- the raw entries of a dict -/
theorem raw_of {pins : List (Addr × Obj)} {s : Shared} {σ : L2.St} {H : Hp} {a : Addr} {o : Obj} {es : List Ent} {kvs : List (D × D)} (I : Inv X pins σ H s) (h : H a = some (rawD a o)) (n : DOk X.w a o es kvs) :
    ∃ (ep : Nat) (xs : List DictEntry), Paired (fun (p : Ent) (e : DictEntry) => RelV p.1 e.key ∧ RelV p.2.1 e.val ∧ e.hash = p.2.2.hash X.w) es xs ∧ s.heap.DictRaw a xs.toArray ep ∧ xs.length ≤ sizeLine ∧ Vals (es.map (·.1)) (xs.map (·.key)) := by
  obtain ⟨e, _⟩ := I.hok a _ h
  obtain ⟨ep, xs, dd, pr⟩ := n.ent
  exact ⟨ep, xs, pr, ⟨o, e, n.ex, dd⟩, by rw [← Paired.length pr]; exact n.len, (vals_keys pr).1⟩
theorem items_keys {xs : List DictEntry} {acc : Array Value} {n : Nat} (h : ItemsOf (fun i v => ∃ hi : i < xs.toArray.size, v = xs.toArray[i].key) acc n) (hn : n = xs.toArray.size := by rfl) : acc.toList = xs.map (·.key) := by
  obtain ⟨h1, h2⟩ := h
  refine List.ext_getElem (by simp [h1, hn]) fun i a b => ?_
  simp only [Array.length_toList, List.length_map] at a b
  obtain ⟨hi, e⟩ := h2 i acc[i] (by simp [a])
  simp [e]
theorem cr_len (c : Ctx X) : CallR X (.builtin "len") (rBlt X.w X.K .len) := by
  rintro pins s σ H xs us Q I r ⟨G, ds, sl, t, hb, q⟩
  simp only [bltD] at hb
  unfold lenD at hb
  split at hb
  · cases hb
    obtain ⟨x, rfl, tt⟩ := t.one
    obtain ⟨a, vs, rfl, h, rl⟩ := tt.list_inv
    refine call_len_seq pins s σ H _ us Q I r ⟨a, vs, rfl, .inl (sqL_of h), ?_⟩
    rw [rl.length]; exact q _ _ post_int
  · cases hb
    obtain ⟨x, rfl, tt⟩ := t.one
    obtain ⟨a, vs, rfl, h, rl⟩ := tt.tuple_inv
    refine call_len_seq pins s σ H _ us Q I r ⟨a, vs, rfl, .inr h, ?_⟩
    rw [rl.length]; exact q _ _ post_int
  · cases hb
    obtain ⟨x, rfl, tt⟩ := t.one
    obtain ⟨u, rfl, ru⟩ := vals1 r
    obtain ⟨a, o, es, rfl, hh, n, rk, rvs⟩ := tt.dict_inv
    cases ru
    obtain ⟨ep, xs, hs, hm, hz, hk⟩ := raw_of I hh n
    have hl := rk.length
    refine PyProof.Rows.call_len_slot (n := (xs.length : Int)) hm.typeIs PySem.F.slot_dict_len (fun Q' hq => call_len_raw n.nosys hm (by simpa using hq)) (by omega) (by rw [sizeLine_eq] at hz; omega) ⟨.int xs.length, H, I.tok _, ⟨_, rfl⟩, ?_⟩
    have e2 : xs.length = es.length := (Paired.length hs).symm
    simp only [List.length_map] at hl
    rw [e2, hl]
    exact q _ _ post_int
  · split at hb
    · rename_i hz
      cases hb
      obtain ⟨x, rfl, tt⟩ := t.one
      cases tt.str_inv
      exact call_len_str pins s σ H _ us Q I r ⟨_, rfl, Nat.le_trans hz szLine, q _ _ post_int⟩
    · cases hb
  · cases hb
theorem cr_int : CallR X (.type "int") (rBlt X.w X.K .int) := by
  rintro pins s σ H xs us Q I r ⟨G, ds, sl, t, hb, q⟩
  simp only [bltD] at hb
  unfold toIntD at hb
  split at hb
  · cases hb
    obtain ⟨x, rfl, tt⟩ := t.one
    cases tt.int_inv
    exact call_int1 pins s σ H _ us Q I r (.inl ⟨_, rfl, q _ _ post_int⟩)
  · cases hb
    obtain ⟨x, rfl, tt⟩ := t.one
    cases tt.bool_inv
    exact call_int1 pins s σ H _ us Q I r (.inr ⟨_, rfl, q _ _ post_int⟩)
  · cases hb
theorem items_inv {G : ASet} {H : Hp} {x : V} {d : D} {ds : List D} (t : Top X.w X.K G H x d) (e : seqD d = some ds) : ∃ a vs, x = .ref a ∧ (SqL X.K H a vs ∨ SqT X.K H a vs) ∧ RepL X.w X.K G H vs ds ∧ (Rd H a (.lst vs) ∧ d = .list ds ∨ SqT X.K H a vs ∧ d = .tuple ds) := by
  unfold seqD at e
  split at e
  · cases e
    obtain ⟨a, vs, rfl, h, r⟩ := t.list_inv
    exact ⟨a, vs, rfl, .inl (sqL_of h), r, .inl ⟨h, rfl⟩⟩
  · cases e
    obtain ⟨a, vs, rfl, h, r⟩ := t.tuple_inv
    exact ⟨a, vs, rfl, .inr h, r, .inr ⟨h, rfl⟩⟩
  · cases e
theorem cr_tuple : CallR X (.type "tuple") (rBlt X.w X.K .tuple) := by
  rintro pins s σ H xs us Q I r ⟨G, ds, sl, t, hb, q⟩
  simp only [bltD] at hb
  unfold tupleD at hb
  split at hb
  · obtain ⟨es, h, rfl⟩ := Option.map_eq_some_iff.mp hb
    obtain ⟨x, rfl, tt⟩ := t.one
    obtain ⟨a, vs, rfl, _, rl, hh⟩ := items_inv tt h
    rcases hh with ⟨hh, rfl⟩ | ⟨hh, rfl⟩
    · exact call_tuple_of pins s σ H _ us Q I r ⟨a, vs, rfl, .inl ⟨sqL_of hh, fun p np => q _ _ (post_tup np rl)⟩⟩
    · exact call_tuple_of pins s σ H _ us Q I r ⟨a, vs, rfl, .inr ⟨hh, q _ _ (post_dat (.tuple hh rl))⟩⟩
  · cases hb
theorem cr_list (c : Ctx X) : CallR X (.type "list") (rBlt X.w X.K .list) := by
  rintro pins s σ H xs us Q I r ⟨G, ds, sl, t, hb, q⟩
  simp only [bltD] at hb
  unfold listD at hb
  split at hb
  · rename_i x0
    obtain ⟨es, h, rfl⟩ := Option.map_eq_some_iff.mp hb
    obtain ⟨x, rfl, tt⟩ := t.one
    have sq : ∀ {d : D}, seqD d = some es → Top X.w X.K G H x d → wpAny (model X.prog X.w) X.A (call (.type "list") us) (EP X pins σ Q) X.xe s := fun {d} h tt => by
      obtain ⟨a, vs, rfl, hq, rl, _⟩ := items_inv tt h
      exact call_list_of pins s σ H _ us Q I r ⟨a, vs, rfl, hq, fun p np => q _ _ (post_lst np rl)⟩
    cases x0 with
    | list ys => exact sq (d := .list ys) h tt
    | tuple ys => exact sq (d := .tuple ys) h tt
    | dict kvs =>
      cases h
      obtain ⟨u, rfl, ru⟩ := vals1 r
      obtain ⟨a, o, es, rfl, hh, n, rk, rvs⟩ := tt.dict_inv
      cases ru
      obtain ⟨ep, xs, hs, hm, hz, hk⟩ := raw_of I hh n
      refine kdl_call (KdlSrc.rawDict n.nosys) (I.ok.hd c.calm) hm (by simpa using hz) fun h' tk acc' c' kp hS hacc => ?_
      have ea : acc'.toList = xs.map (·.key) := items_keys hacc
      have hp : H s.heap.objs.size = none := I.hok.fresh (Nat.le_refl _)
      refine ⟨.ref s.heap.objs.size, _, I.laid (t' := tk) (o := .lst (es.map (·.1))) kp (Nat.le_refl _) ⟨?_, acc'.toList, c', ?_, by simpa using hS⟩, rfl, q _ _ (post_lst hp rk)⟩
      · rw [List.length_map]; exact n.len
      · rw [ea]; exact hk
    | _ => cases h
  · cases hb
theorem cr_sum (c : Ctx X) : CallR X (.builtin "sum") (rBlt X.w X.K .sum) := by
  rintro pins s σ H xs us Q I r ⟨G, ds, sl, t, hb, q⟩
  simp only [bltD] at hb
  unfold sumD at hb
  split at hb
  · obtain ⟨ns, h, rfl⟩ := Option.map_eq_some_iff.mp hb
    obtain ⟨x, rfl, tt⟩ := t.one
    obtain ⟨a, vs, rfl, hh, rl⟩ := tt.list_inv
    exact L2.cr_sum c.calm pins s σ H _ us Q I r ⟨a, ns, rfl, by rw [← intsD_rep rl h]; exact sqL_of hh, q _ _ post_int⟩
  · cases hb
theorem cr_all (c : Ctx X) : CallR X (.builtin "all") (rBlt X.w X.K .all) := by
  rintro pins s σ H xs us Q I r ⟨G, ds, sl, t, hb, q⟩
  simp only [bltD] at hb
  unfold allD at hb
  split at hb
  · obtain ⟨bs, h, rfl⟩ := Option.map_eq_some_iff.mp hb
    obtain ⟨x, rfl, tt⟩ := t.one
    obtain ⟨u, rfl, ru⟩ := vals1 r
    obtain ⟨as, rd, _⟩ := tt.reads I ru
    have e := boolsD_of h
    subst e
    cases rd with
    | list h1 h2 h3 h4 =>
      refine all_list_data (I.ok.hd c.calm) ⟨_, h1, h2, _, h3⟩ h4 (plain_bools bs) (fun y hy => ?_) fun h' tk k => ⟨.bl _, H, I.kept k, rfl, ?_⟩
      · obtain ⟨b, _, rfl⟩ := List.mem_map.mp hy; simp [PyData.fits63]
      · rw [all_bools]; exact q _ _ post_bool
  · cases hb
theorem cr_any (c : Ctx X) : CallR X (.builtin "any") (rBlt X.w X.K .any) := by
  rintro pins s σ H xs us Q I r ⟨G, ds, sl, t, hb, q⟩
  simp only [bltD] at hb
  unfold anyD at hb
  split at hb
  · obtain ⟨bs, h, rfl⟩ := Option.map_eq_some_iff.mp hb
    obtain ⟨x, rfl, tt⟩ := t.one
    obtain ⟨u, rfl, ru⟩ := vals1 r
    obtain ⟨as, rd, _⟩ := tt.reads I ru
    have e := boolsD_of h
    subst e
    cases rd with
    | list h1 h2 h3 h4 =>
      refine any_list_data (I.ok.hd c.calm) ⟨_, h1, h2, _, h3⟩ h4 (plain_bools bs) (fun y hy => ?_) fun h' tk k => ⟨.bl _, H, I.kept k, rfl, ?_⟩
      · obtain ⟨b, _, rfl⟩ := List.mem_map.mp hy; simp [PyData.fits63]
      · rw [any_bools]; exact q _ _ post_bool
  · cases hb
/-! ### sorted, min, max of a list -/
theorem allAlike_of {ds : List D} (h : allAlike ds = true) : AllAlike ds := fun d hd e he => by
  have h1 := List.all_eq_true.mp h d hd
  exact List.all_eq_true.mp h1 e he
theorem sortable_of {ds : List D} (h : sortable ds = true) : (∀ d ∈ ds, ∃ xs, d = .tuple xs) ∨ ∀ d ∈ ds, d ≠ .none ∧ ∀ xs, d ≠ .tuple xs := by
  simp only [sortable, Bool.or_eq_true] at h
  rcases h with h | h
  · refine .inl fun d hd => ?_
    have z := List.all_eq_true.mp h d hd
    cases d with
    | tuple xs => exact ⟨xs, rfl⟩
    | _ => exact absurd z Bool.false_ne_true
  · refine .inr fun d hd => ?_
    have z := List.all_eq_true.mp h d hd
    cases d with
    | none => exact absurd z Bool.false_ne_true
    | tuple xs => exact absurd z Bool.false_ne_true
    | _ => exact ⟨fun q => (nomatch q), fun _ q => (nomatch q)⟩
/-- the items as values that stand for data -/
def Stand (w : World) (K : Frag) (G : ASet) (H : Hp) (v : Value) (d : D) : Prop := ∃ x, RelV x v ∧ Rep w K G H x d
theorem each_stand {w : World} {K : Frag} {G : ASet} {H : Hp} : ∀ {vs : List V} {ds : List D} {us : List Value}, RepL w K G H vs ds → Vals vs us → EachIs (Stand w K G H) us ds
  | _, _, _, .nil, .nil => .nil
  | _, _, _, .cons a b, .cons r t => .cons ⟨_, r, a⟩ (each_stand b t)
theorem of_stand {w : World} {K : Frag} {G : ASet} {H : Hp} : ∀ {us : List Value} {ds : List D}, EachIs (Stand w K G H) us ds → ∃ vs, Vals vs us ∧ RepL w K G H vs ds
  | _, _, .nil => ⟨[], .nil, .nil⟩
  | _, _, .cons ⟨x, r, a⟩ t => by
    obtain ⟨vs, h1, h2⟩ := of_stand t
    exact ⟨x :: vs, .cons r h1, .cons a h2⟩
theorem smAll_mem : ∀ {n : Nat} {ds : List D} {d : D}, smAll n ds = true → d ∈ ds → sm n d = true
  | _, x :: xs, d, h, m => by
    simp only [smAll, Bool.and_eq_true] at h
    rcases List.mem_cons.mp m with rfl | m
    · exact h.1
    · exact smAll_mem h.2 m
/-- the values that a walk of x gives, as the library collects them -/
def Collects (X : Cx) (s : Shared) (x : Value) (items : List Value) : Prop := ∀ (A : Around) (E : Value → Shared → Prop) (R : List Value → Shared → Prop), A.handled = none →
  (∀ h' tk, (∀ b o, s.heap.get? b = some o → h'.get? b = some o) → R items { s with heap := h', toks := tk }) → wpAny (model X.prog X.w) A (collect x) R E s
theorem sort_core (c : Ctx X) {pins : List (Addr × Obj)} {s : Shared} {σ : L2.St} {H : Hp} {u : Value} {vs : List V} {items : List Value} {ys : List D} {G : ASet} {Q : VK} (I : Inv X pins σ H s) (hc : Collects X s u items) (rv : Vals vs items) (rl : RepL X.w X.K G H vs ys) (hlen : items.length ≤ sizeLine)
    (ok : okSort ys = true) (q : ∀ v H', OpPost X.w X.K G H (.own (.lst (sortD ys))) v H' → Q v H') : wpAny (model X.prog X.w) X.A (call (.builtin "sorted") [u]) (EP X pins σ Q) X.xe s := by
  refine Calls.call_function_entry kind_sorted plain_sorted entry_sorted (args_sorted1 _) ?_
  unfold Builtin.«sorted»
  refine wpAny_bind (m := checkCount "sorted" 1 1 _) (wpAny_pure ?_)
  refine wpAny_bind (hc X.A.in1 _ _ (I.ok.hd c.calm) fun h' tk hk => ?_)
  refine wpAny_bind (wpAny_newList ?_ hlen)
  have I1 : Inv X pins σ H { s with heap := h', toks := tk } := I.kept (t' := tk) hk
  have I2 : Inv X pins σ H { s with heap := h'.push { cls := .type "list", data := .seq items.toArray }, toks := tk } := I.kept (t' := tk) fun b o e => Heap.get?_push_of_some _ (hk b o e)
  have hD : H h'.objs.size = none := I1.hok.fresh (Nat.le_refl _)
  have ho : (h'.push { cls := .type "list", data := .seq items.toArray }).get? h'.objs.size = some (seqObj "list" items.toArray 0) := Heap.get?_push_size _ rfl
  simp only [okSort, Bool.and_eq_true] at ok
  obtain ⟨⟨h1, h2⟩, h3⟩ := ok
  have hr := c.room
  have es := each_stand rl rv
  have hl := rl.length
  have hl2 := rv.length
  have er : EachIs (fun v b => ∃ as, Reads (h'.push { cls := .type "list", data := .seq items.toArray }) v (id b) as ∧ h'.objs.size ∉ as) items ys := es.mono fun v d z => by
    obtain ⟨y, ry, rd⟩ := z
    obtain ⟨as, ra, hn⟩ := rd.reads I2.hok I2.kIn ry
    exact ⟨as, ra, fun z => hn _ z hD⟩
  have hu : ∀ b, b ∈ ys → X.A.in1.units + 1 + (id b : D).depth < cLine := fun b hb => by
    have z := (sm_plain (smAll_mem h1 hb)).2
    have hd : deepest = 60 := rfl
    show X.A.units + 1 + 1 + _ < cLine
    simp only [id]; omega
  have key := list_sort_tups (prog := X.prog) (w := X.w) (A := X.A.in1) (E := X.xe) (s := { s with heap := h'.push { cls := .type "list", data := .seq items.toArray }, toks := tk }) (R := Stand X.w X.K G H) (Q := fun _ s' => EP X pins σ Q (.ref h'.objs.size) s') ho es er (by rw [List.map_id]; exact allAlike_of h2) (by rw [List.map_id]; exact sortable_of h3) (by rw [← hl, hl2]; exact hlen) hu (by
    intro out ho' eo
    obtain ⟨zs, rz, rr⟩ := of_stand eo
    obtain ⟨en, eat⟩ := sortedHeap_at (vs := items) (out := out.toArray) ho
    refine ⟨.ref h'.objs.size, _, I1.laid (t' := tk) (o := .lst zs) (fun b o z => ?_) (Nat.le_refl _) ⟨?_, out, en, rz, eat⟩, rfl, q _ _ (post_lst hD rr)⟩
    · have hb : b < h'.objs.size := Heap.lt_size z
      exact (sortedHeap_old (Nat.ne_of_lt hb) (by show b < (h'.push _).objs.size; rw [Heap.size_push]; exact Nat.lt_succ_of_lt hb)).trans (Heap.get?_push_of_some _ z)
    · rw [rz.length, ho', ← hl, hl2]; exact hlen)
  refine wpAny_bind (wpAny_holding (wpAny_mono key (fun _ s' x => ?_) fun _ _ e => e))
  exact wpAny_pure ⟨_, rfl, x⟩
theorem cr_sorted (c : Ctx X) : CallR X (.builtin "sorted") (rBlt X.w X.K .sorted) := by
  rintro pins s σ H xs us Q I r ⟨G, ds, sl, t, hb, q⟩
  simp only [bltD] at hb
  unfold sortedD at hb
  split at hb
  · rename_i x0
    split at hb
    · rename_i ys hi
      split at hb
      · rename_i hz
        cases hb
        obtain ⟨x, rfl, tt⟩ := t.one
        obtain ⟨u, rfl, ru⟩ := vals1 r
        cases x0 with
        | list zs =>
          cases hi
          obtain ⟨a, vs, rfl, hh, rl⟩ := tt.list_inv
          cases ru
          obtain ⟨hlen, its, n, rv, e⟩ := hh.ok I.hok
          exact sort_core c I (fun A E R hA k => wpAny_collect_seq a (.inl rfl) e rfl rfl (fun h' hk => by simpa using k h' s.toks hk) (by have := rv.length; simp; omega)) rv rl (by rw [← rv.length]; exact hlen) hz q
        | tuple zs =>
          cases hi
          obtain ⟨a, vs, rfl, hh, rl⟩ := tt.tuple_inv
          cases ru
          obtain ⟨its, rv, ⟨o, e, hc, n, hd⟩, hlen⟩ := sqT_obj I.hok I.kIn hh
          exact sort_core c I (fun A E R hA k => wpAny_collect_seq a (.inr rfl) e hc hd (fun h' hk => by simpa using k h' s.toks hk) (by have := rv.length; simp; omega)) rv rl (by rw [← rv.length]; exact hlen) hz q
        | dict kvs =>
          cases hi
          obtain ⟨a, o, es, rfl, hh, n, rk, rvs⟩ := tt.dict_inv
          cases ru
          obtain ⟨ep, xs, hs, hm, hl, hk⟩ := raw_of I hh n
          refine sort_core c I (items := xs.map (·.key)) (fun A E R hA k => kdu_collect (KdlSrc.rawDict n.nosys) hA hm (by simpa using hl) fun h' tk acc kp hacc => ?_) hk rk (by rw [List.length_map]; exact hl) hz q
          rw [items_keys hacc]
          exact k h' tk kp
        | _ => cases hi
      · cases hb
    · cases hb
  · cases hb

theorem okMin_of {ds : List D} (h : okMin ds = true) : smAll deepest ds = true ∧ AlikeAll ds := by
  simp only [okMin, Bool.and_eq_true] at h
  refine ⟨h.1.1, allAlike_of h.1.2, fun x hx z => ?_⟩
  subst z
  exact absurd (List.all_eq_true.mp h.2 _ hx) Bool.false_ne_true
/-- the item found is one of the items -/
theorem stand_found {G : ASet} {H : Hp} {ys : List D} {m : D} {vs : List V} {its : List Value} {h h' : Heap} {v : Value} {i : Nat} {bs as : List Addr} (rl : RepL X.w X.K G H vs ys) (rv : Vals vs its) (ra : ReadsAll h its ys as)
    (k : ∀ b o, h.get? b = some o → h'.get? b = some o) (al : ∀ x ∈ ys, alike x m = true) (hv : its.toArray[i]? = some v) (rd : Reads h' v m bs) : ∃ x, RelV x v ∧ Rep X.w X.K G H x m := by
  have hv' : its[i]? = some v := by simpa using hv
  have hi : i < its.length := (List.getElem?_eq_some_iff.mp hv').1
  have hl := rv.length
  have hx : vs[i]? = some vs[i] := by simp [hl, hi]
  obtain ⟨u, hu, ru⟩ := rv.get hx
  rw [hv'] at hu; cases hu
  obtain ⟨d, hd, rp⟩ := rl.getV hx
  have rd2 : ∃ cs, Reads h v d cs := by
    have go : ∀ {us : List Value} {es : List D} {cs : List Addr} {j : Nat}, ReadsAll h us es cs → us[j]? = some v → es[j]? = some d → ∃ cs, Reads h v d cs := by
      intro us es cs j r
      induction us generalizing es cs j with
      | nil => intro z; simp at z
      | cons u us ih =>
        cases r with
        | cons a b =>
          cases j with
          | zero => intro e1 e2; simp at e1 e2; subst e1; subst e2; exact ⟨_, a⟩
          | succ j => intro e1 e2; exact ih b (by simpa using e1) (by simpa using e2)
    exact go ra hv' hd
  obtain ⟨cs, rd2⟩ := rd2
  have e := alike_unique d m v cs bs (al d (List.mem_of_getElem? hd)) (PyProof.Rows.Reads.keeps k rd2) rd
  subst e
  exact ⟨_, ru, rp⟩
theorem minD_mem : ∀ (xs : List D) (x : D), minD x xs ∈ x :: xs
  | [], x => by simp [minD]
  | y :: r, x => by
    have e : minD x (y :: r) = minD (if dataLt y x then y else x) r := rfl
    rw [e]
    have h := minD_mem r (if dataLt y x then y else x)
    rcases List.mem_cons.mp h with h | h
    · rw [h]; split <;> simp
    · exact List.mem_cons_of_mem _ (List.mem_cons_of_mem _ h)
theorem maxD_mem : ∀ (xs : List D) (x : D), maxD x xs ∈ x :: xs
  | [], x => by simp [maxD]
  | y :: r, x => by
    have e : maxD x (y :: r) = maxD (if dataLt x y then y else x) r := rfl
    rw [e]
    have h := maxD_mem r (if dataLt x y then y else x)
    rcases List.mem_cons.mp h with h | h
    · rw [h]; split <;> simp
    · exact List.mem_cons_of_mem _ (List.mem_cons_of_mem _ h)
theorem cr_min (c : Ctx X) : CallR X (.builtin "min") (rBlt X.w X.K .min) := by
  rintro pins s σ H xs us Q I r ⟨G, ds, sl, t, hb, q⟩
  simp only [bltD] at hb
  unfold minOf at hb
  split at hb
  · rename_i x0 y0 ys
    split at hb
    · rename_i hz
      cases hb
      obtain ⟨x, rfl, tt⟩ := t.one
      obtain ⟨u, rfl, ru⟩ := vals1 r
      obtain ⟨a, vs, rfl, hh, rl⟩ := tt.list_inv
      cases ru
      obtain ⟨h1, h2⟩ := okMin_of hz
      obtain ⟨hlen, its, n, rv, e⟩ := hh.ok I.hok
      obtain ⟨as, ra, _⟩ := rl.reads I.hok I.kIn rv
      have hr := c.room
      have hd : deepest = 60 := rfl
      have z := (smAll_plain h1).2
      refine min_list_data (vs := its.toArray) (I.ok.hd c.calm) ⟨_, e, rfl, n, rfl⟩ (by simpa using ra) h2 (by omega) fun i v h' tk bs hv rd k => ?_
      obtain ⟨y, ry, rp⟩ := stand_found rl rv ra k (fun x hx => h2.1 x hx _ (minD_mem ys y0)) hv rd
      exact ⟨y, H, I.kept k, ry, q _ _ (post_dat rp)⟩
    · cases hb
  · cases hb
    obtain ⟨x, y, rfl, tx, ty⟩ := t.two
    cases tx.int_inv
    cases ty.int_inv
    exact call_min2 c.calm pins s σ H _ us Q I r ⟨_, _, rfl, q _ _ post_int⟩
  · cases hb
theorem cr_max (c : Ctx X) : CallR X (.builtin "max") (rBlt X.w X.K .max) := by
  rintro pins s σ H xs us Q I r ⟨G, ds, sl, t, hb, q⟩
  simp only [bltD] at hb
  unfold maxOf at hb
  split at hb
  · rename_i x0 y0 ys
    split at hb
    · rename_i hz
      cases hb
      obtain ⟨x, rfl, tt⟩ := t.one
      obtain ⟨u, rfl, ru⟩ := vals1 r
      obtain ⟨a, vs, rfl, hh, rl⟩ := tt.list_inv
      cases ru
      obtain ⟨h1, h2⟩ := okMin_of hz
      obtain ⟨hlen, its, n, rv, e⟩ := hh.ok I.hok
      obtain ⟨as, ra, _⟩ := rl.reads I.hok I.kIn rv
      have hr := c.room
      have hd : deepest = 60 := rfl
      have z := (smAll_plain h1).2
      refine max_list_data (vs := its.toArray) (I.ok.hd c.calm) ⟨_, e, rfl, n, rfl⟩ (by simpa using ra) h2 (by omega) fun i v h' tk bs hv rd k => ?_
      obtain ⟨y, ry, rp⟩ := stand_found rl rv ra k (fun x hx => h2.1 x hx _ (maxD_mem ys y0)) hv rd
      exact ⟨y, H, I.kept k, ry, q _ _ (post_dat rp)⟩
    · cases hb
  · cases hb
    obtain ⟨x, y, rfl, tx, ty⟩ := t.two
    cases tx.int_inv
    cases ty.int_inv
    exact call_max2 c.calm pins s σ H _ us Q I r ⟨_, _, rfl, q _ _ post_int⟩
  · cases hb
end
end SP

/-! SpIdx: items and slices of data. -/
namespace SP
open PySem PySem.W PyProof.Rows L2 PySem.SeqAt
theorem ixOf_eq (n : Nat) (i : Int) : ixOf n i = ixN n i := by
  unfold ixOf ixN
  by_cases h : 0 ≤ i
  · rw [if_pos h, if_pos h]
  · rw [if_neg h, if_neg h]
    by_cases h2 : 0 ≤ i + n
    · rw [if_pos h2, if_pos (by omega)]
    · rw [if_neg h2, if_neg (by omega)]
theorem bndI_eq (n d : Nat) (o : Option Int) : bndI n d o = HT.sIx n d o := by
  cases o <;> rfl
section
variable {w : World} {K : Frag} {G : ASet} {H : Hp}
theorem RepL.cut {vs : List V} {ds : List D} (r : RepL w K G H vs ds) (lo hi : Option Int) : RepL w K G H (cutV vs lo hi) (cutL ds lo hi) := by
  unfold cutV cutL
  rw [bndI_eq, bndI_eq, r.length]
  exact (r.drop _).take _
theorem RepL.atI {vs : List V} {ds : List D} {i : Int} {k : Nat} {d : D} (r : RepL w K G H vs ds) (h : ixOf ds.length i = some k) (e : ds[k]? = some d) : ∃ v, L2.atI vs i = some v ∧ Rep w K G H v d := by
  obtain ⟨v, hv, rp⟩ := r.get e
  refine ⟨v, ?_, rp⟩
  unfold L2.atI
  rw [r.length, ← ixOf_eq, h]
  exact hv
end
def rIdx (w : World) (K : Frag) : R2 := fun x y H Q => ∃ G d e z, Top w K G H x d ∧ Top w K G H y e ∧ idxD d e = some z ∧ ∀ v, Rep w K G H v z → Q v H
section
variable {X : Cx}
theorem ix_data (c : Ctx X) : IxR X (rIdx X.w X.K) := by
  rintro value slice pins s σ H x y v u Q I rx ry ⟨G, d, e, z, tx, ty, hb, q⟩ hs
  unfold idxD at hb
  split at hb
  · obtain ⟨k, h1, h2⟩ := Option.bind_eq_some_iff.mp hb
    cases ty.int_inv
    obtain ⟨a, vs, rfl, h, rl⟩ := tx.list_inv
    obtain ⟨v', hv, rp⟩ := rl.atI h1 h2
    exact ix_list value slice pins s σ H _ _ v u Q I rx ry ⟨a, vs, _, v', rfl, rfl, sqL_of h, hv, q _ rp⟩ hs
  · obtain ⟨k, h1, h2⟩ := Option.bind_eq_some_iff.mp hb
    cases ty.int_inv
    obtain ⟨a, vs, rfl, h, rl⟩ := tx.tuple_inv
    obtain ⟨v', hv, rp⟩ := rl.atI h1 h2
    exact ix_tup value slice pins s σ H _ _ v u Q I rx ry ⟨a, vs, _, v', rfl, rfl, h, hv, q _ rp⟩ hs
  · split at hb
    · rename_i k' fk
      obtain ⟨a, o, es, rfl, hh, n, rk, rvs⟩ := tx.dict_inv
      cases rx
      rcases look_rep (k := k') n.keys rvs with ⟨q1, q2⟩ | ⟨d', v', q1, q2, rp⟩
      · rw [q1] at hb; cases hb
      · rw [q1] at hb; cases hb
        have hr := c.room
        have vw := view I hh n rk ty ry fk
        exact PyProof.Rows.tail_any vw.typeIs PySem.F.slot_dict_getitem.lookup (v_get (by omega) I vw q2 fun z' s' I' rz => ⟨v', H, I', rz, q _ rp⟩) hs
    · cases hb
  · cases hb
/-- x[lo:hi] -/
def rSlc (w : World) (K : Frag) : V → Option Int → Option Int → Hp → VK → Prop := fun x lo hi H Q => ∃ G d sl, Top w K G H x d ∧ slcD d lo hi = some sl ∧ ∀ v H', OpPost w K G H sl v H' → Q v H'
theorem cut_whole {α : Type} (xs : List α) (lo hi : Option Int) (h : HT.sIx xs.length 0 lo = 0 ∧ HT.sIx xs.length xs.length hi = xs.length) : (xs.drop (HT.sIx xs.length 0 lo)).take (HT.sIx xs.length xs.length hi - HT.sIx xs.length 0 lo) = xs := by
  rw [h.1, h.2, List.drop_zero, Nat.sub_zero, List.take_length]
theorem sl_data : SlR X (rSlc X.w X.K) := by
  rintro pins s σ H x v vl vu lo hi sl Q I rx hs pl pu ⟨G, d, r, tx, hb, q⟩
  unfold slcD at hb
  split at hb
  · cases hb
    obtain ⟨a, vs, rfl, h, rl⟩ := tx.list_inv
    exact sl_list pins s σ H _ v vl vu lo hi sl Q I rx hs pl pu ⟨a, vs, rfl, sqL_of h, fun p np => q _ _ (post_lst np (rl.cut lo hi))⟩
  · cases hb
    obtain ⟨a, vs, rfl, h, rl⟩ := tx.tuple_inv
    refine sl_tupA pins s σ H _ v vl vu lo hi sl Q I rx hs pl pu ⟨a, vs, rfl, h, fun z => ?_, fun _ p np => q _ _ (post_tup np (rl.cut lo hi))⟩
    have e := rl.cut lo hi
    unfold cutV at e
    rw [cut_whole vs lo hi z] at e
    exact q _ _ (post_dat (.tuple h e))
  · cases hb
end
end SP

/-! SpState: slots and heap; what an evaluation leaves. -/
namespace SP
open PySem PySem.W PyProof.Rows L2 PySem.SeqAt

theorem slot_set_self {ρ : Env} {i : Nat} {s : Option Sl} (h : i < ρ.length) : slot (ρ.set i s) i = s := by
  unfold slot; rw [List.getElem?_set_self h]; cases s <;> rfl
theorem slot_set_ne {ρ : Env} {i j : Nat} {s : Option Sl} (h : j ≠ i) : slot (ρ.set i s) j = slot ρ j := by
  unfold slot; rw [List.getElem?_set_ne (Ne.symm h)]
theorem slot_lt {ρ : Env} {i : Nat} {s : Sl} (h : slot ρ i = some s) : i < ρ.length := by
  unfold slot at h
  cases e : ρ[i]? with
  | none => rw [e] at h; cases h
  | some o => exact (List.getElem?_eq_some_iff.mp e).1
theorem slot_some {ρ : Env} {i : Nat} {s : Sl} (h : slot ρ i = some s) : ρ[i]? = some (some s) := by
  unfold slot at h
  cases e : ρ[i]? with
  | none => rw [e] at h; cases h
  | some o => rw [e] at h; exact congrArg some h
theorem slot_set {ρ : Env} {i j : Nat} {s : Option Sl} {t : Sl} (h : slot (ρ.set i s) j = some t) : (j = i ∧ s = some t ∧ i < ρ.length) ∨ (j ≠ i ∧ slot ρ j = some t) := by
  by_cases e : j = i
  · subst e
    have hl : j < ρ.length := by simpa using slot_lt h
    rw [slot_set_self hl] at h
    exact .inl ⟨rfl, h, hl⟩
  · rw [slot_set_ne e] at h
    exact .inr ⟨e, h⟩
theorem at_set_ne {σ : L2.St} {i j : Nat} {v : Option V} (h : j ≠ i) : (σ.set i v)[j]? = σ[j]? := List.getElem?_set_ne (Ne.symm h)
theorem at_set_self {σ : L2.St} {i : Nat} {v : Option V} (h : i < σ.length) : (σ.set i v)[i]? = some v := List.getElem?_set_self h

def Own (ρ : Env) (σ : L2.St) : ASet := fun a => ∃ i m, slot ρ i = some (.own m) ∧ σ[i]? = some (some (.ref a))
def Bar (F : ASet) (ρ : Env) (σ : L2.St) : ASet := fun a => F a ∨ Own ρ σ a

structure SR (w : World) (K : Frag) (F : ASet) (ρ : Env) (σ : L2.St) (H : Hp) : Prop where
  len : ρ.length = σ.length
  ft : ∀ a, F a → H a ≠ none
  dat : ∀ i d, slot ρ i = some (.dat d) → ∃ v, σ[i]? = some (some v) ∧ Rep w K (Bar F ρ σ) H v d
  own : ∀ i m, slot ρ i = some (.own m) → ∃ a, σ[i]? = some (some (.ref a)) ∧ ¬ F a ∧ Cell w K (Bar F ρ σ) H a m
  inj : ∀ i j m n a, slot ρ i = some (.own m) → slot ρ j = some (.own n) → σ[i]? = some (some (.ref a)) → σ[j]? = some (some (.ref a)) → i = j

section
variable {w : World} {K : Frag} {F F' : ASet} {ρ ρ' : Env} {σ : L2.St} {H H' : Hp}
theorem SR.own_some (S : SR w K F ρ σ H) {a : Addr} (o : Own ρ σ a) : H a ≠ none ∧ ¬ F a := by
  obtain ⟨i, m, h, e⟩ := o
  obtain ⟨b, e', nf, c⟩ := S.own i m h
  rw [e] at e'; cases e'
  exact ⟨c.some, nf⟩
theorem bar_own {a : Addr} (o : Own ρ σ a) : Bar F ρ σ a := .inr o
theorem SR.less (S : SR w K F ρ σ H) (s : ∀ a, F' a → F a) : SR w K F' ρ σ H := by
  have sb : ∀ a, Bar F' ρ σ a → H a ≠ none → Bar F ρ σ a := fun a z _ => z.elim (fun z => .inl (s a z)) .inr
  refine ⟨S.len, fun a z => S.ft a (s a z), fun i d h => ?_, fun i m h => ?_, S.inj⟩
  · obtain ⟨v, e, r⟩ := S.dat i d h
    exact ⟨v, e, r.bar sb⟩
  · obtain ⟨a, e, n, c⟩ := S.own i m h
    exact ⟨a, e, fun z => n (s a z), c.bar sb⟩
/-- nothing that stood is changed; new addresses may be protected -/
theorem SR.grow (S : SR w K F ρ σ H) (k : Same H H') (new : ∀ a, F' a → F a ∨ H a = none) (there : ∀ a, F' a → H' a ≠ none) : SR w K F' ρ σ H' := by
  have sb : ∀ a, Bar F' ρ σ a → H a ≠ none → Bar F ρ σ a := fun a z n => by
    rcases z with z | z
    · rcases new a z with z | z
      · exact .inl z
      · exact absurd z n
    · exact .inr z
  have kk := Keep.of_same (O := fun _ => False) k
  refine ⟨S.len, there, fun i d h => ?_, fun i m h => ?_, S.inj⟩
  · obtain ⟨v, e, r⟩ := S.dat i d h
    exact ⟨v, e, (r.bar sb).keep kk fun _ z => z.elim⟩
  · obtain ⟨a, e, n, c⟩ := S.own i m h
    refine ⟨a, e, fun z => ?_, (c.bar sb).keep kk (fun _ z => z.elim) fun z => z⟩
    rcases new a z with z | z
    · exact n z
    · exact c.some z
theorem SR.same (S : SR w K F ρ σ H) (k : Same H H') : SR w K F ρ σ H' :=
  S.grow k (fun _ z => .inl z) fun a z => (Keep.of_same (O := fun _ => False) k).there a (S.ft a z)
/-- an owned object is given up: it is data from now on -/
theorem own_frz {i : Nat} {d : D} {a : Addr} (o : Own (ρ.set i (some (.dat d))) σ a) : Own ρ σ a := by
  obtain ⟨j, m, h, e⟩ := o
  rcases slot_set h with ⟨_, z, _⟩ | ⟨_, z⟩
  · cases z
  · exact ⟨j, m, z, e⟩
theorem SR.frz (S : SR w K F ρ σ H) {i : Nat} {s : Sl} (h : slot ρ i = some s) : SR w K F (ρ.set i (some (.dat s.data))) σ H ∧ ∃ v, σ[i]? = some (some v) ∧ Rep w K (Bar F (ρ.set i (some (.dat s.data))) σ) H v s.data := by
  have sb : ∀ a, Bar F (ρ.set i (some (.dat s.data))) σ a → H a ≠ none → Bar F ρ σ a := fun a z _ => z.elim .inl fun z => .inr (own_frz z)
  have key : ∃ v, σ[i]? = some (some v) ∧ Rep w K (Bar F (ρ.set i (some (.dat s.data))) σ) H v s.data := by
    cases s with
    | dat d =>
      obtain ⟨v, e, r⟩ := S.dat i d h
      exact ⟨v, e, r.bar sb⟩
    | own m =>
      obtain ⟨a, e, n, c⟩ := S.own i m h
      refine ⟨_, e, (c.bar sb).rep ?_⟩
      rintro (z | ⟨j, m', h', e'⟩)
      · exact n z
      · rcases slot_set h' with ⟨_, z, _⟩ | ⟨ne, z⟩
        · cases z
        · exact ne (S.inj j i m' m a z h e' e)
  refine ⟨⟨by simpa using S.len, S.ft, fun j d h' => ?_, fun j m h' => ?_, fun j l m n a h1 h2 e1 e2 => ?_⟩, key⟩
  · rcases slot_set h' with ⟨rfl, z, _⟩ | ⟨ne, z⟩
    · cases z; exact key
    · obtain ⟨v, e, r⟩ := S.dat j d z
      exact ⟨v, e, r.bar sb⟩
  · rcases slot_set h' with ⟨rfl, z, _⟩ | ⟨ne, z⟩
    · cases z
    · obtain ⟨a, e, n, c⟩ := S.own j m z
      exact ⟨a, e, n, c.bar sb⟩
  · rcases slot_set h1 with ⟨_, z, _⟩ | ⟨_, z1⟩
    · cases z
    rcases slot_set h2 with ⟨_, z, _⟩ | ⟨_, z2⟩
    · cases z
    exact S.inj j l m n a z1 z2 e1 e2
/-- a name is given data -/
theorem own_setD {i : Nat} {d : D} {v : V} {a : Addr} (o : Own (ρ.set i (some (.dat d))) (σ.set i (some v)) a) : Own ρ σ a := by
  obtain ⟨j, m, h, e⟩ := o
  rcases slot_set h with ⟨_, z, _⟩ | ⟨ne, z⟩
  · cases z
  · rw [at_set_ne ne] at e; exact ⟨j, m, z, e⟩
theorem SR.setD (S : SR w K F ρ σ H) {i : Nat} {v : V} {d : D} (r : Rep w K (Bar F ρ σ) H v d) : SR w K F (ρ.set i (some (.dat d))) (σ.set i (some v)) H := by
  have sb : ∀ a, Bar F (ρ.set i (some (.dat d))) (σ.set i (some v)) a → H a ≠ none → Bar F ρ σ a := fun a z _ => z.elim .inl fun z => .inr (own_setD z)
  refine ⟨by simpa using S.len, S.ft, fun j d' h => ?_, fun j m h => ?_, fun j l m n a h1 h2 e1 e2 => ?_⟩
  · rcases slot_set h with ⟨rfl, z, hl⟩ | ⟨ne, z⟩
    · cases z
      exact ⟨v, at_set_self (by rw [← S.len]; exact hl), r.bar sb⟩
    · obtain ⟨v', e, r'⟩ := S.dat j d' z
      exact ⟨v', by rw [at_set_ne ne]; exact e, r'.bar sb⟩
  · rcases slot_set h with ⟨rfl, z, hl⟩ | ⟨ne, z⟩
    · cases z
    · obtain ⟨a, e, n, c⟩ := S.own j m z
      exact ⟨a, by rw [at_set_ne ne]; exact e, n, c.bar sb⟩
  · rcases slot_set h1 with ⟨_, z, _⟩ | ⟨n1, z1⟩
    · cases z
    rcases slot_set h2 with ⟨_, z, _⟩ | ⟨n2, z2⟩
    · cases z
    rw [at_set_ne n1] at e1
    rw [at_set_ne n2] at e2
    exact S.inj j l m n a z1 z2 e1 e2
/-- a name is given an object of its own: it was protected so far -/
theorem SR.setO (S : SR w K F ρ σ H) {i : Nat} {a : Addr} {m : MO} (ha : F a) (c : Cell w K (Bar F ρ σ) H a m) : SR w K (fun b => F b ∧ b ≠ a) (ρ.set i (some (.own m))) (σ.set i (some (.ref a))) H := by
  have sb : ∀ b, Bar (fun b => F b ∧ b ≠ a) (ρ.set i (some (.own m))) (σ.set i (some (.ref a))) b → H b ≠ none → Bar F ρ σ b := fun b z _ => by
    rcases z with z | ⟨j, m', h, e⟩
    · exact .inl z.1
    · rcases slot_set h with ⟨rfl, z, hl⟩ | ⟨ne, z⟩
      · rw [at_set_self (by rw [← S.len]; exact hl)] at e
        cases e; exact .inl ha
      · rw [at_set_ne ne] at e; exact .inr ⟨j, m', z, e⟩
  have nown : ∀ b, Own ρ σ b → b ≠ a := fun b o z => (S.own_some o).2 (z ▸ ha)
  refine ⟨by simpa using S.len, fun b z => S.ft b z.1, fun j d' h => ?_, fun j m' h => ?_, fun j l m1 m2 b h1 h2 e1 e2 => ?_⟩
  · rcases slot_set h with ⟨rfl, z, hl⟩ | ⟨ne, z⟩
    · cases z
    · obtain ⟨v', e, r'⟩ := S.dat j d' z
      exact ⟨v', by rw [at_set_ne ne]; exact e, r'.bar sb⟩
  · rcases slot_set h with ⟨rfl, z, hl⟩ | ⟨ne, z⟩
    · cases z
      exact ⟨a, at_set_self (by rw [← S.len]; exact hl), fun z => z.2 rfl, c.bar sb⟩
    · obtain ⟨b, e, n, c'⟩ := S.own j m' z
      exact ⟨b, by rw [at_set_ne ne]; exact e, fun z => n z.1, c'.bar sb⟩
  · rcases slot_set h1 with ⟨rfl, _, hl⟩ | ⟨n1, z1⟩
    · rw [at_set_self (by rw [← S.len]; exact hl)] at e1
      cases e1
      rcases slot_set h2 with ⟨rfl, _, _⟩ | ⟨n2, z2⟩
      · rfl
      · rw [at_set_ne n2] at e2
        exact absurd rfl (nown _ ⟨l, m2, z2, e2⟩)
    · rw [at_set_ne n1] at e1
      rcases slot_set h2 with ⟨rfl, _, hl⟩ | ⟨n2, z2⟩
      · rw [at_set_self (by rw [← S.len]; exact hl)] at e2
        cases e2
        exact absurd rfl (nown _ ⟨j, m1, z1, e1⟩)
      · rw [at_set_ne n2] at e2
        exact S.inj j l m1 m2 b z1 z2 e1 e2
/-- an owned object is changed in place -/
theorem own_setM {i : Nat} {m m' : MO} (h : slot ρ i = some (.own m)) {a : Addr} : Own (ρ.set i (some (.own m'))) σ a ↔ Own ρ σ a := by
  constructor
  · rintro ⟨j, n, h', e⟩
    rcases slot_set h' with ⟨rfl, _, _⟩ | ⟨ne, z⟩
    · exact ⟨j, m, h, e⟩
    · exact ⟨j, n, z, e⟩
  · rintro ⟨j, n, h', e⟩
    by_cases q : j = i
    · subst q; exact ⟨j, m', slot_set_self (slot_lt h), e⟩
    · exact ⟨j, n, by rw [slot_set_ne q]; exact h', e⟩
theorem SR.write (S : SR w K F ρ σ H) {i : Nat} {m m' : MO} {a : Addr} (h : slot ρ i = some (.own m)) (e : σ[i]? = some (some (.ref a))) (k : Keep (fun b => b = a) H H') (c : Cell w K (Bar F ρ σ) H' a m') :
    SR w K F (ρ.set i (some (.own m'))) σ H' := by
  have eb : Bar F (ρ.set i (some (.own m'))) σ = Bar F ρ σ := by
    funext b; exact propext ⟨fun z => z.elim .inl fun z => .inr ((own_setM h).mp z), fun z => z.elim .inl fun z => .inr ((own_setM h).mpr z)⟩
  have sb : ∀ b, b = a → Bar F ρ σ b := fun b z => .inr ⟨i, m, h, z ▸ e⟩
  refine ⟨by simpa using S.len, fun b z => k.there b (S.ft b z), fun j d h' => ?_, fun j n h' => ?_, fun j l m1 m2 b h1 h2 e1 e2 => ?_⟩
  · rw [eb]
    rcases slot_set h' with ⟨_, z, _⟩ | ⟨ne, z⟩
    · cases z
    · obtain ⟨v, e', r⟩ := S.dat j d z
      exact ⟨v, e', r.keep k sb⟩
  · rw [eb]
    rcases slot_set h' with ⟨rfl, z, _⟩ | ⟨ne, z⟩
    · cases z
      obtain ⟨b, e', n, _⟩ := S.own j m h
      rw [e] at e'; cases e'
      exact ⟨a, e, n, c⟩
    · obtain ⟨b, e', n', c'⟩ := S.own j n z
      have hne : b ≠ a := fun q => ne (S.inj j i n m a z h (q ▸ e') e)
      exact ⟨b, e', n', c'.keep k sb hne⟩
  · have f : ∀ {j m1}, slot (ρ.set i (some (.own m'))) j = some (.own m1) → ∃ n, slot ρ j = some (.own n) := fun {j m1} h' => by
      rcases slot_set h' with ⟨rfl, _, _⟩ | ⟨_, z⟩
      · exact ⟨m, h⟩
      · exact ⟨_, z⟩
    obtain ⟨n1, z1⟩ := f h1
    obtain ⟨n2, z2⟩ := f h2
    exact S.inj j l n1 n2 b z1 z2 e1 e2

/-! ### a step of evaluation -/
structure EStep (w : World) (K : Frag) (σ : L2.St) (F : ASet) (ρ : Env) (H : Hp) (F' : ASet) (ρ' : Env) (H' : Hp) : Prop where
  sub : ∀ a, F a → F' a
  new : ∀ a, F' a → F a ∨ H a = none
  sr : SR w K F' ρ' σ H'
  keep : Keep (Own ρ σ) H H'
  osub : ∀ a, Own ρ' σ a → Own ρ σ a
theorem EStep.refl (S : SR w K F ρ σ H) : EStep w K σ F ρ H F ρ H := ⟨fun _ z => z, fun _ z => .inl z, S, Keep.refl, fun _ z => z⟩
theorem EStep.trans {F1 F2 : ASet} {ρ1 ρ2 : Env} {H1 H2 : Hp} (a : EStep w K σ F ρ H F1 ρ1 H1) (b : EStep w K σ F1 ρ1 H1 F2 ρ2 H2) : EStep w K σ F ρ H F2 ρ2 H2 := by
  refine ⟨fun x z => b.sub x (a.sub x z), fun x z => ?_, b.sr, a.keep.trans b.keep a.osub, fun x z => a.osub x (b.osub x z)⟩
  rcases b.new x z with z | z
  · exact a.new x z
  · cases q : H x with
    | none => exact .inr rfl
    | some o => exact absurd z (a.keep.there x (by rw [q]; simp))
/-- a temporary -/
def Tmp (w : World) (K : Frag) (F : ASet) (ρ : Env) (σ : L2.St) (H : Hp) (v : V) : R → Prop
  | .dat d => Rep w K (Bar F ρ σ) H v d
  | .new m => ∃ a, v = .ref a ∧ F a ∧ Cell w K (Bar F ρ σ) H a m
  | .loc i => σ[i]? = some (some v)
theorem EStep.rep {v : V} {d : D} {F1 : ASet} {ρ1 : Env} {H1 : Hp} (b : EStep w K σ F ρ H F1 ρ1 H1) (r : Rep w K (Bar F ρ σ) H v d) : Rep w K (Bar F1 ρ1 σ) H1 v d := by
  have s1 : ∀ x, (Bar F1 ρ1 σ x ∨ Own ρ σ x) → H x ≠ none → Bar F ρ σ x := fun x z n => by
    rcases z with (z | z) | z
    · rcases b.new x z with z | z
      · exact .inl z
      · exact absurd z n
    · exact .inr (b.osub x z)
    · exact .inr z
  exact ((r.bar s1).keep b.keep fun x z => .inr z).bar fun x z _ => .inl z
theorem EStep.cell {a : Addr} {m : MO} {F1 : ASet} {ρ1 : Env} {H1 : Hp} (b : EStep w K σ F ρ H F1 ρ1 H1) (n : ¬ Own ρ σ a) (c : Cell w K (Bar F ρ σ) H a m) : Cell w K (Bar F1 ρ1 σ) H1 a m := by
  have s1 : ∀ x, (Bar F1 ρ1 σ x ∨ Own ρ σ x) → H x ≠ none → Bar F ρ σ x := fun x z n => by
    rcases z with (z | z) | z
    · rcases b.new x z with z | z
      · exact .inl z
      · exact absurd z n
    · exact .inr (b.osub x z)
    · exact .inr z
  exact ((c.bar s1).keep b.keep (fun x z => .inr z) n).bar fun x z _ => .inl z
theorem EStep.tmp {v : V} {r : R} {F1 : ASet} {ρ1 : Env} {H1 : Hp} (b : EStep w K σ F ρ H F1 ρ1 H1) (S : SR w K F ρ σ H) (t : Tmp w K F ρ σ H v r) : Tmp w K F1 ρ1 σ H1 v r := by
  cases r with
  | dat d => exact b.rep t
  | new m =>
    obtain ⟨a, e, fa, c⟩ := t
    exact ⟨a, e, b.sub a fa, b.cell (fun o => (S.own_some o).2 fa) c⟩
  | loc i => exact t
theorem SR.slotTop (S : SR w K F ρ σ H) {i : Nat} {s : Sl} {v : V} (h : slot ρ i = some s) (e : σ[i]? = some (some v)) : Top w K (Bar F ρ σ) H v s.data := by
  cases s with
  | dat d =>
    obtain ⟨v', e', r⟩ := S.dat i d h
    rw [e] at e'; cases e'
    exact .rep r
  | own m =>
    obtain ⟨a, e', _, c⟩ := S.own i m h
    rw [e] at e'; cases e'
    exact c.top
theorem Tmp.top {v : V} {r : R} {d : D} (S : SR w K F ρ σ H) (t : Tmp w K F ρ σ H v r) (e : res ρ r = some d) : Top w K (Bar F ρ σ) H v d := by
  cases r with
  | dat d' => cases e; exact .rep t
  | new m =>
    cases e
    obtain ⟨a, rfl, _, c⟩ := t
    exact c.top
  | loc i =>
    simp only [res] at e
    obtain ⟨s, h, rfl⟩ := Option.map_eq_some_iff.mp e
    exact S.slotTop h t

structure EPost (w : World) (K : Frag) (σ : L2.St) (F : ASet) (ρ : Env) (H : Hp) (r : R) (ρ' : Env) (v : V) (H' : Hp) (F' : ASet) : Prop where
  st : EStep w K σ F ρ H F' ρ' H'
  tmp : Tmp w K F' ρ' σ H' v r
  fresh : ∀ m, r = .new m → ∃ a, v = .ref a ∧ H a = none
/-- an operation at the end of a chain of steps -/
theorem EPost.op {F2 : ASet} {ρ2 : Env} {H2 H3 : Hp} {s : Sl} {v : V} (a : EStep w K σ F ρ H F2 ρ2 H2) (p : OpPost w K (Bar F2 ρ2 σ) H2 s v H3) : ∃ F3, EPost w K σ F ρ H s.res ρ2 v H3 F3 := by
  obtain ⟨sm, p⟩ := p
  cases s with
  | dat d =>
    refine ⟨F2, a.trans ⟨fun _ z => z, fun _ z => .inl z, a.sr.same sm, Keep.of_same sm, fun _ z => z⟩, p, fun m z => ?_⟩
    cases z
  | own m =>
    obtain ⟨b, rfl, nb, c⟩ := p
    have there : ∀ x, (F2 x ∨ x = b) → H3 x ≠ none := fun x z => by
      rcases z with z | rfl
      · exact (Keep.of_same (O := fun _ => False) sm).there x (a.sr.ft x z)
      · exact c.some
    have new : ∀ x, (F2 x ∨ x = b) → F2 x ∨ H2 x = none := fun x z => z.elim .inl fun z => .inr (z ▸ nb)
    refine ⟨fun x => F2 x ∨ x = b, a.trans ⟨fun _ z => .inl z, new, a.sr.grow sm new there, Keep.of_same sm, fun _ z => z⟩, ⟨b, rfl, .inr rfl, c.bar fun x z _ => ?_⟩, fun m' z => ⟨b, rfl, ?_⟩⟩
    · rcases z with (z | z) | z
      · exact .inl (.inl z)
      · exact .inr z
      · exact .inl (.inr z)
    · cases q : H b with
      | none => rfl
      | some o => exact absurd nb (a.keep.there b (by rw [q]; simp))
theorem EPost.dat {F2 : ASet} {ρ2 : Env} {H2 : Hp} {d : D} {v : V} (a : EStep w K σ F ρ H F2 ρ2 H2) (r : Rep w K (Bar F2 ρ2 σ) H2 v d) : EPost w K σ F ρ H (.dat d) ρ2 v H2 F2 :=
  ⟨a, r, fun m z => by cases z⟩
theorem EStep.frz (S : SR w K F ρ σ H) {i : Nat} {d : D} {ρ1 : Env} (h : freeze ρ i = some (d, ρ1)) : EStep w K σ F ρ H F ρ1 H ∧ ∃ v, σ[i]? = some (some v) ∧ Rep w K (Bar F ρ1 σ) H v d := by
  unfold freeze at h
  split at h
  · rename_i s hs
    cases h
    obtain ⟨a, b⟩ := S.frz hs
    exact ⟨⟨fun _ z => z, fun _ z => .inl z, a, Keep.refl, fun _ z => own_frz z⟩, b⟩
  · cases h
/-- a result that goes into another object -/
theorem EPost.esc (S : SR w K F ρ σ H) {r : R} {ρ1 ρ2 : Env} {H1 : Hp} {F1 : ASet} {v : V} {d : D} (p : EPost w K σ F ρ H r ρ1 v H1 F1) (h : SP.esc (r, ρ1) = some (d, ρ2)) : EStep w K σ F ρ H (fun x => F1 x ∧ (F x ∨ V.ref x ≠ v)) ρ2 H1 ∧ Rep w K (Bar (fun x => F1 x ∧ (F x ∨ V.ref x ≠ v)) ρ2 σ) H1 v d := by
  have less : EStep w K σ F ρ H (fun x => F1 x ∧ (F x ∨ V.ref x ≠ v)) ρ1 H1 :=
    ⟨fun x z => ⟨p.st.sub x z, .inl z⟩, fun x z => p.st.new x z.1, p.st.sr.less fun x z => z.1, p.st.keep, p.st.osub⟩
  have sb : ∀ x, Bar (fun x => F1 x ∧ (F x ∨ V.ref x ≠ v)) ρ1 σ x → H1 x ≠ none → Bar F1 ρ1 σ x := fun x z _ => z.elim (fun z => .inl z.1) .inr
  cases r with
  | dat d' => cases h; exact ⟨less, (show Rep w K (Bar F1 ρ1 σ) H1 v d from p.tmp).bar sb⟩
  | new m =>
    cases h
    obtain ⟨a, ev, ha⟩ := p.fresh m rfl
    obtain ⟨b, eb, fb, c⟩ := p.tmp
    rw [ev] at eb
    injection eb with eb
    subst eb; subst ev
    refine ⟨less, (c.bar sb).rep ?_⟩
    rintro (⟨_, z | z⟩ | z)
    · exact S.ft a z ha
    · exact z rfl
    · exact (p.st.sr.own_some z).2 fb
  | loc i =>
    have z := EStep.frz (p.st.sr.less (F' := fun x => F1 x ∧ (F x ∨ V.ref x ≠ v)) fun x z => z.1) (show freeze ρ1 i = some (d, ρ2) from h)
    obtain ⟨a, v', e, r⟩ := z
    have t : σ[i]? = some (some v) := p.tmp
    rw [t] at e; cases e
    exact ⟨less.trans a, r⟩
end
end SP

/-! SpE: the arms of the theorem for expressions. -/
namespace SP
open PySem PySem.W PyProof.Rows L2 PySem.SeqAt

theorem PEimp {X : Cx} {e : Expr} {t t' : TE} (h : PE X e t) (i : ∀ σ H Q, t' σ H Q → t σ H Q) : PE X e t' := ⟨fun pins s σ H Q I hw => h.run pins s σ H Q I (i σ H Q hw)⟩
theorem PTimp {X : Cx} {e : Expr} {t t' : TT} (h : PT X e t) (i : ∀ σ H Q, t' σ H Q → t σ H Q) : PT X e t' := ⟨fun pins s σ H Q I hw => h.run pins s σ H Q I (i σ H Q hw)⟩
theorem PWimp {X : Cx} {e : Expr} {t t' : TT} (h : PW X e t) (i : ∀ σ H Q, t' σ H Q → t σ H Q) : PW X e t' := ⟨fun wh pins s σ H Q I hw => h.run wh pins s σ H Q I (i σ H Q hw)⟩
theorem PAimp {X : Cx} {e : List Expr} {t t' : TA} (h : PA X e t) (i : ∀ σ H Q, t' σ H Q → t σ H Q) : PA X e t' := ⟨fun pos pins s σ H Q I hw => h.run pos pins s σ H Q I (i σ H Q hw)⟩

/-! ### readings -/
def tE (X : Cx) (f : Env → Option (R × Env)) : TE := fun σ H Q => ∃ F0 ρ r ρ', SR X.w X.K F0 ρ σ H ∧ f ρ = some (r, ρ') ∧ ∀ v H' F', EPost X.w X.K σ F0 ρ H r ρ' v H' F' → Q v H'
def tT (X : Cx) (f : Env → Option (Bool × Env)) : TT := fun σ H Q => ∃ F0 ρ k ρ', SR X.w X.K F0 ρ σ H ∧ f ρ = some (k, ρ') ∧ ∀ H' F', EStep X.w X.K σ F0 ρ H F' ρ' H' → Q k H'
inductive Tmps (w : World) (K : Frag) (F : ASet) (ρ : Env) (σ : L2.St) (H : Hp) : List V → List R → Prop
  | nil : Tmps w K F ρ σ H [] []
  | cons {v : V} {r : R} {vs : List V} {rs : List R} : Tmp w K F ρ σ H v r → Tmps w K F ρ σ H vs rs → Tmps w K F ρ σ H (v :: vs) (r :: rs)
def tEs (X : Cx) (f : Env → Option (List R × Env)) : TA := fun σ H Q => ∃ F0 ρ rs ρ', SR X.w X.K F0 ρ σ H ∧ f ρ = some (rs, ρ') ∧ ∀ vs H' F', EStep X.w X.K σ F0 ρ H F' ρ' H' → Tmps X.w X.K F' ρ' σ H' vs rs → Q vs H'
def tX (X : Cx) (f : Env → Option (List D × Env)) : TA := fun σ H Q => ∃ F0 ρ ds ρ', SR X.w X.K F0 ρ σ H ∧ f ρ = some (ds, ρ') ∧ ∀ vs H' F', EStep X.w X.K σ F0 ρ H F' ρ' H' → RepL X.w X.K (Bar F' ρ' σ) H' vs ds → Q vs H'

section
variable {w : World} {K : Frag} {F F' : ASet} {ρ ρ' : Env} {σ : L2.St} {H H' : Hp}
theorem EStep.tmps {vs : List V} {rs : List R} {F1 : ASet} {ρ1 : Env} {H1 : Hp} (b : EStep w K σ F ρ H F1 ρ1 H1) (S : SR w K F ρ σ H) (t : Tmps w K F ρ σ H vs rs) : Tmps w K F1 ρ1 σ H1 vs rs := by
  induction t with
  | nil => exact .nil
  | cons a _ ih => exact .cons (b.tmp S a) ih
theorem EStep.repL {vs : List V} {ds : List D} {F1 : ASet} {ρ1 : Env} {H1 : Hp} (b : EStep w K σ F ρ H F1 ρ1 H1) (r : RepL w K (Bar F ρ σ) H vs ds) : RepL w K (Bar F1 ρ1 σ) H1 vs ds := by
  induction vs generalizing ds with
  | nil => cases r; exact .nil
  | cons v vs ih => cases r with | cons a t => exact .cons (b.rep a) (ih t)
theorem Tmps.topL {vs : List V} {rs : List R} {ds : List D} (S : SR w K F ρ σ H) (t : Tmps w K F ρ σ H vs rs) (e : ress ρ rs = some ds) : TopL w K (Bar F ρ σ) H vs ds := by
  induction t generalizing ds with
  | nil => cases e; exact .nil
  | cons a _ ih =>
    simp only [ress] at e
    split at e
    · rename_i d es h1 h2
      cases e
      exact .cons (a.top S h1) (ih h2)
    · cases e
end

section
variable {X : Cx}
/-! ### names and constants -/
theorem e_loc {i : Nat} {x : Str} {pos : Pos} (hN : X.N[i]? = some x) (hv : Vis X.env.scope x) (hd : (x == ("__debug__" : Str)) = false) (hcd : (x == ("__classdict__" : Str)) = false) :
    PE X (.Name x pos) (tE X fun ρ => match slot ρ i with | some (.dat d) => some (.dat d, ρ) | some (.own _) => some (.loc i, ρ) | none => none) := by
  refine PEimp (pe_var (i := i) hN hv hd hcd) fun σ H Q h => ?_
  obtain ⟨F0, ρ, r, ρ', S, ev, q⟩ := h
  dsimp only at ev
  split at ev
  · rename_i d hs
    cases ev
    obtain ⟨v, e, rp⟩ := S.dat i d hs
    exact ⟨v, e, q v H F0 (.dat (.refl S) rp)⟩
  · rename_i m hs
    cases ev
    obtain ⟨a, e, _, c⟩ := S.own i m hs
    exact ⟨_, e, q _ H F0 ⟨.refl S, e, fun m z => by cases z⟩⟩
  · cases ev
theorem e_val {e : Expr} {v : V} {d : D} (h : PE X e (tC v)) (r : ∀ G H, Rep X.w X.K G H v d) : PE X e (tE X fun ρ => some (.dat d, ρ)) := by
  refine PEimp h fun σ H Q hq => ?_
  obtain ⟨F0, ρ, r', ρ', S, ev, q⟩ := hq
  cases ev
  exact q v H F0 (.dat (.refl S) (r _ _))

/-! ### operators -/
theorem e_bin {a b : Expr} {op : Operator} {pos : Pos} {f g : Env → Option (R × Env)} (ha : PE X a (tE X f)) (hb : PE X b (tE X g)) :
    PE X (.BinOp a op b pos) (tE X fun ρ => (f ρ).bind fun (r, ρ1) => (g ρ1).bind fun (q, ρ2) => (res ρ2 r).bind fun x => (res ρ2 q).bind fun y => (binD op x y).map fun s => (s.res, ρ2)) := by
  refine PEimp (pe_op (op_bin op) ha hb) fun σ H Q h => ?_
  obtain ⟨F0, ρ, r, ρ', S, ev, q⟩ := h
  obtain ⟨⟨r1, ρ1⟩, e1, ev⟩ := Option.bind_eq_some_iff.mp ev
  obtain ⟨⟨r2, ρ2⟩, e2, ev⟩ := Option.bind_eq_some_iff.mp ev
  obtain ⟨x, ex, ev⟩ := Option.bind_eq_some_iff.mp ev
  obtain ⟨y, ey, ev⟩ := Option.bind_eq_some_iff.mp ev
  obtain ⟨s, es, ev⟩ := Option.map_eq_some_iff.mp ev
  cases ev
  refine ⟨F0, ρ, r1, ρ1, S, e1, fun v1 H1 F1 p1 => ⟨F1, ρ1, r2, _, p1.st.sr, e2, fun v2 H2 F2 p2 => ?_⟩⟩
  refine ⟨_, x, y, s, (p2.st.tmp p1.st.sr p1.tmp).top p2.st.sr ex, p2.tmp.top p2.st.sr ey, es, fun v3 H3 po => ?_⟩
  obtain ⟨F3, P⟩ := EPost.op (p1.st.trans p2.st) po
  exact q v3 H3 F3 P
theorem e_neg {a : Expr} {pos : Pos} {f : Env → Option (R × Env)} (ha : PE X a (tE X f)) :
    PE X (.UnaryOp .USub a pos) (tE X fun ρ => (f ρ).bind fun (r, ρ1) => (res ρ1 r).bind fun x => (intOf x).map fun i => (.dat (.int (-i)), ρ1)) := by
  refine PEimp (pe_un un_neg ha) fun σ H Q h => ?_
  obtain ⟨F0, ρ, r, ρ', S, ev, q⟩ := h
  obtain ⟨⟨r1, ρ1⟩, e1, ev⟩ := Option.bind_eq_some_iff.mp ev
  obtain ⟨x, ex, ev⟩ := Option.bind_eq_some_iff.mp ev
  obtain ⟨i, ei, ev⟩ := Option.map_eq_some_iff.mp ev
  cases ev
  refine ⟨F0, ρ, r1, _, S, e1, fun v1 H1 F1 p1 => ?_⟩
  have t := p1.tmp.top p1.st.sr ex
  cases x with
  | int j =>
    cases ei
    cases t.int_inv
    exact ⟨_, rfl, q _ H1 F1 (.dat p1.st (.int _))⟩
  | _ => cases ei
/-- a value as a truth -/
theorem bool_of {F : ASet} {ρ : Env} {σ : L2.St} {H : Hp} {v : V} {r : R} {x : D} {k : Bool} (S : SR X.w X.K F ρ σ H) (t : Tmp X.w X.K F ρ σ H v r) (ex : res ρ r = some x) (ek : boolOf x = some k) : v = .bl k := by
  have t := t.top S ex
  cases x with
  | bool b => cases ek; exact t.bool_inv
  | _ => cases ek
def fTest (f : Env → Option (R × Env)) : Env → Option (Bool × Env) := fun ρ => (f ρ).bind fun (r, ρ1) => (res ρ1 r).bind fun x => (boolOf x).map fun k => (k, ρ1)
theorem e_not {a : Expr} {pos : Pos} {f : Env → Option (R × Env)} (ha : PE X a (tE X f)) :
    PE X (.UnaryOp .Not a pos) (tE X fun ρ => (f ρ).bind fun (r, ρ1) => (res ρ1 r).bind fun x => (boolOf x).map fun b => (.dat (.bool (!b)), ρ1)) := by
  refine PEimp (pe_not ha) fun σ H Q h => ?_
  obtain ⟨F0, ρ, r, ρ', S, ev, q⟩ := h
  obtain ⟨⟨r1, ρ1⟩, e1, ev⟩ := Option.bind_eq_some_iff.mp ev
  obtain ⟨x, ex, ev⟩ := Option.bind_eq_some_iff.mp ev
  obtain ⟨i, ei, ev⟩ := Option.map_eq_some_iff.mp ev
  cases ev
  exact ⟨F0, ρ, r1, _, S, e1, fun v1 H1 F1 p1 => ⟨i, bool_of p1.st.sr p1.tmp ex ei, q _ H1 F1 (.dat p1.st (.bl _))⟩⟩
theorem t_val {e : Expr} {f : Env → Option (R × Env)} (h : PE X e (tE X f)) (he : ∀ whole, isTrue e X.env whole = (do let v ← whole; standAt e.pos; holding [v] (truthy v))) : PT X e (tT X (fTest f)) := by
  refine PTimp (pt_val h he) fun σ H Q hq => ?_
  obtain ⟨F0, ρ, k, ρ', S, ev, q⟩ := hq
  obtain ⟨⟨r1, ρ1⟩, e1, ev⟩ := Option.bind_eq_some_iff.mp ev
  obtain ⟨x, ex, ev⟩ := Option.bind_eq_some_iff.mp ev
  obtain ⟨i, ei, ev⟩ := Option.map_eq_some_iff.mp ev
  cases ev
  exact ⟨F0, ρ, r1, _, S, e1, fun v1 H1 F1 p1 => ⟨k, bool_of p1.st.sr p1.tmp ex ei, q H1 F1 p1.st⟩⟩
theorem t_not {a : Expr} {pos : Pos} {f : Env → Option (R × Env)} (ha : PT X a (tT X (fTest f))) :
    PT X (.UnaryOp .Not a pos) (tT X (fTest fun ρ => (f ρ).bind fun (r, ρ1) => (res ρ1 r).bind fun x => (boolOf x).map fun b => (.dat (.bool (!b)), ρ1))) := by
  refine PTimp (pt_not ha) fun σ H Q h => ?_
  obtain ⟨F0, ρ, k, ρ', S, ev, q⟩ := h
  obtain ⟨⟨r0, ρ0⟩, e0, ev⟩ := Option.bind_eq_some_iff.mp ev
  obtain ⟨⟨r1, ρ1⟩, e1, e0⟩ := Option.bind_eq_some_iff.mp e0
  obtain ⟨x, ex, e0⟩ := Option.bind_eq_some_iff.mp e0
  obtain ⟨i, ei, e0⟩ := Option.map_eq_some_iff.mp e0
  cases e0
  simp only [res, boolOf, Option.bind_some, Option.map_some] at ev
  cases ev
  refine ⟨F0, ρ, i, _, S, ?_, fun H1 F1 p1 => q H1 F1 p1⟩
  simp only [fTest, e1, ex, ei, Option.bind_some, Option.map_some]

/-! ### and, or -/
def fAnd (f g : Env → Option (R × Env)) : Env → Option (R × Env) := fun ρ => (f ρ).bind fun (r, ρ1) => (res ρ1 r).bind fun x => (boolOf x).bind fun k => match k with
  | true => (g ρ1).bind fun (q, ρ2) => (res ρ2 q).bind fun y => (boolOf y).map fun k2 => (.dat (.bool k2), ρ2)
  | false => some (.dat (.bool false), ρ1)
def fOr (f g : Env → Option (R × Env)) : Env → Option (R × Env) := fun ρ => (f ρ).bind fun (r, ρ1) => (res ρ1 r).bind fun x => (boolOf x).bind fun k => match k with
  | false => (g ρ1).bind fun (q, ρ2) => (res ρ2 q).bind fun y => (boolOf y).map fun k2 => (.dat (.bool k2), ρ2)
  | true => some (.dat (.bool true), ρ1)
theorem EPost.after {w : World} {K : Frag} {σ : L2.St} {F F1 F2 : ASet} {ρ ρ1 ρ2 : Env} {H H1 H2 : Hp} {r : R} {v : V} (a : EStep w K σ F ρ H F1 ρ1 H1) (b : EPost w K σ F1 ρ1 H1 r ρ2 v H2 F2) : EPost w K σ F ρ H r ρ2 v H2 F2 :=
  ⟨a.trans b.st, b.tmp, fun m z => by
    obtain ⟨c, e, n⟩ := b.fresh m z
    refine ⟨c, e, ?_⟩
    cases q : H c with
    | none => rfl
    | some o => exact absurd n (a.keep.there c (by rw [q]; simp))⟩
theorem e_and {a b : Expr} {rest : List Expr} {pos : Pos} {f g : Env → Option (R × Env)} (ha : PE X a (tE X f)) (hb : PE X (.BoolOp .And (b :: rest) pos) (tE X g)) : PE X (.BoolOp .And (a :: b :: rest) pos) (tE X (fAnd f g)) := by
  refine PEimp (pe_and ha hb) fun σ H Q h => ?_
  obtain ⟨F0, ρ, r, ρ', S, ev, q⟩ := h
  obtain ⟨⟨r1, ρ1⟩, e1, ev⟩ := Option.bind_eq_some_iff.mp ev
  obtain ⟨x, ex, ev⟩ := Option.bind_eq_some_iff.mp ev
  obtain ⟨k, ek, ev⟩ := Option.bind_eq_some_iff.mp ev
  refine ⟨F0, ρ, r1, ρ1, S, e1, fun v1 H1 F1 p1 => ⟨k, bool_of p1.st.sr p1.tmp ex ek, ?_⟩⟩
  cases k with
  | true =>
    obtain ⟨⟨r2, ρ2⟩, e2, ev⟩ := Option.bind_eq_some_iff.mp ev
    obtain ⟨y, ey, ev⟩ := Option.bind_eq_some_iff.mp ev
    obtain ⟨k2, ek2, ev⟩ := Option.map_eq_some_iff.mp ev
    cases ev
    rw [if_pos rfl]
    refine ⟨F1, ρ1, r2, _, p1.st.sr, e2, fun v2 H2 F2 p2 => ?_⟩
    rw [bool_of p2.st.sr p2.tmp ey ek2]
    exact q _ H2 F2 (.dat (p1.st.trans p2.st) (.bl _))
  | false =>
    cases ev
    rw [if_neg Bool.false_ne_true]
    exact q _ H1 F1 (.dat p1.st (.bl _))
theorem e_or {a b : Expr} {rest : List Expr} {pos : Pos} {f g : Env → Option (R × Env)} (ha : PE X a (tE X f)) (hb : PE X (.BoolOp .Or (b :: rest) pos) (tE X g)) : PE X (.BoolOp .Or (a :: b :: rest) pos) (tE X (fOr f g)) := by
  refine PEimp (pe_or ha hb) fun σ H Q h => ?_
  obtain ⟨F0, ρ, r, ρ', S, ev, q⟩ := h
  obtain ⟨⟨r1, ρ1⟩, e1, ev⟩ := Option.bind_eq_some_iff.mp ev
  obtain ⟨x, ex, ev⟩ := Option.bind_eq_some_iff.mp ev
  obtain ⟨k, ek, ev⟩ := Option.bind_eq_some_iff.mp ev
  refine ⟨F0, ρ, r1, ρ1, S, e1, fun v1 H1 F1 p1 => ⟨k, bool_of p1.st.sr p1.tmp ex ek, ?_⟩⟩
  cases k with
  | false =>
    obtain ⟨⟨r2, ρ2⟩, e2, ev⟩ := Option.bind_eq_some_iff.mp ev
    obtain ⟨y, ey, ev⟩ := Option.bind_eq_some_iff.mp ev
    obtain ⟨k2, ek2, ev⟩ := Option.map_eq_some_iff.mp ev
    cases ev
    rw [if_neg Bool.false_ne_true]
    refine ⟨F1, ρ1, r2, _, p1.st.sr, e2, fun v2 H2 F2 p2 => ?_⟩
    rw [bool_of p2.st.sr p2.tmp ey ek2]
    exact q _ H2 F2 (.dat (p1.st.trans p2.st) (.bl _))
  | true =>
    cases ev
    rw [if_pos rfl]
    exact q _ H1 F1 (.dat p1.st (.bl _))
theorem w_and {a b : Expr} {rest : List Expr} {pos : Pos} {f g : Env → Option (R × Env)} (ha : PT X a (tT X (fTest f))) (hb : PW X (.BoolOp .And (b :: rest) pos) (tT X (fTest g))) : PW X (.BoolOp .And (a :: b :: rest) pos) (tT X (fTest (fAnd f g))) := by
  refine PWimp (pw_and ha hb) fun σ H Q h => ?_
  obtain ⟨F0, ρ, k0, ρ', S, ev, q⟩ := h
  obtain ⟨⟨r0, ρ0⟩, e0, ev⟩ := Option.bind_eq_some_iff.mp ev
  obtain ⟨⟨r1, ρ1⟩, e1, e0⟩ := Option.bind_eq_some_iff.mp e0
  obtain ⟨x, ex, e0⟩ := Option.bind_eq_some_iff.mp e0
  obtain ⟨k, ek, e0⟩ := Option.bind_eq_some_iff.mp e0
  refine ⟨F0, ρ, k, ρ1, S, by simp only [fTest, e1, ex, ek, Option.bind_some, Option.map_some], fun H1 F1 p1 => ?_⟩
  cases k with
  | true =>
    obtain ⟨⟨r2, ρ2⟩, e2, e0⟩ := Option.bind_eq_some_iff.mp e0
    obtain ⟨y, ey, e0⟩ := Option.bind_eq_some_iff.mp e0
    obtain ⟨k2, ek2, e0⟩ := Option.map_eq_some_iff.mp e0
    cases e0
    simp only [res, boolOf, Option.bind_some, Option.map_some] at ev
    cases ev
    rw [if_pos rfl]
    exact ⟨F1, ρ1, _, _, p1.sr, by simp only [fTest, e2, ey, ek2, Option.bind_some, Option.map_some], fun H2 F2 p2 => q H2 F2 (p1.trans p2)⟩
  | false =>
    cases e0
    simp only [res, boolOf, Option.bind_some, Option.map_some] at ev
    cases ev
    rw [if_neg Bool.false_ne_true]
    exact q H1 F1 p1
theorem w_or {a b : Expr} {rest : List Expr} {pos : Pos} {f g : Env → Option (R × Env)} (ha : PT X a (tT X (fTest f))) (hb : PW X (.BoolOp .Or (b :: rest) pos) (tT X (fTest g))) : PW X (.BoolOp .Or (a :: b :: rest) pos) (tT X (fTest (fOr f g))) := by
  refine PWimp (pw_or ha hb) fun σ H Q h => ?_
  obtain ⟨F0, ρ, k0, ρ', S, ev, q⟩ := h
  obtain ⟨⟨r0, ρ0⟩, e0, ev⟩ := Option.bind_eq_some_iff.mp ev
  obtain ⟨⟨r1, ρ1⟩, e1, e0⟩ := Option.bind_eq_some_iff.mp e0
  obtain ⟨x, ex, e0⟩ := Option.bind_eq_some_iff.mp e0
  obtain ⟨k, ek, e0⟩ := Option.bind_eq_some_iff.mp e0
  refine ⟨F0, ρ, k, ρ1, S, by simp only [fTest, e1, ex, ek, Option.bind_some, Option.map_some], fun H1 F1 p1 => ?_⟩
  cases k with
  | false =>
    obtain ⟨⟨r2, ρ2⟩, e2, e0⟩ := Option.bind_eq_some_iff.mp e0
    obtain ⟨y, ey, e0⟩ := Option.bind_eq_some_iff.mp e0
    obtain ⟨k2, ek2, e0⟩ := Option.map_eq_some_iff.mp e0
    cases e0
    simp only [res, boolOf, Option.bind_some, Option.map_some] at ev
    cases ev
    rw [if_neg Bool.false_ne_true]
    exact ⟨F1, ρ1, _, _, p1.sr, by simp only [fTest, e2, ey, ek2, Option.bind_some, Option.map_some], fun H2 F2 p2 => q H2 F2 (p1.trans p2)⟩
  | true =>
    cases e0
    simp only [res, boolOf, Option.bind_some, Option.map_some] at ev
    cases ev
    rw [if_pos rfl]
    exact q H1 F1 p1

/-! ### comparisons -/
def fCmp (op : CmpOp) (f g : Env → Option (R × Env)) : Env → Option (R × Env) := fun ρ => (f ρ).bind fun (r, ρ1) => (g ρ1).bind fun (q, ρ2) =>
  (res ρ2 r).bind fun x => (res ρ2 q).bind fun y => (cmpD op x y).map fun k => (.dat (.bool k), ρ2)
theorem fCmp_inv {op : CmpOp} {f g : Env → Option (R × Env)} {ρ ρ2 : Env} {r : R} (h : fCmp op f g ρ = some (r, ρ2)) : ∃ r1 ρ1 r2 x y k, f ρ = some (r1, ρ1) ∧ g ρ1 = some (r2, ρ2) ∧ res ρ2 r1 = some x ∧ res ρ2 r2 = some y ∧ cmpD op x y = some k ∧ r = .dat (.bool k) := by
  obtain ⟨⟨r1, ρ1⟩, e1, ev⟩ := Option.bind_eq_some_iff.mp h
  obtain ⟨⟨r2, ρ3⟩, e2, ev⟩ := Option.bind_eq_some_iff.mp ev
  obtain ⟨x, ex, ev⟩ := Option.bind_eq_some_iff.mp ev
  obtain ⟨y, ey, ev⟩ := Option.bind_eq_some_iff.mp ev
  obtain ⟨k, ek, ev⟩ := Option.map_eq_some_iff.mp ev
  cases ev
  exact ⟨r1, ρ1, r2, x, y, k, e1, e2, ex, ey, ek, rfl⟩
theorem e_cmp (c : Ctx X) {a b : Expr} {op : CmpOp} {pos : Pos} {f g : Env → Option (R × Env)} (ha : PE X a (tE X f)) (hb : PE X b (tE X g)) (hm : behindInMarks op b = false) : PE X (.Compare a [op] [b] pos) (tE X (fCmp op f g)) := by
  refine PEimp (pe_cmpR (op_cmp c op) ha hb hm) fun σ H Q h => ?_
  obtain ⟨F0, ρ, r, ρ', S, ev, q⟩ := h
  obtain ⟨r1, ρ1, r2, x, y, k, e1, e2, ex, ey, ek, rfl⟩ := fCmp_inv ev
  refine ⟨F0, ρ, r1, ρ1, S, e1, fun v1 H1 F1 p1 => ⟨F1, ρ1, r2, ρ', p1.st.sr, e2, fun v2 H2 F2 p2 => ?_⟩⟩
  exact ⟨_, x, y, k, (p2.st.tmp p1.st.sr p1.tmp).top p2.st.sr ex, p2.tmp.top p2.st.sr ey, ek, q _ H2 F2 (.dat (p1.st.trans p2.st) (.bl k))⟩
theorem t_cmp (c : Ctx X) {a b : Expr} {op : CmpOp} {pos : Pos} {f g : Env → Option (R × Env)} (ha : PE X a (tE X f)) (hb : PE X b (tE X g)) (hm : behindInMarks op b = false) : PT X (.Compare a [op] [b] pos) (tT X (fTest (fCmp op f g))) := by
  refine PTimp (pt_cmpR (op_cmp c op) ha hb hm) fun σ H Q h => ?_
  obtain ⟨F0, ρ, k0, ρ', S, ev, q⟩ := h
  obtain ⟨⟨r0, ρ0⟩, e0, ev⟩ := Option.bind_eq_some_iff.mp ev
  obtain ⟨r1, ρ1, r2, x, y, k, e1, e2, ex, ey, ek, rfl⟩ := fCmp_inv e0
  simp only [res, boolOf, Option.bind_some, Option.map_some] at ev
  cases ev
  refine ⟨F0, ρ, r1, ρ1, S, e1, fun v1 H1 F1 p1 => ⟨F1, ρ1, r2, _, p1.st.sr, e2, fun v2 H2 F2 p2 => ?_⟩⟩
  exact ⟨_, x, y, _, (p2.st.tmp p1.st.sr p1.tmp).top p2.st.sr ex, p2.tmp.top p2.st.sr ey, ek, _, rfl, q H2 F2 (p1.st.trans p2.st)⟩
def fChain (op op' : CmpOp) (f g h : Env → Option (R × Env)) : Env → Option (R × Env) := fun ρ => (f ρ).bind fun (r, ρ1) => (g ρ1).bind fun (q, ρ2) =>
  (res ρ2 r).bind fun x => (res ρ2 q).bind fun y => (cmpD op x y).bind fun k => match k with
    | false => some (.dat (.bool false), ρ2)
    | true => (h ρ2).bind fun (t, ρ3) => (res ρ3 q).bind fun y => (res ρ3 t).bind fun z => (cmpD op' y z).map fun k => (.dat (.bool k), ρ3)
theorem chain_go (c : Ctx X) {op op' : CmpOp} {f g h : Env → Option (R × Env)} {σ : L2.St} {H : Hp} {Q : VK} (hq : tE X (fChain op op' f g h) σ H Q) : tChain (rCmp X.w X.K op) (rCmp X.w X.K op') (tE X f) (tE X g) (tE X h) σ H Q := by
  obtain ⟨F0, ρ, r, ρ', S, ev, q⟩ := hq
  obtain ⟨⟨r1, ρ1⟩, e1, ev⟩ := Option.bind_eq_some_iff.mp ev
  obtain ⟨⟨r2, ρ2⟩, e2, ev⟩ := Option.bind_eq_some_iff.mp ev
  obtain ⟨x, ex, ev⟩ := Option.bind_eq_some_iff.mp ev
  obtain ⟨y, ey, ev⟩ := Option.bind_eq_some_iff.mp ev
  obtain ⟨k, ek, ev⟩ := Option.bind_eq_some_iff.mp ev
  refine ⟨F0, ρ, r1, ρ1, S, e1, fun v1 H1 F1 p1 => ⟨F1, ρ1, r2, ρ2, p1.st.sr, e2, fun v2 H2 F2 p2 => ?_⟩⟩
  refine ⟨_, x, y, k, (p2.st.tmp p1.st.sr p1.tmp).top p2.st.sr ex, p2.tmp.top p2.st.sr ey, ek, k, rfl, ?_⟩
  cases k with
  | false =>
    cases ev
    rw [if_neg Bool.false_ne_true]
    exact q _ H2 F2 (.dat (p1.st.trans p2.st) (.bl _))
  | true =>
    obtain ⟨⟨r3, ρ3⟩, e3, ev⟩ := Option.bind_eq_some_iff.mp ev
    obtain ⟨y', ey', ev⟩ := Option.bind_eq_some_iff.mp ev
    obtain ⟨z, ez, ev⟩ := Option.bind_eq_some_iff.mp ev
    obtain ⟨k3, ek3, ev⟩ := Option.map_eq_some_iff.mp ev
    cases ev
    rw [if_pos rfl]
    refine ⟨F2, ρ2, r3, ρ', p2.st.sr, e3, fun v3 H3 F3 p3 => ?_⟩
    exact ⟨_, y', z, k3, (p3.st.tmp p2.st.sr p2.tmp).top p3.st.sr ey', p3.tmp.top p3.st.sr ez, ek3, q _ H3 F3 (.dat ((p1.st.trans p2.st).trans p3.st) (.bl k3))⟩
theorem e_chain (c : Ctx X) {a b d : Expr} {op op' : CmpOp} {pos : Pos} {f g h : Env → Option (R × Env)} (ha : PE X a (tE X f)) (hb : PE X b (tE X g)) (hd : PE X d (tE X h)) (hm : lastMarks [op, op'] [b, d] = false) :
    PE X (.Compare a [op, op'] [b, d] pos) (tE X (fChain op op' f g h)) := PEimp (pe_chain (op_cmp c op) (op_cmp c op') ha hb hd hm) fun σ H Q hq => chain_go c hq
theorem t_chain (c : Ctx X) {a b d : Expr} {op op' : CmpOp} {pos : Pos} {f g h : Env → Option (R × Env)} (ha : PE X a (tE X f)) (hb : PE X b (tE X g)) (hd : PE X d (tE X h)) (hm : lastMarks [op, op'] [b, d] = false) :
    PT X (.Compare a [op, op'] [b, d] pos) (tT X (fTest (fChain op op' f g h))) := by
  refine PTimp (pt_chain (op_cmp c op) (op_cmp c op') ha hb hd hm) fun σ H Q hq => ?_
  obtain ⟨F0, ρ, k0, ρ', S, ev, q⟩ := hq
  obtain ⟨⟨r0, ρ0⟩, e0, ev⟩ := Option.bind_eq_some_iff.mp ev
  obtain ⟨x0, ex0, ev⟩ := Option.bind_eq_some_iff.mp ev
  obtain ⟨k1, ek1, ev⟩ := Option.map_eq_some_iff.mp ev
  cases ev
  refine chain_go (Q := fun x H' => ∃ k, x = .bl k ∧ Q k H') c ⟨F0, ρ, r0, ρ', S, e0, fun v H' F' p => ⟨k0, ?_, q H' F' p.st⟩⟩
  exact bool_of p.st.sr p.tmp ex0 ek1
/-! ### a if t else b -/
theorem e_ite {c a b : Expr} {pos : Pos} {f g h : Env → Option (R × Env)} (hc : PT X c (tT X (fTest f))) (ha : PE X a (tE X g)) (hb : PE X b (tE X h)) :
    PE X (.IfExp c a b pos) (tE X fun ρ => (f ρ).bind fun (r, ρ1) => (res ρ1 r).bind fun x => (boolOf x).bind fun k => match k with | true => g ρ1 | false => h ρ1) := by
  refine PEimp (pe_ifExp hc ha hb) fun σ H Q hq => ?_
  obtain ⟨F0, ρ, r, ρ', S, ev, q⟩ := hq
  obtain ⟨⟨r1, ρ1⟩, e1, ev⟩ := Option.bind_eq_some_iff.mp ev
  obtain ⟨x, ex, ev⟩ := Option.bind_eq_some_iff.mp ev
  obtain ⟨k, ek, ev⟩ := Option.bind_eq_some_iff.mp ev
  refine ⟨F0, ρ, k, ρ1, S, by simp only [fTest, e1, ex, ek, Option.bind_some, Option.map_some], fun H1 F1 p1 => ?_⟩
  cases k with
  | true =>
    rw [if_pos rfl]
    exact ⟨F1, ρ1, r, ρ', p1.sr, ev, fun v2 H2 F2 p2 => q v2 H2 F2 (.after p1 p2)⟩
  | false =>
    rw [if_neg Bool.false_ne_true]
    exact ⟨F1, ρ1, r, ρ', p1.sr, ev, fun v2 H2 F2 p2 => q v2 H2 F2 (.after p1 p2)⟩
end
end SP

/-! SpIt: enumerate over a tuple, as the hand layer has it over a list. -/
namespace PySem
open Sem (wp)
theorem meets_enum_tup1 (l : Addr) (its : Array Value) :
    Meets (Builtin.«enumerate.__new__» ⟨[.type "enumerate", .ref l], []⟩) (fun _ R s => s.heap.IsTuple l its ∧
      R (.ok (.ret (.ref (s.heap.push { cls := .type "tuple_iterator", data := .fields #[.ref l, .int 0 0] }).objs.size)))
        { s with heap := (s.heap.push { cls := .type "tuple_iterator", data := .fields #[.ref l, .int 0 0] }).push { cls := .type "enumerate", data := .fields #[.none, .bool false, .ref s.heap.objs.size, rawInt 0, .none, .none] } }) :=
  .of_wp fun prog w A R s h => by
    obtain ⟨hp, g, d, tk, os⟩ := s; obtain ⟨hl, h⟩ := h
    have hsub := sub_enumerate
    have hL : Heap.IsTuple (Shared.heap ⟨hp, g, d, tk, os⟩) l its := hl
    wp_walk using wpAny_pyIter_tuple hL
    refine wpAny_stack_any fun st => wpAny_pure ?_
    split
    · rename_i c _ _ _ _ _
      cases (c == Value.type "enumerate")
      · wp_walk using wpAny_pyIter_tuple hL
        exact ⟨_, rfl, h⟩
      · wp_walk using wpAny_pyIter_tuple hL
        exact ⟨_, rfl, h⟩
    · wp_walk using wpAny_pyIter_tuple hL
      exact ⟨_, rfl, h⟩
section
variable {prog : Program} {w : World} {A : Around} {E : Value → Shared → Prop} {s : Shared}
theorem call_enum_tup {l : Addr} {its : Array Value} {Q : Value → Shared → Prop} (hL : s.heap.IsTuple l its)
    (h : ∀ h', IsEnum h' (s.heap.objs.size + 1) s.heap.objs.size 0 .none → h'.IsTupleIter s.heap.objs.size l 0 → h'.objs.size = s.heap.objs.size + 2 →
      (∀ b o, s.heap.get? b = some o → h'.get? b = some o) → Q (.ref (s.heap.objs.size + 1)) { s with heap := h' }) :
    wpAny (model prog w) A (call (.type "enumerate") [.ref l]) Q E s := by
  refine callType_new F.called_enumerate (by decide) (F.typeCall_enumerate_1 _) (F.newCall_enumerate_1 _) (fun obj => F.args_object_init_2 obj _) F.entry_enumerate_new
    (meets_enum_tup1 l its) ⟨hL, ?_⟩
  have hz : (s.heap.push { cls := .type "tuple_iterator", data := .fields #[.ref l, .int 0 0] }).objs.size = s.heap.objs.size + 1 := Heap.size_push ..
  show _ ∧ _
  rw [hz]
  have he : IsEnum ((s.heap.push { cls := .type "tuple_iterator", data := .fields #[.ref l, .int 0 0] }).push
      { cls := .type "enumerate", data := .fields #[.none, .bool false, .ref s.heap.objs.size, rawInt 0, .none, .none] }) (s.heap.objs.size + 1) s.heap.objs.size 0 .none := by
    have := Heap.get?_push_size (s.heap.push { cls := .type "tuple_iterator", data := .fields #[.ref l, .int 0 0] })
      (o := { cls := .type "enumerate", data := .fields #[.none, .bool false, .ref s.heap.objs.size, rawInt 0, .none, .none] }) rfl
    rw [hz] at this; exact this
  refine ⟨⟨_, he, rfl⟩, h _ he ⟨_, Heap.get?_push_of_some _ (Heap.get?_push_size _ rfl), rfl, rfl⟩ (by rw [Heap.size_push, hz]) fun b o x => Heap.get?_push_of_some _ (Heap.get?_push_of_some _ x)⟩
theorem pyNext_enumT_end {e it l : Addr} {j : Int} {i : Nat} {its : Array Value} {old : Value} {Q : Option Value → Shared → Prop} (hh : A.handled = none)
    (he : IsEnum s.heap e it j old) (hit : s.heap.IsTupleIter it l i) (hl : s.heap.IsTuple l its) (hx : its[i]? = none)
    (hQ : ∀ h', Heap.ExtBut it s.heap h' → Q none { s with heap := h' }) : wpAny (model prog w) A (pyNext (.ref e)) Q E s := by
  have hT : s.TypeIs (.ref e) "enumerate" := ⟨_, he, rfl⟩
  unfold pyNext
  refine wpAny_bind (wpAny_attempt (wpAny_callSpecial?_slot (name := Str.ofString "__next__") hT F.slot_enumerate_next
    (wpAny_call_entry F.slot_enumerate_next hT F.entry_enumerate_next ?_ (F.args_enumerate_next_1 _))))
  show wpAny _ _ (field (.ref e) 2 >>= _) _ _ _
  refine wpAny_bind (wpAny_field he rfl (x := .ref it) rfl ?_)
  refine wpAny_bind (wpAny_nextOf_tuple_end hh hit hl hx fun h' x he' hx' => ?_)
  obtain ⟨o, ho, hc⟩ := hx'
  refine wpAny_bind (wpAny_isInstance (T := "StopIteration") (b := true) ⟨o, ho, hc⟩ isSubtype_stop ?_)
  exact wpAny_pure (hQ _ he')
end
end PySem
namespace SP
open PySem PySem.W PyProof.Rows L2 PySem.SeqAt
def IteT (K : Frag) (a : Addr) : It :=
  ⟨fun i H => ∃ (xs : List V) (x : V), SqT K H a xs ∧ xs[i]? = some x, fun i H v H' => ∃ T x, v = .ref T ∧ H T = none ∧ H' = upd H T (.tup [.int (i : Nat), x]) ∧ ∀ xs, SqT K H a xs → xs[i]? = some x, fun i H => ∃ xs : List V, SqT K H a xs ∧ xs.length ≤ i⟩
theorem turn_enumT {P : Program} {w : World} {K : Frag} {elts : List Expr} {kk : Nat} {tpos : Pos} (a e it : Addr) (hae : a ≠ it) :
    Turn P w K (.Tuple elts kk tpos) (IteT K a) [e, it] e (fun i h => (∃ old, IsEnum h e it ((i : Nat) : Int) old) ∧ h.IsTupleIter it a i ∧ e ≠ it ∧ e ≠ a) where
  mem := by simp
  obj := fun i h st b hb => by
    obtain ⟨⟨old, he⟩, ⟨o, ho, hc, hd⟩, _⟩ := st
    have e' : b = e ∨ b = it := by simpa using hb
    rcases e' with z | z
    · rw [z]; exact ⟨_, he, fun v q => nomatch q⟩
    · rw [z]; exact ⟨o, ho, fun v q => by rw [hd] at q; cases q⟩
  keep := fun i h h' st k => let ⟨⟨old, he⟩, hi, hne, hna⟩ := st; ⟨⟨old, k e (by simp) _ he⟩, hi.at fun o q => k it (by simp) o q, hne, hna⟩
  item := by
    intro X hP hw hK hc i pins s σ H E I hf st hg
    subst hP hw hK
    obtain ⟨⟨old, he⟩, hit, hne, hna⟩ := st
    obtain ⟨xs, x, hq, hx⟩ := hg
    obtain ⟨its, rv, p, hz⟩ := I.tuple hq
    obtain ⟨u, hu, ru⟩ := rv.get hx
    have hel : e < s.heap.objs.size := Heap.lt_size he
    have hil : it < s.heap.objs.size := by obtain ⟨_, q, _⟩ := hit; exact Heap.lt_size q
    have hlt : i < its.toArray.size := by
      have := (List.getElem?_eq_some_iff.mp hu).1
      simpa using this
    refine wpAny_pyNext_enum_itemD (Draws.tuple (prog := X.prog) (w := X.w) (A := X.A.in1) (I.ok.hd hc) it a hae its.toArray) he ⟨hit, p⟩ hlt hne (by simp [hne, hna]) fun y h' tk hy ho hs hT hsz hk => ?_
    have hy' : y = u := by
      have h2 : its.toArray[i]? = some u := by simpa using hu
      exact Option.some.inj (hy.symm.trans h2)
    subst hy'
    refine ⟨_, rfl, wpAny_letOwnedTupleGo_enum (s := { s with heap := h', toks := tk + 1 }) ho fun h'' he' sb => ?_⟩
    have hT2 : h''.get? s.heap.objs.size = some { cls := .type "tuple", data := .seq #[.int i tk, y] } := (sb.2 _ (Nat.ne_of_gt hel)).trans hT
    have new : ObjOk X.prog X.w (upd H s.heap.objs.size (.tup [.int (i : Nat), x])) h'' s.heap.objs.size (.tup [.int (i : Nat), x]) :=
      ⟨by show 2 ≤ sizeLine; decide, [.int i tk, y], .cons ⟨_, rfl⟩ (.cons ru .nil), ⟨_, hT2, rfl, _, rfl⟩⟩
    have I1 : Inv X pins σ (upd H s.heap.objs.size (.tup [.int (i : Nat), x])) { s with heap := h'', toks := tk + 1 } :=
      I.turnedNew (ch := [e, it]) (fun b ob hb q => (sb.2 b (fun z => hb (by simp [z]))).trans (hk b ob (fun z => hb (by simp [z])) (fun z => hb (by simp [z])) q)) hf (Nat.le_refl _) new
    refine ⟨.ref s.heap.objs.size, _, I1, rfl, ⟨_, x, rfl, I.hok.fresh (Nat.le_refl _), rfl, fun ys hy => by rw [I.tuple_inj hy hq]; exact hx⟩, ⟨⟨y, ?_⟩, hs.1.at fun o q => (sb.2 it (Ne.symm hne)).trans q, hne, hna⟩, fun b hb => ?_⟩
    · have e1 : ((i + 1 : Nat) : Int) = (i : Int) + 1 := by omega
      rw [e1]; exact he'
    · have hb' : b < s.heap.objs.size := by
        have e' : b = e ∨ b = it := by simpa using hb
        rcases e' with z | z
        · rw [z]; exact hel
        · rw [z]; exact hil
      rw [upd_ne (Nat.ne_of_lt hb')]
      exact (hf b hb).1
  done := by
    intro X hP hw hK hc i pins s σ H E I hf st hg
    subst hP hw hK
    obtain ⟨⟨old, he⟩, hit, hne, hna⟩ := st
    obtain ⟨xs, hq, hx⟩ := hg
    obtain ⟨its, rv, p, hz⟩ := I.tuple hq
    obtain ⟨f0, f1, f2, f3, f4, f5⟩ := hf it (by simp)
    have hl := rv.length
    refine pyNext_enumT_end (I.ok.hd hc) he hit p (by simp; omega) fun h' eb => ⟨rfl, I.turned (t' := s.toks) (fun b o hb q => eb b o hb q) f0 f1 f3 f4 f5⟩
  self := fun A i s Q E st h => let ⟨⟨_, he⟩, _⟩ := st; wpAny_pyIter_enum he h
def iEnumA (K : Frag) (ta : TA) : TI := fun σ H R => ta σ H fun vs H1 => ∃ a xs, vs = [.ref a] ∧ ((SqL K H1 a xs ∧ R (Ite K a) H1) ∨ (SqT K H1 a xs ∧ R (IteT K a) H1))
theorem pi_enumA {X : Cx} {e : Expr} {ta : TA} {p pos tpos : Pos} {elts : List Expr} {kk : Nat} (hg : Gl X "enumerate") (hm : X.mg "enumerate" = none) (ha : PA X [e] ta) (hs : starEach [e] X.env = [(false, eval e X.env)]) :
    PI X (.Tuple elts kk tpos) (.Call (.Name "enumerate" p) [e] [] pos) (iEnumA X.K ta) := by
  refine ⟨fun pins s σ H R I h => ?_⟩
  refine Call_ (ld_blt I hg hm boot_enumerate (PyProof.Rows.callWith_type1 (thn (ha.run pos pins s σ H _ I h) fun us s1 ⟨vs, H1, I1, r1, q1⟩ => ?_) hs rfl))
  obtain ⟨a, xs, ex, q1⟩ := q1
  subst ex
  cases r1 with
  | cons r rr =>
    cases rr
    cases r
    have e0 : ∀ b, b ∈ [s1.heap.objs.size + 1, s1.heap.objs.size] → FpOk X pins H1 b := fun b hb => by
      have e' : b = s1.heap.objs.size + 1 ∨ b = s1.heap.objs.size := by simpa using hb
      have hle : s1.heap.objs.size ≤ b := by
        rcases e' with z | z
        · rw [z]; exact Nat.le_add_right _ _
        · rw [z]; exact Nat.le_refl _
      exact I1.fpOk hle (I1.hok.fresh hle)
    rcases q1 with ⟨hq, q⟩ | ⟨hq, q⟩
    · obtain ⟨its, rv, p', hz⟩ := I1.list hq
      refine call_enumerate_list p'.isList fun h' he hit hsz hk => wpAny_pyIter_enum he ?_
      have I2 : Inv X pins σ H1 { s1 with heap := h' } := I1.kept (t' := s1.toks) hk
      exact ⟨s1.heap.objs.size + 1, [s1.heap.objs.size + 1, s1.heap.objs.size], _, _, H1, rfl, I2, turn_enum a (s1.heap.objs.size + 1) s1.heap.objs.size, ⟨⟨.none, he⟩, hit, Nat.succ_ne_self _⟩, e0, q⟩
    · obtain ⟨its, rv, p', hz⟩ := I1.tuple hq
      have hal : a < s1.heap.objs.size := by obtain ⟨o, ho, _⟩ := id p'; exact Heap.lt_size ho
      refine call_enum_tup p' fun h' he hit hsz hk => wpAny_pyIter_enum he ?_
      have I2 : Inv X pins σ H1 { s1 with heap := h' } := I1.kept (t' := s1.toks) hk
      exact ⟨s1.heap.objs.size + 1, [s1.heap.objs.size + 1, s1.heap.objs.size], _, _, H1, rfl, I2, turn_enumT a (s1.heap.objs.size + 1) s1.heap.objs.size (Nat.ne_of_lt hal), ⟨⟨.none, he⟩, hit, Nat.succ_ne_self _, fun z => Nat.lt_irrefl a (Nat.lt_of_lt_of_le hal (by rw [← z]; exact Nat.le_add_right _ _))⟩, e0, q⟩
end SP

/-! SpI: steps of statements, targets, what is walked. -/
namespace SP
open PySem PySem.W PyProof.Rows L2 PySem.SeqAt

section
variable {w : World} {K : Frag} {F F' : ASet} {ρ ρ' ρ1 : Env} {σ σ' σ1 : L2.St} {H H' H1 : Hp}
theorem Keep.trans2 {O O' : ASet} {H H1 H2 : Hp} (a : Keep O H H1) (b : Keep O' H1 H2) (s : ∀ x, O' x → O x ∨ H x = none) : Keep O H H2 := by
  refine ⟨fun x o h n => b.keep x o (a.keep x o h n) fun z => ?_, fun x h => b.there x (a.there x h), fun x xs h => b.tup x xs (a.tup x xs h), fun x o u h => b.frz x o u (a.frz x o u h)⟩
  rcases s x z with z | z
  · exact n z
  · rw [z] at h; cases h
/-- a statement's step: R the slots that keep their value -/
structure SStep (w : World) (K : Frag) (R : List Nat) (F : ASet) (σ : L2.St) (ρ : Env) (H : Hp) (σ' : L2.St) (ρ' : Env) (H' : Hp) : Prop where
  sr : SR w K F ρ' σ' H'
  keep : Keep (Own ρ σ) H H'
  own : ∀ a, Own ρ' σ' a → Own ρ σ a ∨ H a = none
  fix : ∀ i ∈ R, σ'[i]? = σ[i]?
theorem SStep.refl {R : List Nat} (S : SR w K F ρ σ H) : SStep w K R F σ ρ H σ ρ H := ⟨S, Keep.refl, fun _ z => .inl z, fun _ _ => rfl⟩
theorem SStep.trans {R : List Nat} {σ2 : L2.St} {ρ2 : Env} {H2 : Hp} (a : SStep w K R F σ ρ H σ1 ρ1 H1) (b : SStep w K R F σ1 ρ1 H1 σ2 ρ2 H2) : SStep w K R F σ ρ H σ2 ρ2 H2 := by
  refine ⟨b.sr, a.keep.trans2 b.keep a.own, fun x z => ?_, fun i h => (b.fix i h).trans (a.fix i h)⟩
  rcases b.own x z with z | z
  · exact a.own x z
  · cases q : H x with
    | none => exact .inr rfl
    | some o => exact absurd z (a.keep.there x (by rw [q]; simp))
theorem SStep.rep {R : List Nat} {v : V} {d : D} (b : SStep w K R F σ ρ H σ1 ρ1 H1) (r : Rep w K (Bar F ρ σ) H v d) : Rep w K (Bar F ρ1 σ1) H1 v d := by
  have s1 : ∀ x, (Bar F ρ1 σ1 x ∨ Own ρ σ x) → H x ≠ none → Bar F ρ σ x := fun x z n => by
    rcases z with (z | z) | z
    · exact .inl z
    · rcases b.own x z with z | z
      · exact .inr z
      · exact absurd z n
    · exact .inr z
  exact ((r.bar s1).keep b.keep fun x z => .inr z).bar fun x z _ => .inl z
theorem EStep.sstep {R : List Nat} {F1 : ASet} (b : EStep w K σ F ρ H F1 ρ1 H1) : SStep w K R F σ ρ H σ ρ1 H1 :=
  ⟨b.sr.less b.sub, b.keep, fun a z => .inl (b.osub a z), fun _ _ => rfl⟩

/-! ### targets -/
def Tg.ix : Tg → List Nat
  | .name i => [i]
  | .tup is => is
def gSeq : List Nat → TGs
  | [] => gNil
  | i :: is => gCons (gName i) (gSeq is)
def gTg (K : Frag) : Tg → TG
  | .name i => gName i
  | .tup is => gTup K is.length (gSeq is)
/-- data given to names -/
structure AStep (w : World) (K : Frag) (F : ASet) (σ : L2.St) (ρ : Env) (H : Hp) (is : List Nat) (σ' : L2.St) (ρ' : Env) : Prop where
  sr : SR w K F ρ' σ' H
  own : ∀ a, Own ρ' σ' a → Own ρ σ a
  off : ∀ j, j ∉ is → σ'[j]? = σ[j]?
  len : σ'.length = σ.length
theorem AStep.bar {is : List Nat} (a : AStep w K F σ ρ H is σ' ρ') : ∀ x, Bar F ρ' σ' x → H x ≠ none → Bar F ρ σ x := fun x z _ => z.elim .inl fun z => .inr (a.own x z)
theorem AStep.sstep {R is : List Nat} (a : AStep w K F σ ρ H is σ' ρ') (h : ∀ i ∈ R, i ∉ is) : SStep w K R F σ ρ H σ' ρ' H :=
  ⟨a.sr, Keep.refl, fun x z => .inl (a.own x z), fun i hi => a.off i (h i hi)⟩
theorem AStep.one (S : SR w K F ρ σ H) {i : Nat} {v : V} {d : D} (r : Rep w K (Bar F ρ σ) H v d) : AStep w K F σ ρ H [i] (σ.set i (some v)) (ρ.set i (some (.dat d))) :=
  ⟨S.setD r, fun a z => own_setD z, fun j hj => at_set_ne (by simpa using hj), by simp⟩
theorem AStep.refl (S : SR w K F ρ σ H) : AStep w K F σ ρ H [] σ ρ := ⟨S, fun _ z => z, fun _ _ => rfl, rfl⟩
theorem AStep.trans {is js : List Nat} {σ2 : L2.St} {ρ2 : Env} (a : AStep w K F σ ρ H is σ1 ρ1) (b : AStep w K F σ1 ρ1 H js σ2 ρ2) : AStep w K F σ ρ H (is ++ js) σ2 ρ2 :=
  ⟨b.sr, fun x z => a.own x (b.own x z), fun j hj => by
    rw [List.mem_append, not_or] at hj
    exact (b.off j hj.2).trans (a.off j hj.1), b.len.trans a.len⟩
theorem seq_asg : ∀ {is : List Nat} {ds : List D} {vs : List V} {ρ : Env} {σ : L2.St} {Q : L2.St → Hp → Prop}, SR w K F ρ σ H → RepL w K (Bar F ρ σ) H vs ds → ds.length = is.length →
    (∀ σ', AStep w K F σ ρ H is σ' ((is.zip ds).foldl (fun ρ p => ρ.set p.1 (some (.dat p.2))) ρ) → Q σ' H) → gSeq is vs σ H Q
  | [], [], _, ρ, σ, Q, S, r, _, q => by
    cases r
    exact ⟨rfl, q σ (.refl S)⟩
  | i :: is, d :: ds, _, ρ, σ, Q, S, r, hl, q => by
    cases r with
    | @cons v _ vs _ r1 r2 =>
      have a := AStep.one S (i := i) r1
      have e : [i] ++ is = i :: is := rfl
      refine ⟨v, vs, rfl, seq_asg (is := is) (ds := ds) a.sr (r2.bar a.bar) (by simpa using hl) fun σ' b => q σ' ?_⟩
      have c := a.trans b
      rw [e] at c
      exact c
  | [], _ :: _, _, _, _, _, _, _, h, _ => by simp at h
  | _ :: _, [], _, _, _, _, _, _, h, _ => by simp at h
theorem setAll_eq : ∀ {is : List Nat} {ds : List D} {ρ ρ' : Env}, setAll ρ is ds = some ρ' → ds.length = is.length ∧ ρ' = (is.zip ds).foldl (fun ρ p => ρ.set p.1 (some (.dat p.2))) ρ
  | [], [], _, _, h => by cases h; exact ⟨rfl, rfl⟩
  | i :: is, d :: ds, ρ, ρ', h => by
    obtain ⟨a, b⟩ := setAll_eq (is := is) (ds := ds) h
    exact ⟨by simp [a], b⟩
  | [], _ :: _, _, _, h => by cases h
  | _ :: _, [], _, _, h => by cases h
theorem seqD_inv {G : ASet} {v : V} {d : D} {ds : List D} (r : Rep w K G H v d) (e : seqD d = some ds) : ∃ a vs, v = .ref a ∧ RepL w K G H vs ds ∧ (Rd H a (.lst vs) ∨ SqT K H a vs) := by
  cases d with
  | list xs => cases e; cases r with | list g h r => exact ⟨_, _, rfl, r, .inl h⟩
  | tuple xs => cases e; cases r with | tuple h r => exact ⟨_, _, rfl, r, .inr h⟩
  | _ => cases e
theorem tg_asg {tg : Tg} {v : V} {d : D} {Q : L2.St → Hp → Prop} (S : SR w K F ρ σ H) (r : Rep w K (Bar F ρ σ) H v d) (e : assignT ρ tg d = some ρ')
    (q : ∀ σ', AStep w K F σ ρ H tg.ix σ' ρ' → Q σ' H) : gTg K tg v σ H Q := by
  cases tg with
  | name i => cases e; exact q _ (.one S r)
  | tup is =>
    cases d with
    | tuple xs =>
      simp only [assignT, tupOf] at e
      split at e
      · rename_i hl
        cases e
        cases r with
        | @tuple a vs _ h r => exact ⟨a, vs, rfl, h, (RepL.length r).trans hl, seq_asg S r hl q⟩
      · cases e
    | _ => simp [assignT, tupOf] at e

/-! ### what is walked -/
structure WalkD (w : World) (K : Frag) (G : ASet) (H : Hp) (J : It) (ds : List D) : Prop where
  ex : ∃ (Gd : Hp → Prop) (Y : Nat → Hp → V → Hp → Prop), Walk J ds.length Gd Y ∧ (∀ O H1, Keep O H H1 → (∀ a, O a → H a ≠ none → G a) → Gd H1) ∧
    ∀ O H1 G1, Keep O H H1 → (∀ a, (G1 a ∨ O a) → H a ≠ none → G a) → ∀ (i : Nat) (d : D) (x : V) (H2 : Hp), ds[i]? = some d → Y i H1 x H2 → Same H1 H2 ∧ Rep w K G1 H2 x d
theorem keepR {G O G1 : ASet} (k : Keep O H H1) (s : ∀ a, (G1 a ∨ O a) → H a ≠ none → G a) {v : V} {d : D} (r : Rep w K G H v d) : Rep w K G1 H1 v d :=
  ((r.bar s).keep k fun x z => .inr z).bar fun x z _ => .inl z
theorem keepRL {G O G1 : ASet} (k : Keep O H H1) (s : ∀ a, (G1 a ∨ O a) → H a ≠ none → G a) {v : List V} {d : List D} (r : RepL w K G H v d) : RepL w K G1 H1 v d :=
  ((r.bar s).keep k fun x z => .inr z).bar fun x z _ => .inl z
theorem wd_list {G : ASet} {a : Addr} {vs : List V} {ds : List D} (n : ¬ G a) (h : Rd H a (.lst vs)) (r : RepL w K G H vs ds) : WalkD w K G H (Itl K a) ds := by
  refine ⟨_, _, (by rw [← r.length]; exact walk_list (K := K) (a := a) (xs := vs)), fun O H1 k s => sqL_of (rd_keep k (fun z => n (s a z (rd_some h))) h), fun O H1 G1 k s i d x H2 e y => ?_⟩
  obtain ⟨rfl, y⟩ := y
  obtain ⟨v, e1, r1⟩ := (keepRL k s r).get e
  rw [y] at e1; cases e1
  exact ⟨Same.refl _, r1⟩
theorem wd_tup {G : ASet} {a : Addr} {vs : List V} {ds : List D} (h : SqT K H a vs) (r : RepL w K G H vs ds) : WalkD w K G H (Itt K a) ds := by
  refine ⟨_, _, (by rw [← r.length]; exact walk_tup (K := K) (a := a) (xs := vs)), fun O H1 k s => sqT_keep k h, fun O H1 G1 k s i d x H2 e y => ?_⟩
  obtain ⟨rfl, y⟩ := y
  obtain ⟨v, e1, r1⟩ := (keepRL k s r).get e
  rw [y] at e1; cases e1
  exact ⟨Same.refl _, r1⟩
theorem rngL_get {a b : Int} {i : Nat} {d : D} (h : (rngL a b)[i]? = some d) : d = .int (a + (i : Nat)) := by
  unfold rngL at h
  rw [List.getElem?_map] at h
  cases q : (List.range (b - a).toNat)[i]? with
  | none => rw [q] at h; cases h
  | some j =>
    rw [q] at h
    obtain ⟨hl, e⟩ := List.getElem?_eq_some_iff.mp q
    rw [List.getElem_range] at e
    subst e
    exact (Option.some.inj h).symm
theorem wd_rng {G : ASet} {a b : Int} : WalkD w K G H (Itr a (b - a).toNat) (rngL a b) := by
  refine ⟨_, _, (by rw [show (rngL a b).length = (b - a).toNat by simp [rngL]]; exact walk_range (lo := a) (n := (b - a).toNat)), fun _ _ _ _ => trivial, fun O H1 G1 k s i d x H2 e y => ?_⟩
  obtain ⟨rfl, rfl⟩ := y
  rw [rngL_get e]
  exact ⟨Same.refl _, .int _⟩
theorem ypair {G : ASet} {i : Nat} {fx fy : Nat → Option V} {x : V} {H2 : Hp} {d e : D} (hx : ∀ u, fx i = some u → Rep w K G H u d) (hy : ∀ u, fy i = some u → Rep w K G H u e) (y : YPair fx fy i H x H2) : Same H H2 ∧ Rep w K G H2 x (.tuple [d, e]) := by
  obtain ⟨T, u, v, rfl, hT, rfl, h1, h2⟩ := y
  obtain ⟨_, p⟩ := post_tup (w := w) (K := K) (G := G) hT (.cons (hx u h1) (.cons (hy v h2) .nil))
  exact ⟨same_upd hT, p⟩
theorem zipIdx_get {ds : List D} {i : Nat} {d : D} (h : (ds.zipIdx.map fun (x, i) => PyData.tuple [.int (i : Nat), x])[i]? = some d) : ∃ x, ds[i]? = some x ∧ d = .tuple [.int (i : Nat), x] := by
  rw [List.getElem?_map, List.getElem?_zipIdx] at h
  cases q : ds[i]? with
  | none => rw [q] at h; cases h
  | some x => rw [q] at h; exact ⟨x, rfl, by simpa using h.symm⟩
theorem walk_enumT {a : Addr} {xs : List V} : Walk (IteT K a) xs.length (fun H => SqT K H a xs) (YPair (fun i => some (.int (i : Nat))) (fun i => xs[i]?)) where
  goes := fun i H h g => ⟨xs, xs[i], g, by simp [h]⟩
  stops := fun H g => ⟨xs, g, Nat.le_refl _⟩
  yields := fun i H x H' h g y => by
    obtain ⟨T, u, e, n, e2, hq⟩ := y
    exact ⟨T, _, u, e, n, e2, rfl, hq xs g⟩
theorem wd_enum {G : ASet} {a : Addr} {vs : List V} {ds : List D} (n : ¬ G a) (h : Rd H a (.lst vs)) (r : RepL w K G H vs ds) : WalkD w K G H (Ite K a) (ds.zipIdx.map fun (x, i) => .tuple [.int (i : Nat), x]) := by
  refine ⟨_, _, (by rw [List.length_map, List.length_zipIdx, ← r.length]; exact walk_enum (K := K) (a := a) (xs := vs)), fun O H1 k s => sqL_of (rd_keep k (fun z => n (s a z (rd_some h))) h), fun O H1 G1 k s i d x H2 e y => ?_⟩
  obtain ⟨z, ez, rfl⟩ := zipIdx_get e
  refine ypair (fun u hu => by cases hu; exact .int _) (fun u hu => ?_) y
  obtain ⟨v, e1, r1⟩ := (keepRL k s r).get ez
  rw [hu] at e1; cases e1
  exact r1
theorem wd_enumT {G : ASet} {a : Addr} {vs : List V} {ds : List D} (h : SqT K H a vs) (r : RepL w K G H vs ds) : WalkD w K G H (IteT K a) (ds.zipIdx.map fun (x, i) => .tuple [.int (i : Nat), x]) := by
  refine ⟨_, _, (by rw [List.length_map, List.length_zipIdx, ← r.length]; exact walk_enumT (K := K) (a := a) (xs := vs)), fun O H1 k s => sqT_keep k h, fun O H1 G1 k s i d x H2 e y => ?_⟩
  obtain ⟨z, ez, rfl⟩ := zipIdx_get e
  refine ypair (fun u hu => by cases hu; exact .int _) (fun u hu => ?_) y
  obtain ⟨v, e1, r1⟩ := (keepRL k s r).get ez
  rw [hu] at e1; cases e1
  exact r1
theorem zip_get {xs ys : List D} {i : Nat} {d : D} (h : ((xs.zip ys).map fun (u, v) => PyData.tuple [u, v])[i]? = some d) : ∃ x y, xs[i]? = some x ∧ ys[i]? = some y ∧ d = .tuple [x, y] := by
  rw [List.getElem?_map] at h
  cases q : (xs.zip ys)[i]? with
  | none => rw [q] at h; cases h
  | some p =>
    rw [q] at h
    obtain ⟨a, b⟩ := List.getElem?_zip_eq_some.mp q
    exact ⟨p.1, p.2, a, b, by simpa using h.symm⟩
theorem wd_zip {G : ASet} {a b : Addr} {vs us : List V} {ds es : List D} (n : ¬ G a) (h : Rd H a (.lst vs)) (r : RepL w K G H vs ds) (n' : ¬ G b) (h' : Rd H b (.lst us)) (r' : RepL w K G H us es) : WalkD w K G H (Itz K a b) ((ds.zip es).map fun (x, y) => .tuple [x, y]) := by
  refine ⟨_, _, walk_zip (K := K) (a := a) (b := b) (xs := vs) (ys := us) (by rw [List.length_map, List.length_zip, r.length, r'.length]),
    fun O H1 k s => ⟨.inl (rd_keep k (fun z => n (s a z (rd_some h))) h), .inl (rd_keep k (fun z => n' (s b z (rd_some h'))) h')⟩, fun O H1 G1 k s i d x H2 e y => ?_⟩
  obtain ⟨z1, z2, e1, e2, rfl⟩ := zip_get e
  refine ypair (fun u hu => ?_) (fun u hu => ?_) y
  · obtain ⟨v, e3, r1⟩ := (keepRL k s r).get e1
    rw [hu] at e3; cases e3
    exact r1
  · obtain ⟨v, e3, r1⟩ := (keepRL k s r').get e2
    rw [hu] at e3; cases e3
    exact r1
theorem walk_zipT {a b : Addr} {xs ys : List V} {n : Nat} (hn : n = min xs.length ys.length) : Walk (RZ.ItzT K a b) n (fun H => SqT K H a xs ∧ SqT K H b ys) (YPair (fun i => xs[i]?) (fun i => ys[i]?)) where
  goes := fun i H h g => ⟨xs, ys, xs[i]'(by omega), ys[i]'(by omega), g.1, g.2, by simp, by simp⟩
  stops := fun H g => ⟨xs, ys, g.1, g.2, by omega⟩
  yields := fun i H x H' h g y => by
    obtain ⟨T, u, v, e, n, e2, h1, h2⟩ := y
    exact ⟨T, u, v, e, n, e2, h1 xs g.1, h2 ys g.2⟩
theorem wd_zipT {G : ASet} {a b : Addr} {vs us : List V} {ds es : List D} (h : SqT K H a vs) (r : RepL w K G H vs ds) (h' : SqT K H b us) (r' : RepL w K G H us es) : WalkD w K G H (RZ.ItzT K a b) ((ds.zip es).map fun (x, y) => .tuple [x, y]) := by
  refine ⟨_, _, walk_zipT (K := K) (a := a) (b := b) (xs := vs) (ys := us) (by rw [List.length_map, List.length_zip, r.length, r'.length]),
    fun O H1 k s => ⟨sqT_keep k h, sqT_keep k h'⟩, fun O H1 G1 k s i d x H2 e y => ?_⟩
  obtain ⟨z1, z2, e1, e2, rfl⟩ := zip_get e
  refine ypair (fun u hu => ?_) (fun u hu => ?_) y
  · obtain ⟨v, e3, r1⟩ := (keepRL k s r).get e1
    rw [hu] at e3; cases e3
    exact r1
  · obtain ⟨v, e3, r1⟩ := (keepRL k s r').get e2
    rw [hu] at e3; cases e3
    exact r1
end
end SP

/-! SpWd: a walk of a dict's keys. -/
namespace SP
open PySem PySem.W PyProof.Rows L2 PySem.SeqAt
/-- the walk: ks the keys, from the first one put in -/
def ItD (a : Addr) (o : Obj) (ks : List V) : It :=
  ⟨fun i H => H a = some (rawD a o) ∧ i < ks.length, fun i H v H' => H' = H ∧ ks[i]? = some v, fun i H => H a = some (rawD a o) ∧ ks.length ≤ i⟩
theorem turn_raw {P : Program} {w : World} {K : Frag} {tg : Expr} {a it : Addr} {o : Obj} {ks : List V} {xs : List DictEntry} {ep : Nat} (ex : o.ExactDict) (dd : o.data = .dict xs.toArray ep) (rv : Vals ks (xs.map (·.key))) :
    Turn P w K tg (ItD a o ks) [it] it (fun i h => h.IsKeyIter it a i xs.toArray.size ep) where
  mem := List.mem_singleton.mpr rfl
  obj := fun i h ⟨oi, e, _, q⟩ b hb => by
    rw [List.mem_singleton] at hb
    exact ⟨oi, hb ▸ e, fun v z => by rw [q] at z; cases z⟩
  keep := fun i h h' st k => st.at fun oi e => k it (List.mem_singleton.mpr rfl) oi e
  item := by
    intro X hP hw hK hc i pins s σ H E I hf st hg
    subst hP hw hK
    obtain ⟨hd, hi⟩ := hg
    obtain ⟨f0, f1, f2, f3, f4, f5⟩ := hf it (List.mem_singleton.mpr rfl)
    have hs : s.heap.DictRaw a xs.toArray ep := ⟨o, (I.hok a _ hd).1, ex, dd⟩
    have hl : ks.length = xs.length := by rw [rv.length, List.length_map]
    have hlt : i < xs.toArray.size := by simp; omega
    refine wpAny_pyNext_keys_item_raw st hs hlt fun h' st' sb => ?_
    have I1 : Inv X pins σ H { s with heap := h' } := I.turned (t' := s.toks) (fun b ob hb e => (sb.2 b hb).trans e) f0 f1 f3 f4 f5
    obtain ⟨u, hu, ru⟩ := rv.get (List.getElem?_eq_getElem hi)
    have eu : u = xs.toArray[i].key := by
      rw [List.getElem?_map] at hu
      have hx : i < xs.length := by omega
      rw [List.getElem?_eq_getElem hx] at hu
      exact (Option.some.inj hu).symm
    obtain ⟨oi, e, c, q⟩ := id st'
    exact ⟨_, rfl, go_of (s := { s with heap := h' }) e c q (by decide) ⟨ks[i], H, I1, eu ▸ ru, ⟨rfl, List.getElem?_eq_getElem hi⟩, st', fun b hb => (hf b hb).1⟩⟩
  done := by
    intro X hP hw hK hc i pins s σ H E I hf st hg
    subst hP hw hK
    obtain ⟨hd, hi⟩ := hg
    obtain ⟨f0, f1, f2, f3, f4, f5⟩ := hf it (List.mem_singleton.mpr rfl)
    have hs : s.heap.DictRaw a xs.toArray ep := ⟨o, (I.hok a _ hd).1, ex, dd⟩
    have hl : ks.length = xs.length := by rw [rv.length, List.length_map]
    exact wpAny_pyNext_keys_end_raw (I.ok.hd hc) st hs (by simp; omega) fun h' eb => ⟨rfl, I.turned (t' := s.toks) (fun b o hb e => eb b o hb e) f0 f1 f3 f4 f5⟩
  self := fun A i s Q E st h => wpAny_pyIter_keyiter st h
theorem walk_raw {a : Addr} {o : Obj} {ks : List V} : Walk (ItD a o ks) ks.length (fun H => H a = some (rawD a o)) (YAt ks) :=
  ⟨fun _ _ h g => ⟨g, h⟩, fun _ g => ⟨g, Nat.le_refl _⟩, fun _ _ _ _ _ _ y => y⟩
theorem wd_raw {w : World} {K : Frag} {G : ASet} {H : Hp} {a : Addr} {o : Obj} {ks : List V} {ds : List D} (n : ¬ G a) (h : H a = some (rawD a o)) (r : RepL w K G H ks ds) : WalkD w K G H (ItD a o ks) ds := by
  refine ⟨_, _, (by rw [← r.length]; exact walk_raw), fun O H1 k s => k.keep a _ h fun z => n (s a z (by rw [h]; simp)), fun O H1 G1 k s i d x H2 e y => ?_⟩
  obtain ⟨rfl, y⟩ := y
  obtain ⟨v, e1, r1⟩ := (keepRL k s r).get e
  rw [y] at e1; cases e1
  exact ⟨Same.refl _, r1⟩
end SP

/-! SpRv: t[::-1] of lists and tuples. -/
namespace SP
open PySem PySem.W PySem.Spec PyProof.Rows L2 HT
section
variable {prog : Program} {w : World} {A : Around} {E : Value → Shared → Prop} {s : Shared}
theorem rv_adjust (n : Nat) : Builtin.Slice.sliceAdjust none none (-1) (n : Int) = ((n : Int) - 1, -1) := rfl
theorem rv_places (n : Nat) : Builtin.Slice.slicePlaces ((n : Int) - 1) (-1) (-1) = n := by
  unfold Builtin.Slice.slicePlaces
  have h1 : ¬ ((-1 : Int) > 0) := by decide
  rw [if_neg h1]
  by_cases h : (n : Int) - 1 > -1
  · rw [if_pos h]
    have : ((n : Int) - 1 - -1 - 1) / (- -1) = (n : Int) - 1 := by
      rw [show (- -1 : Int) = 1 by decide, Int.ediv_one]; omega
    rw [this]; omega
  · rw [if_neg h]; omega
theorem fmap_congr {α β : Type} {f g : α → Option β} : ∀ {l : List α}, (∀ x ∈ l, f x = g x) → l.filterMap f = l.filterMap g
  | [], _ => rfl
  | x :: l, h => by
    rw [List.filterMap_cons, List.filterMap_cons, h x (List.mem_cons_self ..), fmap_congr fun y hy => h y (List.mem_cons_of_mem _ hy)]
theorem rv_pick (xs : Array Value) : ((List.range xs.size).filterMap fun (k : Nat) => xs[((xs.size : Int) - 1 + (k : Int) * (-1)).toNat]?).toArray = xs.toList.reverse.toArray := by
  have e : ∀ n, n = xs.size → (List.range n).filterMap (fun (k : Nat) => xs[((xs.size : Int) - 1 + (k : Int) * (-1)).toNat]?) = ((List.range n).map fun k => n - 1 - k).filterMap (xs[·]?) := by
    intro n hn
    rw [List.filterMap_map]
    refine fmap_congr fun k hk => ?_
    rw [List.mem_range] at hk
    show xs[((xs.size : Int) - 1 + (k : Int) * (-1)).toNat]? = xs[n - 1 - k]?
    congr 1
    omega
  rw [e _ rfl, krv_range, List.filterMap_reverse, krv_all]
theorem rv_applied {sl : Addr} {vl vu vs : Value} {n : Nat} {Q : Int × Int × Nat → Shared → Prop} (hs : s.heap.IsSliceOf sl vl vu vs) (pl : IsPart vl none) (pu : IsPart vu none) (ps : IsPart vs (some (-1)))
    (h : Q ((n : Int) - 1, -1, n) s) : wpAny (model prog w) A (Builtin.Slice.sliceApplied (.ref sl) (pure (n : Int))) Q E s := by
  obtain ⟨os, hos, hcs, hds⟩ := id hs
  unfold Builtin.Slice.sliceApplied Builtin.Slice.sliceFields
  refine wpAny_bind (wpAny_bind (wpAny_field hos hds (x := vl) rfl (wpAny_bind (wpAny_field hos hds (x := vu) rfl (wpAny_bind (wpAny_field hos hds (x := vs) rfl (wpAny_pure ?_)))))))
  refine wpAny_bind (slicePart_ ps ?_)
  show wpAny _ _ (if ((-1 : Int) == 0) = true then _ else _) _ _ s
  rw [if_neg (by decide)]
  refine wpAny_bind (slicePart_ pl (wpAny_bind (slicePart_ pu (wpAny_bind (wpAny_pure ?_)))))
  show wpAny _ _ (match Builtin.Slice.sliceAdjust none none (-1) (n : Int) with | (lo, hi) => pure (lo, (-1 : Int), Builtin.Slice.slicePlaces lo hi (-1))) _ _ s
  rw [rv_adjust]
  show wpAny _ _ (pure ((n : Int) - 1, (-1 : Int), Builtin.Slice.slicePlaces ((n : Int) - 1) (-1) (-1))) _ _ s
  rw [rv_places]
  exact wpAny_pure h
theorem getItem_tuple_rev {t sl : Addr} {items : Array Value} {vl vu vs : Value} {Q : Value → Shared → Prop} (ht : IsTup s.heap t items) (hs : s.heap.IsSliceOf sl vl vu vs) (pl : IsPart vl none) (pu : IsPart vu none) (ps : IsPart vs (some (-1)))
    (h : Q (.ref s.heap.objs.size) { s with heap := s.heap.push { cls := .type "tuple", data := .seq items.toList.reverse.toArray } })
    (hsz : items.size ≤ sizeLine) : wpAny (model prog w) A (getItem (.ref t) (.ref sl)) Q E s := by
  have htake : sizeOk (.seq items.toList.reverse.toArray) := by
    show items.toList.reverse.toArray.size ≤ sizeLine
    rw [List.size_toArray, List.length_reverse, Array.length_toList]
    exact hsz
  obtain ⟨os, hos, hcs, hds⟩ := id hs
  have hTs : s.TypeIs (.ref sl) "slice" := ⟨os, hos, hcs⟩
  unfold getItem
  try with_reducible refine wpAny_holding ?_
  first | refine wpAny_bind (wpAny_pure ?_) | skip
  refine wpAny_bind (wpAny_sequenceKey ht.typeIs (by decide) ?_)
  refine wpAny_bind (wpAny_callSpecial?_slot (name := Str.ofString "__getitem__") ht.typeIs PyProof.Rows.slot_tuple_getitem
    (wpAny_call_entry PyProof.Rows.slot_tuple_getitem ht.typeIs entry_tuple_getitem ?_ (args_tuple_getitem _ _)))
  show wpAny _ _ (Builtin.Tuple.tupleItemsOf (.ref t) >>= _) _ _ s
  refine wpAny_bind (tupleItemsOf_ ht ?_)
  refine wpAny_bind (wpAny_typeOf hTs ?_)
  rw [if_pos (by decide)]
  refine wpAny_bind (rv_applied hs pl pu ps ?_)
  have hno : ¬ ((((items.size : Int) - 1) == 0 && (-1 : Int) == 1 && items.size == items.size) = true) := by
    intro q
    rw [Bool.and_eq_true, Bool.and_eq_true] at q
    exact absurd (eq_of_beq q.1.2) (by decide)
  show wpAny _ _ (if (((items.size : Int) - 1) == 0 && (-1 : Int) == 1 && items.size == items.size) = true then _ else _) _ _ s
  rw [if_neg hno, rv_pick]
  first
    | exact wpAny_bind (m := Builtin.Tuple.tupleExact _) (wpAny_newObj_type (wpAny_pure ⟨_, rfl, wpAny_pure h⟩) htake)
    | exact wpAny_bind (m := Builtin.Tuple.tupleExact _) (wpAny_newObj_type (wpAny_bind (wpAny_pure (wpAny_pure ⟨_, rfl, wpAny_pure h⟩))) htake)
    | exact wpAny_bind (wpAny_bind (m := Builtin.Tuple.tupleExact _) (wpAny_newObj_type (wpAny_pure (wpAny_pure ⟨_, rfl, wpAny_pure h⟩)) htake))
    | exact wpAny_bind (wpAny_bind (m := Builtin.Tuple.tupleExact _) (wpAny_newObj_type (wpAny_pure ⟨_, rfl, wpAny_pure h⟩) htake))
end
def tRevB (K : PySem.W.Frag) (te : TE) : TE := fun σ H Q => te σ H fun x H1 => ∃ a xs, x = .ref a ∧ ((SqL K H1 a xs ∧ ∀ p, H1 p = none → Q (.ref p) (upd H1 p (.lst xs.reverse))) ∨ (SqT K H1 a xs ∧ ∀ p, H1 p = none → Q (.ref p) (upd H1 p (.tup xs.reverse))))
theorem pe_revB {X : Cx} {e : Expr} {te : TE} {k : Nat} {p1 p2 p3 pos : Pos} (he : PE X e te) : PE X (.Subscript e (.Slice none none (some (.UnaryOp .USub (.Constant (.int 1) k p1) p2)) p3) pos) (tRevB X.K te) := by
  refine ⟨fun pins s σ H Q I h => ?_⟩
  refine Subscript_ (thn (he.run pins s σ H _ I h) fun v s1 ⟨x, H1, I1, r1, q1⟩ => ?_)
  obtain ⟨a, xs, ex, hx⟩ := q1
  subst ex
  cases r1
  have hst : PO X (some (.UnaryOp .USub (.Constant (.int 1) k p1) p2)) (tPart (tUn (rU fun i => .int (-i)) (tC (.int 1)))) := po_some (pe_un un_neg pe_int)
  refine wpAny_Slice (thn (po_none.run pins s1 σ H1 (fun o H2 => o = none ∧ H2 = H1) I1 ⟨rfl, rfl⟩) fun vl s2 ⟨l, H2, I2, pl, el, e2⟩ => ?_)
  subst el e2
  refine thn (po_none.run pins s2 σ H2 (fun o H3 => o = none ∧ H3 = H2) I2 ⟨rfl, rfl⟩) fun vu s3 ⟨u, H3, I3, pu, eu, e3⟩ => ?_
  subst eu e3
  refine thn (hst.run pins s3 σ H3 (fun o H4 => o = some (-1) ∧ H4 = H3) I3 ⟨1, rfl, -1, rfl, rfl, rfl⟩) fun vs s4 ⟨o, H4, I4, ps, eo, e4⟩ => ?_
  subst eo e4
  have I5 : Inv X pins σ H4 { s4 with heap := s4.heap.push { cls := .type "slice", data := .fields #[vl, vu, vs] } } := I4.kept (t' := s4.toks) fun b ob q => Heap.get?_push_of_some _ q
  show wpAny (model X.prog X.w) X.A (subscriptTail e (.Slice none none (some (.UnaryOp .USub (.Constant (.int 1) k p1) p2)) p3) (.ref a) (.ref s4.heap.objs.size)) (EP X pins σ Q) X.xe { s4 with heap := s4.heap.push { cls := .type "slice", data := .fields #[vl, vu, vs] } }
  rcases hx with ⟨hx, q⟩ | ⟨hx, q⟩
  · obtain ⟨its, r, ht, hz⟩ := I5.list hx
    have hlen := r.length
    refine tail_any (ops := [.ref a, .ref s4.heap.objs.size]) ht.isList.typeIs (PySem.slot_list_getitem.lookup) ?_ (by with_unfolding_all rfl)
    refine wpAny_getItem_list_slice ht.isList (Heap.IsSliceOf.new _ vl vu vs) pl pu ps (by decide) ?_ (by rw [List.size_toArray]; omega)
    rw [PySem.W.krv_pick]
    refine ⟨.ref _, _, I5.laid (t' := s4.toks) (o := .lst xs.reverse) (fun b ob q => Heap.get?_push_of_some _ q) (Nat.le_refl _) ?_, rfl, q _ (I5.hok.fresh (Nat.le_refl _))⟩
    exact ⟨by rw [List.length_reverse]; exact hz, _, 0, r.reverse, Heap.get?_push_size _ rfl⟩
  · obtain ⟨its, r, ht, hz⟩ := I5.tuple hx
    have hlen := r.length
    refine tail_any (ops := [.ref a, .ref s4.heap.objs.size]) ht.typeIs (PyProof.Rows.slot_tuple_getitem.lookup) ?_ (by with_unfolding_all rfl)
    refine getItem_tuple_rev ht (Heap.IsSliceOf.new _ vl vu vs) pl pu ps ?_ (by rw [List.size_toArray]; omega)
    refine ⟨.ref _, _, I5.laid (t' := s4.toks) (o := .tup xs.reverse) (fun b ob q => Heap.get?_push_of_some _ q) (Nat.le_refl _) ?_, rfl, q _ (I5.hok.fresh (Nat.le_refl _))⟩
    exact ⟨by rw [List.length_reverse]; exact hz, _, r.reverse, ⟨_, Heap.get?_push_size _ rfl, rfl, 0, rfl⟩⟩
end SP

/-! SpX: rows of expressions, displays, built-ins, subscripts, what is walked. -/
namespace SP
open PySem PySem.W PyProof.Rows L2 PySem.SeqAt

/-! ### no star -/
def nst : Expr → Bool
  | .Starred .. => false
  | _ => true
theorem starEach_cons {e : Expr} {es : List Expr} {env : PySem.Env} (h : nst e = true) : starEach (e :: es) env = (false, eval e env) :: starEach es env := by
  cases e <;> first | rfl | cases h
theorem backTo_any {es : List Expr} {env : PySem.Env} {pos : Pos} (h : es.all nst = true) : (backTo pos (starEach es env)).any (·.1) = false := by
  induction es with
  | nil => rfl
  | cons e es ih =>
    simp only [List.all_cons, Bool.and_eq_true] at h
    rw [starEach_cons h.1]
    have := ih h.2
    simpa [backTo] using this

section
variable {X : Cx}
/-! ### rows -/
theorem es_nil : PA X [] (tEs X fun ρ => some ([], ρ)) := PAimp pa_nil fun σ H Q h => by
  obtain ⟨F0, ρ, rs, ρ', S, ev, q⟩ := h
  cases ev
  exact q [] H F0 (.refl S) .nil
theorem es_cons {e : Expr} {es : List Expr} {f : Env → Option (R × Env)} {g : Env → Option (List R × Env)} (he : PE X e (tE X f)) (hs : PA X es (tEs X g)) (n : nst e = true) :
    PA X (e :: es) (tEs X fun ρ => (f ρ).bind fun (r, ρ1) => (g ρ1).map fun (rs, ρ2) => (r :: rs, ρ2)) := by
  refine PAimp (pa_cons he hs (starEach_cons n)) fun σ H Q h => ?_
  obtain ⟨F0, ρ, rs, ρ', S, ev, q⟩ := h
  obtain ⟨⟨r1, ρ1⟩, e1, ev⟩ := Option.bind_eq_some_iff.mp ev
  obtain ⟨⟨r2, ρ2⟩, e2, ev⟩ := Option.map_eq_some_iff.mp ev
  cases ev
  exact ⟨F0, ρ, r1, ρ1, S, e1, fun v1 H1 F1 p1 => ⟨F1, ρ1, r2, _, p1.st.sr, e2, fun vs H2 F2 p2 t2 => q _ H2 F2 (p1.st.trans p2) (.cons (p2.tmp p1.st.sr p1.tmp) t2)⟩⟩
theorem x_nil : PA X [] (tX X fun ρ => some ([], ρ)) := PAimp pa_nil fun σ H Q h => by
  obtain ⟨F0, ρ, rs, ρ', S, ev, q⟩ := h
  cases ev
  exact q [] H F0 (.refl S) .nil
theorem x_cons {e : Expr} {es : List Expr} {f : Env → Option (R × Env)} {g : Env → Option (List D × Env)} (he : PE X e (tE X f)) (hs : PA X es (tX X g)) (n : nst e = true) :
    PA X (e :: es) (tX X fun ρ => (f ρ).bind fun p => (esc p).bind fun (d, ρ1) => (g ρ1).map fun (ds, ρ2) => (d :: ds, ρ2)) := by
  refine PAimp (pa_cons he hs (starEach_cons n)) fun σ H Q h => ?_
  obtain ⟨F0, ρ, rs, ρ', S, ev, q⟩ := h
  obtain ⟨⟨r1, ρ1⟩, e1, ev⟩ := Option.bind_eq_some_iff.mp ev
  obtain ⟨⟨d, ρ2⟩, e2, ev⟩ := Option.bind_eq_some_iff.mp ev
  obtain ⟨⟨ds, ρ3⟩, e3, ev⟩ := Option.map_eq_some_iff.mp ev
  cases ev
  refine ⟨F0, ρ, r1, ρ1, S, e1, fun v1 H1 F1 p1 => ?_⟩
  obtain ⟨p, r⟩ := p1.esc S e2
  exact ⟨_, ρ2, ds, _, p.sr, e3, fun vs H2 F2 p2 t2 => q _ H2 F2 (p.trans p2) (.cons (p2.rep r) t2)⟩
/-- arguments -/
inductive ATmps (w : World) (K : Frag) (F : ASet) (ρ : Env) (σ : L2.St) (H0 H : Hp) : List V → List Arg → Prop
  | nil : ATmps w K F ρ σ H0 H [] []
  | val {v : V} {r : R} {vs : List V} {as : List Arg} : Tmp w K F ρ σ H v r → (∀ m, r = .new m → ∃ a, v = .ref a ∧ H0 a = none) → ATmps w K F ρ σ H0 H vs as → ATmps w K F ρ σ H0 H (v :: vs) (.val r :: as)
  | ref {v : V} {i : Nat} {vs : List V} {as : List Arg} : σ[i]? = some (some v) → ATmps w K F ρ σ H0 H vs as → ATmps w K F ρ σ H0 H (v :: vs) (.ref i :: as)
theorem ATmps.weak {w : World} {K : Frag} {F : ASet} {ρ : Env} {σ : L2.St} {H0 H1 H : Hp} {vs : List V} {as : List Arg} (k : ∀ a, H0 a = none → H1 a = none) (t : ATmps w K F ρ σ H0 H vs as) : ATmps w K F ρ σ H1 H vs as := by
  induction t with
  | nil => exact .nil
  | val a b _ ih => exact .val a (fun m e => let ⟨c, e1, e2⟩ := b m e; ⟨c, e1, k c e2⟩) ih
  | ref a _ ih => exact .ref a ih
def tA (X : Cx) (f : Env → Option (List Arg × Env)) : TA := fun σ H Q => ∃ F0 ρ as ρ', SR X.w X.K F0 ρ σ H ∧ f ρ = some (as, ρ') ∧ ∀ vs H' F', EStep X.w X.K σ F0 ρ H F' ρ' H' → ATmps X.w X.K F' ρ' σ H H' vs as → Q vs H'
theorem EStep.none {w : World} {K : Frag} {σ : L2.St} {F F' : ASet} {ρ ρ' : Env} {H H' : Hp} (b : EStep w K σ F ρ H F' ρ' H') {a : Addr} (h : H' a = none) : H a = none := by
  cases q : H a with
  | none => rfl
  | some o => exact absurd h (b.keep.there a (by rw [q]; simp))
theorem a_nil : PA X [] (tA X fun ρ => some ([], ρ)) := PAimp pa_nil fun σ H Q h => by
  obtain ⟨F0, ρ, rs, ρ', S, ev, q⟩ := h
  cases ev
  exact q [] H F0 (.refl S) .nil
theorem a_cons {e : Expr} {es : List Expr} {f : Env → Option (R × Env)} {g : Env → Option (List Arg × Env)} (he : PE X e (tE X f)) (hs : PA X es (tA X g)) (n : nst e = true) :
    PA X (e :: es) (tA X fun ρ => (f ρ).bind fun (r, ρ1) => (g ρ1).map fun (rs, ρ2) => (.val r :: rs, ρ2)) := by
  refine PAimp (pa_cons he hs (starEach_cons n)) fun σ H Q h => ?_
  obtain ⟨F0, ρ, rs, ρ', S, ev, q⟩ := h
  obtain ⟨⟨r1, ρ1⟩, e1, ev⟩ := Option.bind_eq_some_iff.mp ev
  obtain ⟨⟨r2, ρ2⟩, e2, ev⟩ := Option.map_eq_some_iff.mp ev
  cases ev
  refine ⟨F0, ρ, r1, ρ1, S, e1, fun v1 H1 F1 p1 => ⟨F1, ρ1, r2, _, p1.st.sr, e2, fun vs H2 F2 p2 t2 => q _ H2 F2 (p1.st.trans p2) (.val (p2.tmp p1.st.sr p1.tmp) p1.fresh (t2.weak fun a h => p1.st.none h))⟩⟩
theorem a_ref {i : Nat} {x : Str} {pos : Pos} {es : List Expr} {g : Env → Option (List Arg × Env)} (hN : X.N[i]? = some x) (hv : Vis X.env.scope x) (hd : (x == ("__debug__" : Str)) = false) (hcd : (x == ("__classdict__" : Str)) = false)
    (hs : PA X es (tA X g)) : PA X (.Name x pos :: es) (tA X fun ρ => if isOwn (slot ρ i) = true then (g ρ).map fun (rs, ρ2) => (.ref i :: rs, ρ2) else none) := by
  refine PAimp (pa_cons (pe_var (i := i) hN hv hd hcd) hs (starEach_cons rfl)) fun σ H Q h => ?_
  obtain ⟨F0, ρ, rs, ρ', S, ev, q⟩ := h
  dsimp only at ev
  split at ev
  · rename_i ho
    obtain ⟨⟨r2, ρ2⟩, e2, ev⟩ := Option.map_eq_some_iff.mp ev
    cases ev
    cases hsl : slot ρ i with
    | none => rw [hsl] at ho; cases ho
    | some s =>
      cases s with
      | dat d => rw [hsl] at ho; cases ho
      | own m =>
        obtain ⟨a, e, _, _⟩ := S.own i m hsl
        exact ⟨_, e, F0, ρ, r2, _, S, e2, fun vs H2 F2 p2 t2 => q _ H2 F2 p2 (.ref e t2)⟩
  · cases ev

/-! ### displays -/
theorem e_tup {es : List Expr} {k : Nat} {pos : Pos} {f : Env → Option (List D × Env)} (h : PA X es (tX X f)) :
    PE X (.Tuple es k pos) (tE X fun ρ => (f ρ).bind fun (ds, ρ1) => if ds.length ≤ szMax then some (.dat (.tuple ds), ρ1) else none) := by
  refine PEimp (pe_tup h) fun σ H Q hq => ?_
  obtain ⟨F0, ρ, rs, ρ', S, ev, q⟩ := hq
  obtain ⟨⟨ds, ρ1⟩, e1, ev⟩ := Option.bind_eq_some_iff.mp ev
  dsimp only at ev
  split at ev
  · rename_i hl
    cases ev
    refine ⟨F0, ρ, ds, _, S, e1, fun vs H1 F1 p t => ⟨?_, fun p' hp => ?_⟩⟩
    · rw [t.length]; exact Nat.le_trans hl szLine
    · obtain ⟨F3, P⟩ := EPost.op (s := .dat (.tuple ds)) p (post_tup hp t)
      exact q _ _ F3 P
  · cases ev
theorem e_lst {es : List Expr} {pos : Pos} {f : Env → Option (List D × Env)} (h : PA X es (tX X f)) :
    PE X (.List es pos) (tE X fun ρ => (f ρ).bind fun (ds, ρ1) => if ds.length ≤ szMax then some (.new (.lst ds), ρ1) else none) := by
  refine PEimp (pe_lst h) fun σ H Q hq => ?_
  obtain ⟨F0, ρ, rs, ρ', S, ev, q⟩ := hq
  obtain ⟨⟨ds, ρ1⟩, e1, ev⟩ := Option.bind_eq_some_iff.mp ev
  dsimp only at ev
  split at ev
  · rename_i hl
    cases ev
    refine ⟨F0, ρ, ds, _, S, e1, fun vs H1 F1 p t => ⟨?_, fun p' hp => ?_⟩⟩
    · rw [t.length]; exact Nat.le_trans hl szLine
    · obtain ⟨F3, P⟩ := EPost.op (s := .own (.lst ds)) p (post_lst hp t)
      exact q _ _ F3 P
  · cases ev

/-! ### built-ins -/
theorem blt_go {b : Blt} {f : Env → Option (List R × Env)} {σ : L2.St} {H : Hp} {Q : VK}
    (h : tE X (fun ρ => (f ρ).bind fun (rs, ρ1) => (ress ρ1 rs).bind fun ds => (bltD b ds).map fun s => (s.res, ρ1)) σ H Q) : tCB (rBlt X.w X.K b) (tEs X f) σ H Q := by
  obtain ⟨F0, ρ, r, ρ', S, ev, q⟩ := h
  obtain ⟨⟨rs, ρ1⟩, e1, ev⟩ := Option.bind_eq_some_iff.mp ev
  obtain ⟨ds, e2, ev⟩ := Option.bind_eq_some_iff.mp ev
  obtain ⟨s, e3, ev⟩ := Option.map_eq_some_iff.mp ev
  cases ev
  refine ⟨F0, ρ, rs, _, S, e1, fun vs H1 F1 p t => ⟨_, ds, s, t.topL p.sr e2, e3, fun v H2 po => ?_⟩⟩
  obtain ⟨F3, P⟩ := EPost.op p po
  exact q _ _ F3 P
theorem e_callB {b : Blt} {id : String} {x : Str} {e : Expr} {es : List Expr} {p pos : Pos} {f : Env → Option (List R × Env)} (hc : CallR X (.builtin id) (rBlt X.w X.K b)) (hg : Gl X x) (hm : X.mg x = none) (hv : bootBuiltins x = some (.builtin id))
    (hn : x ≠ "__name__") (hd : (x == ("__debug__" : Str)) = false) (n : (e :: es).all nst = true) (ha : PA X (e :: es) (tEs X f)) :
    PE X (.Call (.Name x p) (e :: es) [] pos) (tE X fun ρ => (f ρ).bind fun (rs, ρ1) => (ress ρ1 rs).bind fun ds => (bltD b ds).map fun s => (s.res, ρ1)) := by
  simp only [List.all_cons, Bool.and_eq_true] at n
  exact PEimp (pe_callB hc hg hm hv ha hn hd (starEach_cons n.1) (backTo_any n.2)) fun σ H Q h => blt_go h
theorem e_callTy {b : Blt} {id : String} {x : Str} {e : Expr} {es : List Expr} {p pos : Pos} {f : Env → Option (List R × Env)} (hc : CallR X (.type id) (rBlt X.w X.K b)) (hg : Gl X x) (hm : X.mg x = none) (hv : bootBuiltins x = some (.type id))
    (hn : x ≠ "__name__") (hd : (x == ("__debug__" : Str)) = false) (n : (e :: es).all nst = true) (ha : PA X (e :: es) (tEs X f)) :
    PE X (.Call (.Name x p) (e :: es) [] pos) (tE X fun ρ => (f ρ).bind fun (rs, ρ1) => (ress ρ1 rs).bind fun ds => (bltD b ds).map fun s => (s.res, ρ1)) := by
  simp only [List.all_cons, Bool.and_eq_true] at n
  exact PEimp (pe_callTy hc hg hm hv ha hn hd (starEach_cons n.1) (backTo_any n.2)) fun σ H Q h => blt_go h
def Blt.nm : Blt → Str
  | .len => "len"
  | .int => "int"
  | .repr => "repr"
  | .tuple => "tuple"
  | .list => "list"
  | .sorted => "sorted"
  | .min => "min"
  | .max => "max"
  | .sum => "sum"
  | .all => "all"
  | .any => "any"
  | .dict => "dict"
  | .sortedSet => "set"
  | .lenSet => "set"
/-- the built-ins that are called as they stand -/
def Blt.ok : Blt → Bool
  | .sortedSet | .lenSet | .dict => false
  | _ => true
theorem e_blt (c : Ctx X) {b : Blt} {x : Str} {e : Expr} {es : List Expr} {p pos : Pos} {f : Env → Option (List R × Env)} (hb : b.ok = true) (hx : x = b.nm) (hg : Gl X x) (hm : X.mg x = none)
    (n : (e :: es).all nst = true) (ha : PA X (e :: es) (tEs X f)) :
    PE X (.Call (.Name x p) (e :: es) [] pos) (tE X fun ρ => (f ρ).bind fun (rs, ρ1) => (ress ρ1 rs).bind fun ds => (bltD b ds).map fun s => (s.res, ρ1)) := by
  subst hx
  cases b with
  | len => exact e_callB (cr_len c) hg hm boot_len (by decide) (by decide) n ha
  | int => exact e_callTy cr_int hg hm boot_int (by decide) (by decide) n ha
  | repr => exact e_callB (cr_repr c) hg hm boot_repr (by decide) (by decide) n ha
  | tuple => exact e_callTy cr_tuple hg hm boot_tuple (by decide) (by decide) n ha
  | list => exact e_callTy (cr_list c) hg hm boot_list (by decide) (by decide) n ha
  | sorted => exact e_callB (cr_sorted c) hg hm boot_sorted (by decide) (by decide) n ha
  | min => exact e_callB (cr_min c) hg hm boot_min (by decide) (by decide) n ha
  | max => exact e_callB (cr_max c) hg hm boot_max (by decide) (by decide) n ha
  | sum => exact e_callB (cr_sum c) hg hm boot_sum (by decide) (by decide) n ha
  | all => exact e_callB (cr_all c) hg hm boot_all (by decide) (by decide) n ha
  | any => exact e_callB (cr_any c) hg hm boot_any (by decide) (by decide) n ha
  | _ => cases hb
/-! ### isinstance -/
def Ty.nm : Ty → Str
  | .int => "int"
  | .bool => "bool"
  | .str => "str"
  | .tuple => "tuple"
  | .list => "list"
  | .dict => "dict"
theorem e_tyname {t : Ty} {x : Str} {pos : Pos} (hx : x = t.nm) (hg : Gl X x) (hm : X.mg x = none) : PE X (.Name x pos) (tC (.ty t.name)) := by
  subst hx
  cases t with
  | int => exact pe_bltn hg hm boot_int rfl (by decide) (by decide)
  | bool => exact pe_bltn hg hm boot_bool rfl (by decide) (by decide)
  | str => exact pe_bltn hg hm boot_str rfl (by decide) (by decide)
  | tuple => exact pe_bltn hg hm boot_tuple rfl (by decide) (by decide)
  | list => exact pe_bltn hg hm boot_list rfl (by decide) (by decide)
  | dict => exact pe_bltn hg hm boot_dict rfl (by decide) (by decide)
def tyNames (sc : List (Str × NameKind)) : List Ty → List Expr → Bool
  | [], [] => true
  | t :: ts, .Name x _ :: es => x == t.nm && sc.lookup x == some .globalImplicit && tyNames sc ts es
  | _, _ => false
def tVals (vs : List V) : TA := fun _ H Q => Q vs H
theorem gl_of {x : Str} (h : X.env.scope.names.lookup x = some .globalImplicit) : Gl X x := h
theorem tys_pa : ∀ {ts : List Ty} {es : List Expr}, tyNames X.env.scope.names ts es = true → (∀ t : Ty, X.mg t.nm = none) → PA X es (tVals (ts.map fun t => .ty t.name))
  | [], [], _, _ => pa_nil
  | t :: ts, .Name x p :: es, h, hm => by
    simp only [tyNames, Bool.and_eq_true, beq_iff_eq] at h
    have a := e_tyname (X := X) (pos := p) h.1.1 (gl_of h.1.2) (by rw [h.1.1]; exact hm t)
    exact PAimp (pa_cons a (tys_pa h.2 hm) (starEach_cons rfl)) fun σ H Q q => q
  | [], _ :: _, h, _ => by cases h
  | _ :: _, [], h, _ => by cases h
theorem EStep.same {w : World} {K : Frag} {σ : L2.St} {F : ASet} {ρ : Env} {H H' : Hp} (S : SR w K F ρ σ H) (k : Same H H') : EStep w K σ F ρ H F ρ H' :=
  ⟨fun _ z => z, fun _ z => .inl z, S.same k, Keep.of_same k, fun _ z => z⟩
def fIsi (tys : List Ty) (f : Env → Option (R × Env)) : Env → Option (R × Env) := fun ρ => (f ρ).bind fun (r, ρ1) => (res ρ1 r).map fun x => (.dat (.bool (tys.any (isTy x))), ρ1)
theorem e_isi1 {t : Ty} {y : Str} {p py pos : Pos} {e : Expr} {f : Env → Option (R × Env)} (hg : Gl X "isinstance") (hm : X.mg "isinstance" = none) (he : PE X e (tE X f)) (n : nst e = true) (hy : y = t.nm) (hgy : Gl X y) (hmy : X.mg y = none) :
    PE X (.Call (.Name "isinstance" p) [e, .Name y py] [] pos) (tE X (fIsi [t] f)) := by
  refine PEimp (pe_callB (call_isa false [t]) hg hm boot_isinstance (pa_cons he (pa_cons (e_tyname hy hgy hmy) pa_nil (starEach_cons rfl)) (starEach_cons n)) (by decide) (by decide) (starEach_cons n) (backTo_any rfl)) fun σ H Q hq => ?_
  obtain ⟨F0, ρ, r, ρ', S, ev, q⟩ := hq
  obtain ⟨⟨r1, ρ1⟩, e1, ev⟩ := Option.bind_eq_some_iff.mp ev
  obtain ⟨x, e2, ev⟩ := Option.map_eq_some_iff.mp ev
  cases ev
  refine ⟨F0, ρ, r1, _, S, e1, fun v1 H1 F1 p1 => ?_⟩
  exact ⟨_, v1, _, x, rfl, p1.tmp.top p1.st.sr e2, ⟨t, rfl, rfl⟩, q _ H1 F1 (.dat p1.st (.bl _))⟩
theorem e_isiN {ts : List Ty} {k : Nat} {p pt pos : Pos} {e : Expr} {es : List Expr} {f : Env → Option (R × Env)} (hg : Gl X "isinstance") (hm : X.mg "isinstance" = none) (he : PE X e (tE X f)) (n : nst e = true)
    (ht : tyNames X.env.scope.names ts es = true) (hmy : ∀ t : Ty, X.mg t.nm = none) (hl : ts.length ≤ 6) :
    PE X (.Call (.Name "isinstance" p) [e, .Tuple es k pt] [] pos) (tE X (fIsi ts f)) := by
  refine PEimp (pe_callB (call_isa true ts) hg hm boot_isinstance (pa_cons he (pa_cons (pe_tup (tys_pa ht hmy)) pa_nil (starEach_cons rfl)) (starEach_cons n)) (by decide) (by decide) (starEach_cons n) (backTo_any rfl)) fun σ H Q hq => ?_
  obtain ⟨F0, ρ, r, ρ', S, ev, q⟩ := hq
  obtain ⟨⟨r1, ρ1⟩, e1, ev⟩ := Option.bind_eq_some_iff.mp ev
  obtain ⟨x, e2, ev⟩ := Option.map_eq_some_iff.mp ev
  cases ev
  refine ⟨F0, ρ, r1, _, S, e1, fun v1 H1 F1 p1 => ⟨?_, fun a ha => ?_⟩⟩
  · rw [List.length_map]; exact Nat.le_trans hl (by decide)
  · have st := EStep.same p1.st.sr (same_upd (o := .tup (ts.map fun t => V.ty t.name)) ha)
    exact ⟨_, v1, _, x, rfl, (st.tmp p1.st.sr p1.tmp).top st.sr e2, ⟨a, rfl, upd_same⟩, q _ _ F1 (.dat (p1.st.trans st) (.bl _))⟩
/-! ### list(range(..)), tuple(range(..)) -/
theorem rngL_rep {w : World} {K : Frag} {G : ASet} {H : Hp} (a b : Int) : RepL w K G H (rgV a b) (rngL a b) := by
  unfold rgV rngL
  generalize (List.range (b - a).toNat) = l
  induction l with
  | nil => exact .nil
  | cons i r ih => exact .cons (.int _) ih
theorem okRng_of {i j : Int} (h : okRng i j = true) : -(2 ^ 62) ≤ i ∧ i < 2 ^ 62 ∧ -(2 ^ 62) ≤ j ∧ j < 2 ^ 62 := by
  simp only [okRng, Bool.and_eq_true, decide_eq_true_eq] at h
  exact ⟨h.1.1.1, h.1.1.2, h.1.2, h.2⟩
theorem rgOk_of {i j : Int} (h : okRng i j = true) (h2 : j - i ≤ szMax) : RgOk i j := by
  obtain ⟨a, b, c, d⟩ := okRng_of h
  refine ⟨a, b, c, d, ?_⟩
  have : (szMax : Int) = 1000000 := rfl
  omega
theorem int_of {F : ASet} {ρ : Env} {σ : L2.St} {H : Hp} {v : V} {r : R} {x : D} {k : Int} (S : SR X.w X.K F ρ σ H) (t : Tmp X.w X.K F ρ σ H v r) (ex : res ρ r = some x) (ek : intOf x = some k) : v = .int k := by
  have t := t.top S ex
  cases x with
  | int b => cases ek; exact t.int_inv
  | _ => cases ek
def fRng (tup : Bool) (f g : Env → Option (R × Env)) : Env → Option (R × Env) := fun ρ => (f ρ).bind fun (r, ρ1) => (g ρ1).bind fun (q, ρ2) =>
  (res ρ2 r).bind fun x => (res ρ2 q).bind fun y => (intOf x).bind fun i => (intOf y).bind fun j =>
    if okRng i j ∧ j - i ≤ szMax then some (if tup then .dat (.tuple (rngL i j)) else .new (.lst (rngL i j)), ρ2) else none
theorem fRng_inv {tup : Bool} {f g : Env → Option (R × Env)} {ρ ρ2 : Env} {r : R} (h : fRng tup f g ρ = some (r, ρ2)) : ∃ r1 ρ1 r2 x y i j, f ρ = some (r1, ρ1) ∧ g ρ1 = some (r2, ρ2) ∧ res ρ2 r1 = some x ∧ res ρ2 r2 = some y ∧
    intOf x = some i ∧ intOf y = some j ∧ okRng i j = true ∧ j - i ≤ szMax ∧ r = if tup then .dat (.tuple (rngL i j)) else .new (.lst (rngL i j)) := by
  obtain ⟨⟨r1, ρ1⟩, e1, ev⟩ := Option.bind_eq_some_iff.mp h
  obtain ⟨⟨r2, ρ3⟩, e2, ev⟩ := Option.bind_eq_some_iff.mp ev
  obtain ⟨x, ex, ev⟩ := Option.bind_eq_some_iff.mp ev
  obtain ⟨y, ey, ev⟩ := Option.bind_eq_some_iff.mp ev
  obtain ⟨i, ei, ev⟩ := Option.bind_eq_some_iff.mp ev
  obtain ⟨j, ej, ev⟩ := Option.bind_eq_some_iff.mp ev
  split at ev
  · rename_i hk
    cases ev
    exact ⟨r1, ρ1, r2, x, y, i, j, e1, e2, ex, ey, ei, ej, hk.1, hk.2, rfl⟩
  · cases ev
theorem rg_fin {F1 F2 : ASet} {F0 : ASet} {σ : L2.St} {ρ ρ1 ρ2 : Env} {H H1 H2 : Hp} {Q : VK} {r : R} {tup : Bool} {i j : Int} {p : Addr} (st : EStep X.w X.K σ F0 ρ H F2 ρ2 H2) (hp : H2 p = none)
    (hr : r = if tup then .dat (.tuple (rngL i j)) else .new (.lst (rngL i j))) (q : ∀ v H' F', EPost X.w X.K σ F0 ρ H r ρ2 v H' F' → Q v H') : Q (.ref p) (upd H2 p (if tup then .tup (rgV i j) else .lst (rgV i j))) := by
  subst hr
  cases tup with
  | true =>
    obtain ⟨F3, P⟩ := EPost.op (s := .dat (.tuple (rngL i j))) st (post_tup hp (rngL_rep i j))
    exact q _ _ F3 P
  | false =>
    obtain ⟨F3, P⟩ := EPost.op (s := .own (.lst (rngL i j))) st (post_lst hp (rngL_rep i j))
    exact q _ _ F3 P
theorem prg_go2 {tup : Bool} {f g : Env → Option (R × Env)} {σ : L2.St} {H : Hp} {Q : VK} (h : tE X (fRng tup f g) σ H Q) :
    tRg2 (tE X f) (tE X g) σ H fun a b H1 => RgOk a b ∧ ∀ p, H1 p = none → Q (.ref p) (upd H1 p (if tup then .tup (rgV a b) else .lst (rgV a b))) := by
  obtain ⟨F0, ρ, r, ρ', S, ev, q⟩ := h
  obtain ⟨r1, ρ1, r2, x, y, i, j, e1, e2, ex, ey, ei, ej, k1, k2, hr⟩ := fRng_inv ev
  refine ⟨F0, ρ, r1, ρ1, S, e1, fun v1 H1 F1 p1 => ⟨F1, ρ1, r2, ρ', p1.st.sr, e2, fun v2 H2 F2 p2 => ⟨i, j, int_of p2.st.sr (p2.st.tmp p1.st.sr p1.tmp) ex ei, int_of p2.st.sr p2.tmp ey ej, rgOk_of k1 k2, fun p hp => ?_⟩⟩⟩
  exact rg_fin (ρ1 := ρ1) (H1 := H1) (F1 := F1) (p1.st.trans p2.st) hp hr q
theorem prg_go1 {tup : Bool} {g : Env → Option (R × Env)} {σ : L2.St} {H : Hp} {Q : VK} (h : tE X (fRng tup (fun ρ => some (.dat (.int 0), ρ)) g) σ H Q) :
    tRg1 (tE X g) σ H fun a b H1 => RgOk a b ∧ ∀ p, H1 p = none → Q (.ref p) (upd H1 p (if tup then .tup (rgV a b) else .lst (rgV a b))) := by
  obtain ⟨F0, ρ, r, ρ', S, ev, q⟩ := h
  obtain ⟨r1, ρ1, r2, x, y, i, j, e1, e2, ex, ey, ei, ej, k1, k2, hr⟩ := fRng_inv ev
  cases e1
  cases ex
  cases ei
  refine ⟨F0, ρ, r2, ρ', S, e2, fun v2 H2 F2 p2 => ⟨j, int_of p2.st.sr p2.tmp ey ej, rgOk_of k1 k2, fun p hp => ?_⟩⟩
  exact rg_fin (ρ1 := ρ) (H1 := H) (F1 := F0) p2.st hp hr q
theorem e_rng {tup : Bool} {y : Str} {e : Expr} {te : L2.St → Hp → (Int → Int → Hp → Prop) → Prop} {p pos : Pos} {f : Env → Option (R × Env)} (c : Ctx X) (hy : y = if tup then "tuple" else "list") (hg : Gl X y) (hm : X.mg y = none) (he : PRg X e te) (n : nst e = true)
    (h : ∀ σ H Q, tE X f σ H Q → te σ H fun a b H1 => RgOk a b ∧ ∀ p, H1 p = none → Q (.ref p) (upd H1 p (if tup then .tup (rgV a b) else .lst (rgV a b)))) : PE X (.Call (.Name y p) [e] [] pos) (tE X f) := by
  subst hy
  cases tup with
  | true => exact PEimp (pe_tupRg c.calm hg hm he (starEach_cons n)) fun σ H Q q => h σ H Q q
  | false => exact PEimp (pe_listRg c.calm hg hm he (starEach_cons n)) fun σ H Q q => h σ H Q q
theorem e_rng2 (c : Ctx X) {tup : Bool} {y : Str} {a b : Expr} {p p2 pos pos2 : Pos} {f g : Env → Option (R × Env)} (hy : y = if tup then "tuple" else "list") (hg : Gl X y) (hm : X.mg y = none) (hg2 : Gl X "range") (hm2 : X.mg "range" = none)
    (ha : PE X a (tE X f)) (hb : PE X b (tE X g)) (na : nst a = true) (nb : nst b = true) : PE X (.Call (.Name y p) [.Call (.Name "range" p2) [a, b] [] pos2] [] pos) (tE X (fRng tup f g)) :=
  e_rng c hy hg hm (prg_2 hg2 hm2 ha hb (starEach_cons na) (starEach_cons nb) (backTo_any (by simp [nb]))) rfl fun σ H Q q => prg_go2 q
theorem e_rng1 (c : Ctx X) {tup : Bool} {y : Str} {b : Expr} {p p2 pos pos2 : Pos} {g : Env → Option (R × Env)} (hy : y = if tup then "tuple" else "list") (hg : Gl X y) (hm : X.mg y = none) (hg2 : Gl X "range") (hm2 : X.mg "range" = none)
    (hb : PE X b (tE X g)) (nb : nst b = true) : PE X (.Call (.Name y p) [.Call (.Name "range" p2) [b] [] pos2] [] pos) (tE X (fRng tup (fun ρ => some (.dat (.int 0), ρ)) g)) :=
  e_rng c hy hg hm (prg_1 hg2 hm2 hb (starEach_cons nb)) rfl fun σ H Q q => prg_go1 q

/-! ### subscripts -/
def nsl : Expr → Bool
  | .Slice .. => false
  | _ => true
theorem plainIx_of {b : Expr} (h : nsl b = true) : PlainIx b := by
  intro o i
  cases b <;> first | rfl | cases h
def fIdx (f g : Env → Option (R × Env)) : Env → Option (R × Env) := fun ρ => (f ρ).bind fun (r, ρ1) => (g ρ1).bind fun (q, ρ2) =>
  (res ρ2 r).bind fun x => (res ρ2 q).bind fun y => (idxD x y).map fun d => (.dat d, ρ2)
theorem e_idx (c : Ctx X) {a b : Expr} {pos : Pos} {f g : Env → Option (R × Env)} (ha : PE X a (tE X f)) (hb : PE X b (tE X g)) (hs : nsl b = true) : PE X (.Subscript a b pos) (tE X (fIdx f g)) := by
  refine PEimp (pe_ix (ix_data c) ha hb (plainIx_of hs)) fun σ H Q h => ?_
  obtain ⟨F0, ρ, r, ρ', S, ev, q⟩ := h
  obtain ⟨⟨r1, ρ1⟩, e1, ev⟩ := Option.bind_eq_some_iff.mp ev
  obtain ⟨⟨r2, ρ2⟩, e2, ev⟩ := Option.bind_eq_some_iff.mp ev
  obtain ⟨x, ex, ev⟩ := Option.bind_eq_some_iff.mp ev
  obtain ⟨y, ey, ev⟩ := Option.bind_eq_some_iff.mp ev
  obtain ⟨d, ed, ev⟩ := Option.map_eq_some_iff.mp ev
  cases ev
  refine ⟨F0, ρ, r1, ρ1, S, e1, fun v1 H1 F1 p1 => ⟨F1, ρ1, r2, _, p1.st.sr, e2, fun v2 H2 F2 p2 => ?_⟩⟩
  exact ⟨_, x, y, d, (p2.st.tmp p1.st.sr p1.tmp).top p2.st.sr ex, p2.tmp.top p2.st.sr ey, ed, fun v r => q v H2 F2 (.dat (p1.st.trans p2.st) r)⟩
def tO (X : Cx) (f : Env → Option (Option Int × Env)) : TO := fun σ H Q => ∃ F0 ρ o ρ', SR X.w X.K F0 ρ σ H ∧ f ρ = some (o, ρ') ∧ ∀ H' F', EStep X.w X.K σ F0 ρ H F' ρ' H' → Q o H'
theorem POimp {e : Option Expr} {t t' : TO} (h : PO X e t) (i : ∀ σ H Q, t' σ H Q → t σ H Q) : PO X e t' := ⟨fun pins s σ H Q I hw => h.run pins s σ H Q I (i σ H Q hw)⟩
theorem o_none : PO X none (tO X fun ρ => some (none, ρ)) := POimp po_none fun σ H Q h => by
  obtain ⟨F0, ρ, o, ρ', S, ev, q⟩ := h
  cases ev
  exact q H F0 (.refl S)
theorem o_some {e : Expr} {f : Env → Option (R × Env)} (he : PE X e (tE X f)) : PO X (some e) (tO X fun ρ => (f ρ).bind fun (r, ρ1) => (res ρ1 r).bind fun x => (intOf x).map fun i => (some i, ρ1)) := by
  refine POimp (po_some he) fun σ H Q h => ?_
  obtain ⟨F0, ρ, o, ρ', S, ev, q⟩ := h
  obtain ⟨⟨r1, ρ1⟩, e1, ev⟩ := Option.bind_eq_some_iff.mp ev
  obtain ⟨x, ex, ev⟩ := Option.bind_eq_some_iff.mp ev
  obtain ⟨i, ei, ev⟩ := Option.map_eq_some_iff.mp ev
  cases ev
  exact ⟨F0, ρ, r1, _, S, e1, fun v1 H1 F1 p1 => ⟨i, int_of p1.st.sr p1.tmp ex ei, q H1 F1 p1.st⟩⟩
def fSlc (f : Env → Option (R × Env)) (g h : Env → Option (Option Int × Env)) : Env → Option (R × Env) := fun ρ => (f ρ).bind fun (r, ρ1) => (g ρ1).bind fun (l, ρ2) => (h ρ2).bind fun (u, ρ3) =>
  (res ρ3 r).bind fun x => (slcD x l u).map fun s => (s.res, ρ3)
theorem e_slc {a : Expr} {lo hi : Option Expr} {pos p2 : Pos} {f : Env → Option (R × Env)} {g h : Env → Option (Option Int × Env)} (ha : PE X a (tE X f)) (hl : PO X lo (tO X g)) (hh : PO X hi (tO X h)) :
    PE X (.Subscript a (.Slice lo hi none p2) pos) (tE X (fSlc f g h)) := by
  refine PEimp (pe_slice sl_data ha hl hh) fun σ H Q hq => ?_
  obtain ⟨F0, ρ, r, ρ', S, ev, q⟩ := hq
  obtain ⟨⟨r1, ρ1⟩, e1, ev⟩ := Option.bind_eq_some_iff.mp ev
  obtain ⟨⟨l, ρ2⟩, e2, ev⟩ := Option.bind_eq_some_iff.mp ev
  obtain ⟨⟨u, ρ3⟩, e3, ev⟩ := Option.bind_eq_some_iff.mp ev
  obtain ⟨x, ex, ev⟩ := Option.bind_eq_some_iff.mp ev
  obtain ⟨s, es, ev⟩ := Option.map_eq_some_iff.mp ev
  cases ev
  refine ⟨F0, ρ, r1, ρ1, S, e1, fun v1 H1 F1 p1 => ⟨F1, ρ1, l, ρ2, p1.st.sr, e2, fun H2 F2 p2 => ⟨F2, ρ2, u, _, p2.sr, e3, fun H3 F3 p3 => ?_⟩⟩⟩
  refine ⟨_, x, s, (p3.tmp p2.sr (p2.tmp p1.st.sr p1.tmp)).top p3.sr ex, es, fun v H' po => ?_⟩
  obtain ⟨F4, P⟩ := EPost.op ((p1.st.trans p2).trans p3) po
  exact q v H' F4 P
def fRev (f : Env → Option (R × Env)) : Env → Option (R × Env) := fun ρ => (f ρ).bind fun (r, ρ1) => (res ρ1 r).bind fun x => (revD x).map fun s => (s.res, ρ1)
theorem e_rev {e : Expr} {k : Nat} {p1 p2 p3 pos : Pos} {f : Env → Option (R × Env)} (he : PE X e (tE X f)) : PE X (.Subscript e (.Slice none none (some (.UnaryOp .USub (.Constant (.int 1) k p1) p2)) p3) pos) (tE X (fRev f)) := by
  refine PEimp (pe_revB he) fun σ H Q hq => ?_
  obtain ⟨F0, ρ, r, ρ', S, ev, q⟩ := hq
  obtain ⟨⟨r1, ρ1⟩, e1, ev⟩ := Option.bind_eq_some_iff.mp ev
  obtain ⟨x, ex, ev⟩ := Option.bind_eq_some_iff.mp ev
  obtain ⟨s, es, ev⟩ := Option.map_eq_some_iff.mp ev
  cases ev
  refine ⟨F0, ρ, r1, _, S, e1, fun v1 H1 F1 p1 => ?_⟩
  cases x with
  | list xs =>
    cases es
    obtain ⟨a, vs, rfl, h, rl⟩ := (p1.tmp.top p1.st.sr ex).list_inv
    refine ⟨a, vs, rfl, .inl ⟨sqL_of h, fun p hp => ?_⟩⟩
    obtain ⟨F3, P⟩ := EPost.op (s := .own (.lst xs.reverse)) p1.st (post_lst hp rl.rev)
    exact q _ _ F3 P
  | tuple xs =>
    cases es
    obtain ⟨a, vs, rfl, h, rl⟩ := (p1.tmp.top p1.st.sr ex).tuple_inv
    refine ⟨a, vs, rfl, .inr ⟨h, fun p hp => ?_⟩⟩
    obtain ⟨F3, P⟩ := EPost.op (s := .dat (.tuple xs.reverse)) p1.st (post_tup hp rl.rev)
    exact q _ _ F3 P
  | _ => cases es

/-! ### d.get(k), d.get(k, x) -/
section
variable {s : Shared} {pins : List (Addr × Obj)} {σ : L2.St} {H : Hp}
theorem call_get {a : Addr} {es : List Ent} {xv : V} {u : Value} {k : NestedKey} {A : Around} {E : Value → Shared → Prop} {Q : Value → Shared → Prop} (hu : A.units + 20 < cLine) (I : Inv X pins σ H s) (hs : (a == sysModules) = false) (v : View X.prog X.w s.heap a es xv u k)
    (h : ∀ (z : Option Value) s', Inv X pins σ H s' → RelO (lookE es k) z → Q (z.getD .none) s') : wpAny (model X.prog X.w) A (call (.builtin "dict.get") [.ref a, u]) Q E s := by
  cases v with
  | mix key mk vs e1 e2 e3 hk r d =>
    subst e1 e3
    refine call_meetsIn PySem.F.slot_dict_get d.typeIs PySem.F.entry_dict_get (PySem.F.args_dict_get_2 _ _) (meets_dict_get (mixKind X.prog X.w) a hk hs) ⟨_, d.mapOf, ?_⟩
    exact h _ _ (I.tok _) (by have := r.val key; rwa [valV_mixE] at this)
  | tup b xs e2 e3 hk t d =>
    subst e3
    refine get_keyed (knd := nestedKind X.prog X.w) (by show A.units + 1 + 8 < cLine; omega) hk hs ⟨xs, d, rfl⟩ ?_
    rw [valueAt_pairsH]
    exact h _ _ (I.tok _) t.look
theorem call_get2 {a : Addr} {es : List Ent} {xv : V} {u d0 : Value} {k : NestedKey} {A : Around} {E : Value → Shared → Prop} {Q : Value → Shared → Prop} (hu : A.units + 20 < cLine) (I : Inv X pins σ H s) (hs : (a == sysModules) = false) (v : View X.prog X.w s.heap a es xv u k)
    (h : ∀ (z : Option Value) s', Inv X pins σ H s' → RelO (lookE es k) z → Q (z.getD d0) s') : wpAny (model X.prog X.w) A (call (.builtin "dict.get") [.ref a, u, d0]) Q E s := by
  cases v with
  | mix key mk vs e1 e2 e3 hk r d =>
    subst e1 e3
    refine call_meetsIn PySem.F.slot_dict_get d.typeIs PySem.F.entry_dict_get (PySem.F.args_dict_get_3 _ _ _) (meets_dict_get_default (mixKind X.prog X.w) a hk hs d0) ⟨_, d.mapOf, ?_⟩
    exact h _ _ (I.tok _) (by have := r.val key; rwa [valV_mixE] at this)
  | tup b xs e2 e3 hk t d =>
    subst e3
    refine getOr_keyed (knd := nestedKind X.prog X.w) (by show A.units + 1 + 8 < cLine; omega) hk hs ⟨xs, d, rfl⟩ ?_
    rw [valueAt_pairsH]
    exact h _ _ (I.tok _) t.look
end
def absB : Expr → Bool
  | .Call (.Name _ _) [] [] _ => false
  | _ => true
theorem abs_of {o : Expr} {m : Str} {env : PySem.Env} {w : Sem Value} (h : absB o = true) : attributeBase o m env w = w := by
  unfold attributeBase
  split
  · cases h
  · rfl
theorem few_of {es : List Expr} {env : PySem.Env} {pos : Pos} (h : es.all nst = true) : (backTo pos (starEach es env)).all (fun x => !x.1) = true := by
  have z := backTo_any (env := env) (pos := pos) h
  rw [List.all_eq_true]
  intro x hx
  have := List.any_eq_false.mp z x hx
  simpa using this
theorem getD_inv {x : D} {ds : List D} {d : D} (h : SP.getD x ds = some d) : ∃ kvs, x = .dict kvs ∧ ((∃ k kk, ds = [k] ∧ famK kvs k = some kk ∧ d = (look kvs kk).getD .none) ∨ ∃ k x0 kk, ds = [k, x0] ∧ immD x0 = true ∧ famK kvs k = some kk ∧ d = (look kvs kk).getD x0) := by
  unfold SP.getD at h
  split at h
  · obtain ⟨kk, a, b⟩ := Option.map_eq_some_iff.mp h
    exact ⟨_, rfl, .inl ⟨_, kk, rfl, a, b.symm⟩⟩
  · split at h
    · rename_i im
      obtain ⟨kk, a, b⟩ := Option.map_eq_some_iff.mp h
      exact ⟨_, rfl, .inr ⟨_, _, kk, rfl, im, a, b.symm⟩⟩
    · cases h
  · cases h
def fMth (m : Mth) (f : Env → Option (R × Env)) (g : Env → Option (List R × Env)) : Env → Option (R × Env) := fun ρ => (f ρ).bind fun (r, ρ1) => (res ρ1 r).bind fun x0 => if mthOk m x0 then (g ρ1).bind fun (rs, ρ2) =>
  (res ρ2 r).bind fun x => (ress ρ2 rs).bind fun ds => (mthD m x ds).map fun d => (.dat d, ρ2) else none
theorem e_get (c : Ctx X) {o e : Expr} {es : List Expr} {apos cpos : Pos} {f : Env → Option (R × Env)} {g : Env → Option (List R × Env)} (ab : absB o = true) (hl : (apos.endLine == cpos.line) = true) (n : (e :: es).all nst = true) (few : (e :: es).length ≤ 2)
    (ho : PE X o (tE X f)) (ha : PA X (e :: es) (tEs X g)) : PE X (.Call (.Attribute o (Str.ofString "get") apos) (e :: es) [] cpos) (tE X (fMth .get f g)) := by
  refine ⟨fun pins s σ H Q I h => ?_⟩
  obtain ⟨F0, ρ, r0, ρ', S, ev, q⟩ := h
  obtain ⟨⟨r, ρ1⟩, e1, ev⟩ := Option.bind_eq_some_iff.mp ev
  obtain ⟨x0, ex0, ev⟩ := Option.bind_eq_some_iff.mp ev
  dsimp only at ev
  split at ev
  · rename_i hm
    obtain ⟨⟨rs, ρ2⟩, e2, ev⟩ := Option.bind_eq_some_iff.mp ev
    obtain ⟨x, ex, ev⟩ := Option.bind_eq_some_iff.mp ev
    obtain ⟨ds, eds, ev⟩ := Option.bind_eq_some_iff.mp ev
    obtain ⟨d, ed, ev⟩ := Option.map_eq_some_iff.mp ev
    cases ev
    have hn := n
    rw [List.all_cons, Bool.and_eq_true] at hn
    have hfew : ((backTo cpos (starEach (e :: es) X.env)).all (fun x => !x.1) && (backToKw cpos (keywordEach [] X.env)).all (fun x => x.1.isSome) && decide ((e :: es).length + ([] : List Keyword).length + (if ([] : List Keyword).isEmpty then 0 else 1) < 30)) = true := by
      rw [few_of n, Bool.true_and, Bool.and_eq_true]
      exact ⟨rfl, decide_eq_true (by show (e :: es).length + 0 + 0 < 30; omega)⟩
    refine wpAny_Call_method_late (abs_of ab) hfew hl rfl (thn (ho.run pins s σ H (fun v H1 => ∃ F1, EPost X.w X.K σ F0 ρ H r ρ1 v H1 F1) I ⟨F0, ρ, r, ρ1, S, e1, fun v H1 F1 p => ⟨F1, p⟩⟩) fun v s1 ⟨xv, H1, I1, r1, F1, p1⟩ => ?_)
    cases x0 with
    | dict kvs0 =>
      obtain ⟨a, ob, es0, rfl, hh, nn, rk0, rv0⟩ := (p1.tmp.top p1.st.sr ex0).dict_inv
      cases r1
      obtain ⟨g1, _⟩ := I1.hok a _ hh
      refine ⟨"dict", "dict.get", PySem.F.plainAttrs_dict, PySem.F.slot_dict_get, PySem.F.type_dict_get, ⟨ob, g1, nn.ex.1⟩, fun b eb => ?_, ?_⟩
      · cases eb; exact ⟨ob, g1, nn.ex.2.1⟩
      have hA := ha.run cpos pins s1 σ H1 (fun vs H2 => ∃ F2, EStep X.w X.K σ F1 ρ1 H1 F2 ρ2 H2 ∧ Tmps X.w X.K F2 ρ2 σ H2 vs rs) I1 ⟨F1, ρ1, rs, ρ2, p1.st.sr, e2, fun vs H2 F2 st t => ⟨F2, st, t⟩⟩
      rw [starEach_cons hn.1] at hA ⊢
      refine Calls.callWith_builtin (by show (false || (backTo cpos (starEach es X.env)).any (·.1)) = false; rw [backTo_any hn.2]; rfl) (Calls.evalArgs_plain ?_)
      refine thn hA fun us s2 ⟨vs, H2, I2, r2, F2, st, tt⟩ => ?_
      have tt2 := tt.topL st.sr eds
      have tx := (st.tmp p1.st.sr p1.tmp).top st.sr ex
      have hr := c.room
      obtain ⟨kvs, rfl, ⟨k, kk, rfl, fk, rfl⟩ | ⟨k, x1, kk, rfl, im, fk, rfl⟩⟩ := getD_inv (show SP.getD x ds = some d from ed)
      · obtain ⟨y, rfl, ty⟩ := tt2.one
        obtain ⟨u, rfl, ru⟩ := vals1 r2
        obtain ⟨a', ob', es', ea, hh', n', rk, rv⟩ := tx.dict_inv
        cases ea
        refine call_get (by omega) I2 n'.nosys (view I2 hh' n' rk ty ru fk) fun z s3 I3 rz => ?_
        rcases look_rep (k := kk) n'.keys rv with ⟨q1, q2⟩ | ⟨d', v', q1, q2, rp⟩
        · rw [q2] at rz
          cases z with
          | none => exact ⟨.non, H2, I3, rfl, by rw [q1] at q; exact q .non H2 F2 (.dat (p1.st.trans st) .non)⟩
          | some _ => exact rz.elim
        · rw [q2] at rz
          cases z with
          | none => exact rz.elim
          | some z => exact ⟨v', H2, I3, rz, by rw [q1] at q; exact q v' H2 F2 (.dat (p1.st.trans st) rp)⟩
      · obtain ⟨y, y2, rfl, ty, ty2⟩ := tt2.two
        obtain ⟨u, u2, rfl, ru, ru2⟩ := vals2 r2
        obtain ⟨a', ob', es', ea, hh', n', rk, rv⟩ := tx.dict_inv
        cases ea
        refine call_get2 (by omega) I2 n'.nosys (view I2 hh' n' rk ty ru fk) fun z s3 I3 rz => ?_
        rcases look_rep (k := kk) n'.keys rv with ⟨q1, q2⟩ | ⟨d', v', q1, q2, rp⟩
        · rw [q2] at rz
          have r0 : Rep X.w X.K (Bar F2 ρ2 σ) H2 y2 x1 := by
            cases ty2 with
            | rep r => exact r
            | list _ _ => simp [immD] at im
            | dict _ _ _ _ => simp [immD] at im
          cases z with
          | none => exact ⟨y2, H2, I3, ru2, by rw [q1] at q; exact q y2 H2 F2 (.dat (p1.st.trans st) r0)⟩
          | some _ => exact rz.elim
        · rw [q2] at rz
          cases z with
          | none => exact rz.elim
          | some z => exact ⟨v', H2, I3, rz, by rw [q1] at q; exact q v' H2 F2 (.dat (p1.st.trans st) rp)⟩
    | _ => cases hm
  · cases ev
/-! ### what is walked -/
def tI (X : Cx) (f : Env → Option (List D × Env)) : TI := fun σ H R => ∃ F0 ρ ds ρ', SR X.w X.K F0 ρ σ H ∧ f ρ = some (ds, ρ') ∧ ∀ J H' F', EStep X.w X.K σ F0 ρ H F' ρ' H' → WalkD X.w X.K (Bar F' ρ' σ) H' J ds → R J H'
theorem PIimp {tg it : Expr} {t t' : TI} (h : PI X tg it t) (i : ∀ σ H Q, t' σ H Q → t σ H Q) : PI X tg it t' := ⟨fun pins s σ H Q I hw => h.run pins s σ H Q I (i σ H Q hw)⟩
def iAny (w : World) (K : Frag) (tl : TE) : TI := fun σ H R => tl σ H fun x H1 => ∃ a, x = .ref a ∧ ((∃ xs, (SqL K H1 a xs ∧ R (Itl K a) H1) ∨ (SqT K H1 a xs ∧ R (Itt K a) H1)) ∨
  ∃ o es kvs, H1 a = some (rawD a o) ∧ DOk w a o es kvs ∧ R (ItD a o (es.map (·.1))) H1)
theorem pi_any {tg l : Expr} {tl : TE} (hl : PE X l tl) : PI X tg l (iAny X.w X.K tl) := by
  refine ⟨fun pins s σ H R I h => ?_⟩
  refine thn (hl.run pins s σ H _ I h) fun v s1 ⟨x, H1, I1, r1, q1⟩ => ?_
  obtain ⟨a, e, q⟩ := q1
  subst e
  cases r1
  have fp : ∀ b ∈ [s1.heap.objs.size], FpOk X pins H1 b := fun b hb => by
    have e : b = s1.heap.objs.size := by simpa using hb
    subst e
    exact I1.fpOk (Nat.le_refl _) (I1.hok.fresh (Nat.le_refl _))
  rcases q with ⟨xs, ⟨hq, q⟩ | ⟨hq, q⟩⟩ | ⟨o, es, kvs, hd, n, q⟩
  · obtain ⟨its, rv, p, hz⟩ := I1.list hq
    refine wpAny_pyIter_list p.isList ?_
    exact ⟨s1.heap.objs.size, [s1.heap.objs.size], _, _, H1, rfl, I1.kept (t' := s1.toks) fun b o e => Heap.get?_push_of_some _ e, turn_list a _, ⟨_, Heap.get?_push_size _ rfl, rfl, rfl⟩, fp, q⟩
  · obtain ⟨its, rv, p, hz⟩ := I1.tuple hq
    refine wpAny_pyIter_tuple (show s1.heap.IsTuple a its.toArray from p) ?_
    exact ⟨s1.heap.objs.size, [s1.heap.objs.size], _, _, H1, rfl, I1.kept (t' := s1.toks) fun b o e => Heap.get?_push_of_some _ e, turn_tuple a _, ⟨_, Heap.get?_push_size _ rfl, rfl, rfl⟩, fp, q⟩
  · obtain ⟨ep, xs, dd, pr⟩ := n.ent
    have hm : s1.heap.DictRaw a xs.toArray ep := ⟨o, (I1.hok a _ hd).1, n.ex, dd⟩
    refine wpAny_pyIter_dict_raw n.nosys hm ?_
    exact ⟨s1.heap.objs.size, [s1.heap.objs.size], _, _, H1, rfl, I1.kept (t' := s1.toks) fun b o e => Heap.get?_push_of_some _ e, turn_raw n.ex dd (vals_keys pr).1, ⟨_, Heap.get?_push_size _ rfl, rfl, rfl⟩, fp, q⟩
theorem items_rep {w : World} {K : Frag} {G : ASet} {H : Hp} {v : V} {d : D} {ds : List D} (r : Rep w K G H v d) (e : seqD d = some ds) : ∃ a vs, v = .ref a ∧ RepL w K G H vs ds ∧ ((¬ G a ∧ Rd H a (.lst vs) ∧ d = .list ds) ∨ (SqT K H a vs ∧ d = .tuple ds)) := by
  cases d with
  | list xs => cases e; cases r with | list g h r => exact ⟨_, _, rfl, r, .inl ⟨g, h, rfl⟩⟩
  | tuple xs => cases e; cases r with | tuple h r => exact ⟨_, _, rfl, r, .inr ⟨h, rfl⟩⟩
  | _ => cases e
theorem i_val {tg e : Expr} {f : Env → Option (R × Env)} (he : PE X e (tE X f)) : PI X tg e (tI X fun ρ => (f ρ).bind fun p => (esc p).bind fun (d, ρ1) => (itemsD d).map fun ds => (ds, ρ1)) := by
  refine PIimp (pi_any he) fun σ H Q hq => ?_
  obtain ⟨F0, ρ, ds, ρ', S, ev, q⟩ := hq
  obtain ⟨⟨r1, ρ1⟩, e1, ev⟩ := Option.bind_eq_some_iff.mp ev
  obtain ⟨⟨d, ρ2⟩, e2, ev⟩ := Option.bind_eq_some_iff.mp ev
  obtain ⟨ds', e3, ev⟩ := Option.map_eq_some_iff.mp ev
  cases ev
  refine ⟨F0, ρ, r1, ρ1, S, e1, fun v1 H1 F1 p1 => ?_⟩
  obtain ⟨st, r⟩ := p1.esc S e2
  cases d with
  | list xs => cases e3; cases r with | list g h r => exact ⟨_, rfl, .inl ⟨_, .inl ⟨sqL_of h, q _ H1 _ st (wd_list g h r)⟩⟩⟩
  | tuple xs => cases e3; cases r with | tuple h r => exact ⟨_, rfl, .inl ⟨_, .inr ⟨h, q _ H1 _ st (wd_tup h r)⟩⟩⟩
  | dict kvs => cases e3; cases r with | dict g h n rk rv => exact ⟨_, rfl, .inr ⟨_, _, _, h, n, q _ H1 _ st (wd_raw g h rk)⟩⟩
  | _ => cases e3
theorem i_enum {e : Expr} {p pos tpos : Pos} {elts : List Expr} {kk : Nat} {f : Env → Option (R × Env)} (hg : Gl X "enumerate") (hm : X.mg "enumerate" = none) (n : nst e = true) (he : PE X e (tE X f)) :
    PI X (.Tuple elts kk tpos) (.Call (.Name "enumerate" p) [e] [] pos) (tI X fun ρ => (f ρ).bind fun p => (esc p).bind fun (d, ρ1) => (seqD d).map fun ds => (ds.zipIdx.map fun (x, i) => .tuple [.int (i : Nat), x], ρ1)) := by
  refine PIimp (pi_enumA hg hm (pa_cons he pa_nil (starEach_cons n)) (starEach_cons n)) fun σ H Q hq => ?_
  obtain ⟨F0, ρ, ds, ρ', S, ev, q⟩ := hq
  obtain ⟨⟨r1, ρ1⟩, e1, ev⟩ := Option.bind_eq_some_iff.mp ev
  obtain ⟨⟨d, ρ2⟩, e2, ev⟩ := Option.bind_eq_some_iff.mp ev
  obtain ⟨ds', e3, ev⟩ := Option.map_eq_some_iff.mp ev
  cases ev
  refine ⟨F0, ρ, r1, ρ1, S, e1, fun v1 H1 F1 p1 => ?_⟩
  obtain ⟨st, r⟩ := p1.esc S e2
  obtain ⟨a, vs, rfl, rl, h | h⟩ := items_rep r e3
  · exact ⟨a, vs, rfl, .inl ⟨sqL_of h.2.1, q _ H1 _ st (wd_enum h.1 h.2.1 rl)⟩⟩
  · exact ⟨a, vs, rfl, .inr ⟨h.1, q _ H1 _ st (wd_enumT h.1 rl)⟩⟩
theorem i_rng1 {tg a : Expr} {p pos : Pos} {f : Env → Option (R × Env)} (hg : Gl X "range") (hm : X.mg "range" = none) (n : nst a = true) (ha : PE X a (tE X f)) :
    PI X tg (.Call (.Name "range" p) [a] [] pos) (tI X fun ρ => (f ρ).bind fun (q, ρ1) => (res ρ1 q).bind fun y => (intOf y).bind fun j => if okRng 0 j then some (rngL 0 j, ρ1) else none) := by
  refine PIimp (pi_range1 hg hm (pa_cons ha pa_nil (starEach_cons n)) (starEach_cons n)) fun σ H Q hq => ?_
  obtain ⟨F0, ρ, ds, ρ', S, ev, q⟩ := hq
  obtain ⟨⟨r1, ρ1⟩, e1, ev⟩ := Option.bind_eq_some_iff.mp ev
  obtain ⟨y, e2, ev⟩ := Option.bind_eq_some_iff.mp ev
  obtain ⟨j, e3, ev⟩ := Option.bind_eq_some_iff.mp ev
  split at ev
  · rename_i hk
    cases ev
    refine ⟨F0, ρ, r1, _, S, e1, fun v1 H1 F1 p1 => ⟨j, ?_, (okRng_of hk).2.2.1, (okRng_of hk).2.2.2, ?_⟩⟩
    · rw [int_of p1.st.sr p1.tmp e2 e3]
    · have z := q (Itr 0 (j - 0).toNat) H1 F1 p1.st wd_rng
      rw [Int.sub_zero] at z
      exact z
  · cases ev
theorem i_rng2 {tg a b : Expr} {p pos : Pos} {f g : Env → Option (R × Env)} (hg : Gl X "range") (hm : X.mg "range" = none) (na : nst a = true) (nb : nst b = true) (ha : PE X a (tE X f)) (hb : PE X b (tE X g)) :
    PI X tg (.Call (.Name "range" p) [a, b] [] pos) (tI X fun ρ => (f ρ).bind fun (r, ρ1) => (g ρ1).bind fun (q, ρ2) => (res ρ2 r).bind fun x => (res ρ2 q).bind fun y =>
      (intOf x).bind fun i => (intOf y).bind fun j => if okRng i j then some (rngL i j, ρ2) else none) := by
  refine PIimp (pi_range2 hg hm (pa_cons ha (pa_cons hb pa_nil (starEach_cons nb)) (starEach_cons na)) (by rw [starEach_cons na, starEach_cons nb]; rfl) (starEach_cons nb)) fun σ H Q hq => ?_
  obtain ⟨F0, ρ, ds, ρ', S, ev, q⟩ := hq
  obtain ⟨⟨r1, ρ1⟩, e1, ev⟩ := Option.bind_eq_some_iff.mp ev
  obtain ⟨⟨r2, ρ2⟩, e2, ev⟩ := Option.bind_eq_some_iff.mp ev
  obtain ⟨x, ex, ev⟩ := Option.bind_eq_some_iff.mp ev
  obtain ⟨y, ey, ev⟩ := Option.bind_eq_some_iff.mp ev
  obtain ⟨i, ei, ev⟩ := Option.bind_eq_some_iff.mp ev
  obtain ⟨j, ej, ev⟩ := Option.bind_eq_some_iff.mp ev
  split at ev
  · rename_i hk
    cases ev
    refine ⟨F0, ρ, r1, ρ1, S, e1, fun v1 H1 F1 p1 => ⟨F1, ρ1, r2, _, p1.st.sr, e2, fun v2 H2 F2 p2 => ⟨i, j, ?_, okRng_of hk, q _ H2 F2 (p1.st.trans p2.st) wd_rng⟩⟩⟩
    rw [int_of p2.st.sr (p2.st.tmp p1.st.sr p1.tmp) ex ei, int_of p2.st.sr p2.tmp ey ej]
  · cases ev
theorem i_zip {a b : Expr} {p pos tpos : Pos} {elts : List Expr} {kk : Nat} {f g : Env → Option (R × Env)} (hg : Gl X "zip") (hm : X.mg "zip" = none) (na : nst a = true) (nb : nst b = true) (ha : PE X a (tE X f)) (hb : PE X b (tE X g)) :
    PI X (.Tuple elts kk tpos) (.Call (.Name "zip" p) [a, b] [] pos) (tI X fun ρ => (f ρ).bind fun p => (esc p).bind fun (x, ρ1) => (g ρ1).bind fun q => (esc q).bind fun (y, ρ2) => (zipD x y).map fun zs => (zs, ρ2)) := by
  refine PIimp (RZ.pi_zipA hg hm (pa_cons ha (pa_cons hb pa_nil (starEach_cons nb)) (starEach_cons na)) (starEach_cons na) (backTo_any (by simp [nb]))) fun σ H Q hq => ?_
  obtain ⟨F0, ρ, ds, ρ', S, ev, q⟩ := hq
  obtain ⟨⟨r1, ρ1⟩, e1, ev⟩ := Option.bind_eq_some_iff.mp ev
  obtain ⟨⟨x, ρ2⟩, e2, ev⟩ := Option.bind_eq_some_iff.mp ev
  obtain ⟨⟨r3, ρ3⟩, e3, ev⟩ := Option.bind_eq_some_iff.mp ev
  obtain ⟨⟨y, ρ4⟩, e4, ev⟩ := Option.bind_eq_some_iff.mp ev
  obtain ⟨zs, e5, ev⟩ := Option.map_eq_some_iff.mp ev
  cases ev
  refine ⟨F0, ρ, r1, ρ1, S, e1, fun v1 H1 F1 p1 => ?_⟩
  obtain ⟨st, r⟩ := p1.esc S e2
  refine ⟨_, ρ2, r3, ρ3, st.sr, e3, fun v2 H2 F2 p2 => ?_⟩
  obtain ⟨st2, r2⟩ := p2.esc st.sr e4
  have r' := st2.rep r
  cases x with
  | list xs =>
    cases y with
    | list ys =>
      cases e5
      cases r' with
      | list g1 h1 l1 =>
        cases r2 with
        | list g2 h2 l2 => exact ⟨_, _, _, _, rfl, .inl ⟨sqL_of h1, sqL_of h2, q _ H2 _ (st.trans st2) (wd_zip g1 h1 l1 g2 h2 l2)⟩⟩
    | _ => cases e5
  | tuple xs =>
    cases y with
    | tuple ys =>
      cases e5
      cases r' with
      | tuple h1 l1 =>
        cases r2 with
        | tuple h2 l2 => exact ⟨_, _, _, _, rfl, .inr ⟨h1, h2, q _ H2 _ (st.trans st2) (wd_zipT h1 l1 h2 l2)⟩⟩
    | _ => cases e5
  | _ => cases y <;> cases e5
theorem i_zipK {a b : Expr} {p pos tpos kp cp : Pos} {cj : Nat} {elts : List Expr} {kk : Nat} {f g : Env → Option (R × Env)} (hg : Gl X "zip") (hm : X.mg "zip" = none) (na : nst a = true) (nb : nst b = true) (ha : PE X a (tE X f)) (hb : PE X b (tE X g)) :
    PI X (.Tuple elts kk tpos) (.Call (.Name "zip" p) [a, b] [⟨some (Str.ofString "strict"), .Constant (.bool false) cj cp, kp⟩] pos) (tI X fun ρ => (f ρ).bind fun p => (esc p).bind fun (x, ρ1) => (g ρ1).bind fun q => (esc q).bind fun (y, ρ2) => (zipD x y).map fun zs => (zs, ρ2)) := by
  refine PIimp (pi_zipK hg hm (pa_cons ha (pa_cons hb pa_nil (starEach_cons nb)) (starEach_cons na)) (starEach_cons na) (backTo_any (by simp [nb]))) fun σ H Q hq => ?_
  obtain ⟨F0, ρ, ds, ρ', S, ev, q⟩ := hq
  obtain ⟨⟨r1, ρ1⟩, e1, ev⟩ := Option.bind_eq_some_iff.mp ev
  obtain ⟨⟨x, ρ2⟩, e2, ev⟩ := Option.bind_eq_some_iff.mp ev
  obtain ⟨⟨r3, ρ3⟩, e3, ev⟩ := Option.bind_eq_some_iff.mp ev
  obtain ⟨⟨y, ρ4⟩, e4, ev⟩ := Option.bind_eq_some_iff.mp ev
  obtain ⟨zs, e5, ev⟩ := Option.map_eq_some_iff.mp ev
  cases ev
  refine ⟨F0, ρ, r1, ρ1, S, e1, fun v1 H1 F1 p1 => ?_⟩
  obtain ⟨st, r⟩ := p1.esc S e2
  refine ⟨_, ρ2, r3, ρ3, st.sr, e3, fun v2 H2 F2 p2 => ?_⟩
  obtain ⟨st2, r2⟩ := p2.esc st.sr e4
  have r' := st2.rep r
  cases x with
  | list xs =>
    cases y with
    | list ys =>
      cases e5
      cases r' with
      | list g1 h1 l1 =>
        cases r2 with
        | list g2 h2 l2 => exact ⟨_, _, _, _, rfl, .inl ⟨sqL_of h1, sqL_of h2, q _ H2 _ (st.trans st2) (wd_zip g1 h1 l1 g2 h2 l2)⟩⟩
    | _ => cases e5
  | tuple xs =>
    cases y with
    | tuple ys =>
      cases e5
      cases r' with
      | tuple h1 l1 =>
        cases r2 with
        | tuple h2 l2 => exact ⟨_, _, _, _, rfl, .inr ⟨h1, h2, q _ H2 _ (st.trans st2) (wd_zipT h1 l1 h2 l2)⟩⟩
    | _ => cases e5
  | _ => cases y <;> cases e5
end
end SP

/-! SpComp: list comprehensions of one walk. -/
namespace SP
open PySem PySem.W PyProof.Rows L2 PySem.SeqAt

theorem wipe_in {σ : L2.St} {i : Nat} : ∀ {vs : List Nat}, i ∈ vs → i < σ.length → (wipe σ vs)[i]? = some none
  | v :: vs, h, hl => by
    unfold wipe
    by_cases e : i = v
    · subst e
      rw [List.getElem?_set_self (by rw [wipe_length]; exact hl)]
    · rw [List.getElem?_set_ne (Ne.symm e)]
      exact wipe_in ((List.mem_cons.mp h).resolve_left e) hl
theorem wipe_out {σ : L2.St} {i : Nat} : ∀ {vs : List Nat}, i ∉ vs → (wipe σ vs)[i]? = σ[i]?
  | [], _ => rfl
  | v :: vs, h => by
    unfold wipe
    rw [List.mem_cons, not_or] at h
    rw [List.getElem?_set_ne (Ne.symm h.1)]
    exact wipe_out h.2
theorem wipe_eq {σ σ' : L2.St} {vs : List Nat} (hl : σ'.length = σ.length) (h : ∀ j, j ∉ vs → σ'[j]? = σ[j]?) : wipe σ' vs = wipe σ vs := by
  refine List.ext_getElem? fun i => ?_
  by_cases m : i ∈ vs
  · by_cases l : i < σ.length
    · rw [wipe_in m l, wipe_in m (by rw [hl]; exact l)]
    · rw [List.getElem?_eq_none (by rw [wipe_length]; omega), List.getElem?_eq_none (by rw [wipe_length]; omega)]
  · rw [wipe_out m, wipe_out m]; exact h i m
theorem wipe_wipe {σ : L2.St} {vs : List Nat} : wipe (wipe σ vs) vs = wipe σ vs := wipe_eq (wipe_length σ vs) fun j h => wipe_out h
theorem wipeE_len (ρ : Env) : ∀ vs : List Nat, (wipeE ρ vs).length = ρ.length
  | [] => rfl
  | v :: vs => by unfold wipeE; rw [List.length_set, wipeE_len ρ vs]
theorem wipeE_slot {ρ : Env} {i : Nat} {s : Sl} : ∀ {vs : List Nat}, slot (wipeE ρ vs) i = some s → i ∉ vs ∧ slot ρ i = some s
  | [], h => ⟨by simp, h⟩
  | v :: vs, h => by
    unfold wipeE at h
    rcases slot_set h with ⟨_, z, _⟩ | ⟨ne, z⟩
    · cases z
    · obtain ⟨a, b⟩ := wipeE_slot z
      exact ⟨by rw [List.mem_cons, not_or]; exact ⟨ne, a⟩, b⟩
theorem backE_len (ρ ρ' : Env) : ∀ vs : List Nat, (backE ρ ρ' vs).length = ρ'.length
  | [] => rfl
  | v :: vs => by unfold backE; rw [List.length_set, backE_len ρ ρ' vs]
theorem backE_slot {ρ ρ' : Env} {i : Nat} {s : Sl} : ∀ {vs : List Nat}, (∀ v ∈ vs, v < ρ'.length) → slot (backE ρ ρ' vs) i = some s → (i ∈ vs ∧ slot ρ i = some s) ∨ (i ∉ vs ∧ slot ρ' i = some s)
  | [], _, h => .inr ⟨by simp, h⟩
  | v :: vs, hl, h => by
    unfold backE at h
    rcases slot_set h with ⟨rfl, z, _⟩ | ⟨ne, z⟩
    · exact .inl ⟨List.mem_cons_self .., z⟩
    · rcases backE_slot (fun u hu => hl u (List.mem_cons_of_mem _ hu)) z with ⟨a, b⟩ | ⟨a, b⟩
      · exact .inl ⟨List.mem_cons_of_mem _ a, b⟩
      · exact .inr ⟨by rw [List.mem_cons, not_or]; exact ⟨ne, a⟩, b⟩

section
variable {w : World} {K : Frag} {F F' : ASet} {ρ ρ' ρ1 : Env} {σ σ' σ1 : L2.St} {H H' H1 : Hp}
theorem own_wipe {vs : List Nat} {a : Addr} (o : Own (wipeE ρ vs) (wipe σ vs) a) : Own ρ σ a := by
  obtain ⟨i, m, h, e⟩ := o
  obtain ⟨n, h'⟩ := wipeE_slot h
  rw [wipe_out n] at e
  exact ⟨i, m, h', e⟩
theorem SR.wipe (S : SR w K F ρ σ H) (vs : List Nat) : SR w K F (wipeE ρ vs) (L2.wipe σ vs) H := by
  have sb : ∀ a, Bar F (wipeE ρ vs) (L2.wipe σ vs) a → H a ≠ none → Bar F ρ σ a := fun a z _ => z.elim .inl fun z => .inr (own_wipe z)
  refine ⟨by rw [wipeE_len, wipe_length]; exact S.len, S.ft, fun i d h => ?_, fun i m h => ?_, fun i j m n a h1 h2 e1 e2 => ?_⟩
  · obtain ⟨n, h'⟩ := wipeE_slot h
    obtain ⟨v, e, r⟩ := S.dat i d h'
    exact ⟨v, by rw [wipe_out n]; exact e, r.bar sb⟩
  · obtain ⟨n, h'⟩ := wipeE_slot h
    obtain ⟨a, e, nf, c⟩ := S.own i m h'
    exact ⟨a, by rw [wipe_out n]; exact e, nf, c.bar sb⟩
  · obtain ⟨n1, h1'⟩ := wipeE_slot h1
    obtain ⟨n2, h2'⟩ := wipeE_slot h2
    rw [wipe_out n1] at e1
    rw [wipe_out n2] at e2
    exact S.inj i j m n a h1' h2' e1 e2
theorem keep_updL {D : Addr} {xs ys : List V} (h : H D = some (.lst xs)) : Keep (fun a => a = D) H (upd H D (.lst ys)) := by
  refine ⟨fun a o e n => by rw [upd_ne n]; exact e, fun a e => ?_, fun a zs e => ?_, fun a o u e => ?_⟩
  · unfold upd; split
    · simp
    · exact e
  · by_cases z : a = D
    · subst z; rw [h] at e; cases e
    · rw [upd_ne z]; exact e
  · by_cases z : a = D
    · subst z; rw [h] at e; cases e
    · rw [upd_ne z]; exact e
/-- a protected object is written -/
theorem SR.wr (S : SR w K F ρ σ H) {D : Addr} (fd : F D) (k : Keep (fun a => a = D) H H') : SR w K F ρ σ H' := by
  have sb : ∀ a, a = D → Bar F ρ σ a := fun a z => .inl (z ▸ fd)
  refine ⟨S.len, fun a z => k.there a (S.ft a z), fun i d h => ?_, fun i m h => ?_, S.inj⟩
  · obtain ⟨v, e, r⟩ := S.dat i d h
    exact ⟨v, e, r.keep k sb⟩
  · obtain ⟨a, e, nf, c⟩ := S.own i m h
    exact ⟨a, e, nf, c.keep k sb fun z => nf (z ▸ fd)⟩
/-- behind a comprehension -/
theorem SR.back {vs : List Nat} {ρf : Env} {D : Addr} (S1 : SR w K F ρ1 σ H1) (S : SR w K (fun a => F a ∨ a = D) ρf (L2.wipe σ vs) H) (nd : H1 D = none) (k : Keep (Own ρ1 σ) H1 H) (os : ∀ a, Own ρf (L2.wipe σ vs) a → Own ρ1 σ a)
    (nv : ∀ v ∈ vs, isOwn (slot ρ1 v) = false ∧ v < ρ1.length) : EStep w K σ F ρ1 H1 (fun a => F a ∨ a = D) (backE ρ1 ρf vs) H := by
  have hl : ρf.length = ρ1.length := by rw [S.len, S1.len, wipe_length]
  have hlt : ∀ v ∈ vs, v < ρf.length := fun v hv => by rw [hl]; exact (nv v hv).2
  have own' : ∀ i m, slot (backE ρ1 ρf vs) i = some (.own m) → i ∉ vs ∧ slot ρf i = some (.own m) := fun i m h => by
    rcases backE_slot hlt h with ⟨a, b⟩ | z
    · have := (nv i a).1
      rw [b] at this; cases this
    · exact z
  have of : ∀ a, Own (backE ρ1 ρf vs) σ a → Own ρf (L2.wipe σ vs) a := fun a ⟨i, m, h, e⟩ => by
    obtain ⟨n, h'⟩ := own' i m h
    exact ⟨i, m, h', by rw [wipe_out n]; exact e⟩
  have sb : ∀ a, Bar (fun a => F a ∨ a = D) (backE ρ1 ρf vs) σ a → H a ≠ none → Bar (fun a => F a ∨ a = D) ρf (L2.wipe σ vs) a := fun a z _ => z.elim .inl fun z => .inr (of a z)
  have sb1 : ∀ a, (Bar (fun a => F a ∨ a = D) (backE ρ1 ρf vs) σ a ∨ Own ρ1 σ a) → H1 a ≠ none → Bar F ρ1 σ a := fun a z n => by
    rcases z with ((z | z) | z) | z
    · exact .inl z
    · exact absurd (z ▸ nd) n
    · exact .inr (os a (of a z))
    · exact .inr z
  refine ⟨fun a z => .inl z, fun a z => z.elim .inl fun z => .inr (z ▸ nd), ⟨?_, S.ft, fun i d h => ?_, fun i m h => ?_, fun i j m n a h1 h2 e1 e2 => ?_⟩, k, fun a z => os a (of a z)⟩
  · rw [backE_len, hl]; exact S1.len
  · rcases backE_slot hlt h with ⟨a, b⟩ | ⟨n, b⟩
    · obtain ⟨v, e, r⟩ := S1.dat i d b
      exact ⟨v, e, keepR k sb1 r⟩
    · obtain ⟨v, e, r⟩ := S.dat i d b
      rw [wipe_out n] at e
      exact ⟨v, e, r.bar sb⟩
  · obtain ⟨n, b⟩ := own' i m h
    obtain ⟨a, e, nf, c⟩ := S.own i m b
    rw [wipe_out n] at e
    exact ⟨a, e, nf, c.bar sb⟩
  · obtain ⟨n1, b1⟩ := own' i m h1
    obtain ⟨n2, b2⟩ := own' j n h2
    exact S.inj i j m n a b1 b2 (by rw [wipe_out n1]; exact e1) (by rw [wipe_out n2]; exact e2)
end

section
variable {X : Cx}
def fComp (fE : Env → Option (R × Env)) (fC : Env → Option (Bool × Env)) (fI : Env → Option (List D × Env)) (tg : Tg) (own : List Nat) : Env → Option (R × Env) := fun ρ => (fI ρ).bind fun (ds, ρ1) =>
  if own.all (fun v => !isOwn (slot ρ1 v) && decide (v < ρ1.length)) then
    (turns fE fC tg own ds (wipeE ρ1 own)).bind fun (ys, ρ2) => if ys.length ≤ szMax then some (.new (.lst ys), backE ρ1 ρ2 own) else none
  else none
theorem lc_go {fE : Env → Option (R × Env)} {fC : Env → Option (Bool × Env)} {fI : Env → Option (List D × Env)} {tg : Tg} {vs : List Nat} (sub : ∀ i ∈ tg.ix, i ∈ vs) {σ : L2.St} {H : Hp} {Q : VK}
    (h : tE X (fComp fE fC fI tg vs) σ H Q) : tLc (tI X fI) (gTg X.K tg) (tT X fC) (tE X fE) vs σ H Q := by
  obtain ⟨F0, ρ, r, ρ', S, ev, q⟩ := h
  obtain ⟨⟨ds, ρ1⟩, e1, ev⟩ := Option.bind_eq_some_iff.mp ev
  dsimp only at ev
  split at ev
  · rename_i hown
    obtain ⟨⟨ys, ρf⟩, e2, ev⟩ := Option.bind_eq_some_iff.mp ev
    dsimp only at ev
    split at ev
    · rename_i hys
      cases ev
      refine ⟨F0, ρ, ds, ρ1, S, e1, fun J H1 F1 p wd D hD => ?_⟩
      obtain ⟨Gd, Y, wk, wd1, wd2⟩ := wd.ex
      have nv : ∀ v ∈ vs, isOwn (slot ρ1 v) = false ∧ v < ρ1.length := fun v hv => by
        have := List.all_eq_true.mp hown v hv
        simpa using this
      let FD : ASet := fun a => F1 a ∨ a = D
      let σb := wipe σ vs
      let ρb := wipeE ρ1 vs
      let Hs := upd H1 D (.lst [])
      have kn : ∀ a, Own ρb σb a → Own ρ1 σ a := fun a z => own_wipe z
      refine lc_it wk (fun i Hi => ∃ ρi yr accV accD, turns fE fC tg vs (ds.drop i) ρi = some (yr, ρf) ∧ accD ++ yr = ys ∧ SR X.w X.K FD ρi σb Hi ∧ Keep (fun a => Own ρb σb a ∨ a = D) Hs Hi ∧
        (∀ a, Own ρi σb a → Own ρb σb a) ∧ Hi D = some (.lst accV) ∧ RepL X.w X.K (Bar FD ρi σb) Hi accV accD) ?_ ?_ ?_ ?_
      · refine ⟨ρb, ys, [], [], e2, rfl, ((p.sr.grow (F' := FD) (same_upd hD) (fun a z => z.elim .inl fun z => .inr (z ▸ hD)) fun a z => ?_).wipe vs), Keep.refl, fun _ z => z, upd_same, .nil⟩
        rcases z with z | z
        · exact (Keep.of_same (O := fun _ => False) (same_upd hD)).there a (p.sr.ft a z)
        · rw [z, upd_same]; simp
      · intro i Hi _ ⟨ρi, yr, accV, accD, _, _, _, k, _⟩
        refine wd1 (Own ρ1 σ) Hi ((Keep.of_same (same_upd hD)).trans2 k fun a z => ?_) fun a z _ => .inr z
        rcases z with z | z
        · exact .inl (kn a z)
        · exact .inr (z ▸ hD)
      · intro i x Hi Hj hi ⟨ρi, yr, accV, accD, et, ea, Si, k, os, hacc, ra⟩ y
        have ktot : Keep (Own ρ1 σ) H1 Hi := (Keep.of_same (same_upd hD)).trans2 k fun a z => z.elim (fun z => .inl (kn a z)) fun z => .inr (z ▸ hD)
        obtain ⟨sm, rx⟩ := wd2 (Own ρ1 σ) Hi (Bar FD ρi σb) ktot (fun a z n => by
          rcases z with ((z | z) | z) | z
          · exact .inl z
          · exact absurd (z ▸ hD) n
          · exact .inr (kn a (os a z))
          · exact .inr z) i ds[i] x Hj (by simp [hi]) y
        have hdr : ds.drop i = ds[i] :: ds.drop (i + 1) := List.drop_eq_getElem_cons hi
        rw [hdr] at et
        unfold turns at et
        obtain ⟨ρa, ea1, et⟩ := Option.bind_eq_some_iff.mp et
        obtain ⟨⟨kk, ρc⟩, ec, et⟩ := Option.bind_eq_some_iff.mp et
        have Sj := Si.same sm
        have raj : RepL X.w X.K (Bar FD ρi σb) Hj accV accD := (EStep.same Si sm).repL ra
        have haccj : Hj D = some (.lst accV) := (Keep.of_same (O := fun _ => False) sm).keep D _ hacc fun z => z
        have kj : Keep (fun a => Own ρb σb a ∨ a = D) Hs Hj := k.trans2 (Keep.of_same (O := fun _ => False) sm) fun _ z => z.elim
        have wp : ∀ {σ2 : L2.St}, AStep X.w X.K FD σb ρi Hj tg.ix σ2 ρa → wipe σ2 vs = σb := fun A => by
          rw [wipe_eq A.len fun j hj => A.off j fun z => hj (sub j z)]
          exact wipe_wipe
        refine tg_asg Sj rx ea1 fun σ2 A => ⟨wp A, FD, ρa, kk, ρc, A.sr, ec, fun H3 F3 p3 => ?_⟩
        have fD : FD D := .inr rfl
        /- behind the turn's last step -/
        have fin : ∀ {Fe : ASet} {ρe : Env} {He Hz : Hp} {accV' : List V} {accD' yr' : List PyData}, EStep X.w X.K σ2 FD ρa Hj Fe ρe He → Keep (fun a => a = D) He Hz → turns fE fC tg vs (ds.drop (i + 1)) (wipeE ρe vs) = some (yr', ρf) → accD' ++ yr' = ys →
            Hz D = some (.lst accV') → RepL X.w X.K (Bar Fe ρe σ2) Hz accV' accD' →
            ∃ ρi yr accV accD, turns fE fC tg vs (ds.drop (i + 1)) ρi = some (yr, ρf) ∧ accD ++ yr = ys ∧ SR X.w X.K FD ρi σb Hz ∧ Keep (fun a => Own ρb σb a ∨ a = D) Hs Hz ∧
              (∀ a, Own ρi σb a → Own ρb σb a) ∧ Hz D = some (.lst accV) ∧ RepL X.w X.K (Bar FD ρi σb) Hz accV accD := by
          intro Fe ρe He Hz accV' accD' yr' st kz eh ea' hz rz
          have S1 := ((st.sr.less st.sub).wr fD kz).wipe vs
          rw [wp A] at S1
          have oe : ∀ a, Own (wipeE ρe vs) σb a → Own ρe σ2 a := fun a z => own_wipe (vs := vs) (by rw [wp A]; exact z)
          refine ⟨wipeE ρe vs, yr', accV', accD', eh, ea', S1, ?_, fun a z => os a (A.own a (st.osub a (oe a z))), hz, rz.bar fun a z _ => ?_⟩
          · refine kj.trans2 ((st.keep.mono (O' := fun a => Own ρb σb a ∨ a = D) fun a z => .inl (os a (A.own a z))).trans2 kz fun a z => .inl (.inr z)) fun a z => .inl z
          · rcases z with z | z
            · exact .inl (st.sub a z)
            · exact .inr (oe a z)
        cases kk with
        | true =>
          simp only [if_true]
          obtain ⟨⟨re, ρe⟩, ee, et⟩ := Option.bind_eq_some_iff.mp et
          obtain ⟨⟨yd, ρg⟩, eg, et⟩ := Option.bind_eq_some_iff.mp et
          obtain ⟨⟨yr', ρh⟩, eh, et⟩ := Option.map_eq_some_iff.mp et
          cases et
          refine ⟨F3, ρc, re, ρe, p3.sr, ee, fun yv H4 F4 p4 => ?_⟩
          obtain ⟨st4, ry⟩ := p4.esc p3.sr eg
          have st := p3.trans st4
          have hD4 : H4 D = some (.lst accV) := st.keep.keep D _ haccj fun z => (A.sr.own_some z).2 fD
          have ra4 := st.repL (raj.bar A.bar)
          have hlen : accD.length + 1 ≤ ys.length := by rw [← ea]; simp
          have kz := keep_updL (ys := accV ++ [yv]) hD4
          refine ⟨accV, hD4, ?_, fin (accD' := accD ++ [yd]) st kz eh (by rw [← ea]; simp) upd_same (RepL.keep kz (fun a z => .inl (z ▸ st.sub D fD)) (ra4.app (.cons ry .nil)))⟩
          have h1 := szLine
          have h2 : (szMax : Nat) = 1000000 := rfl
          rw [ra4.length]
          omega
        | false =>
          simp only [Bool.false_eq_true, if_false]
          have hD3 : H3 D = some (.lst accV) := p3.keep.keep D _ haccj fun z => (A.sr.own_some z).2 fD
          exact fin p3 Keep.refl et ea hD3 (p3.repL (raj.bar A.bar))
      · intro Hn ⟨ρi, yr, accV, accD, et, ea, Si, k, os, hacc, ra⟩
        rw [List.drop_length] at et
        cases et
        rw [List.append_nil] at ea
        subst ea
        have ktot : Keep (Own ρ1 σ) H1 Hn := (Keep.of_same (same_upd hD)).trans2 k fun a z => z.elim (fun z => .inl (kn a z)) fun z => .inr (z ▸ hD)
        have st2 := SR.back p.sr Si hD ktot (fun a z => kn a (os a z)) nv
        refine q _ Hn FD ⟨p.trans st2, ⟨D, rfl, .inr rfl, .lst hacc (ra.bar fun a z _ => ?_)⟩, fun m e => ⟨D, rfl, p.none hD⟩⟩
        rcases z with z | ⟨j, m, h, e⟩
        · exact .inl z
        · refine .inr ?_
          have hl : ∀ v ∈ vs, v < ρf.length := fun v hv => by
            rw [Si.len, wipe_length, ← p.sr.len]; exact (nv v hv).2
          rcases backE_slot hl h with ⟨a1, b1⟩ | ⟨n1, b1⟩
          · have := (nv j a1).1
            rw [b1] at this; cases this
          · exact ⟨j, m, b1, by rw [wipe_out n1]; exact e⟩
    · cases ev
  · cases ev
end
end SP

/-! SpDl: the loops of a dict comprehension's block, of one walk and of two; its opening. -/
namespace SP
open PySem PySem.W PyProof.Rows L2 PySem.SeqAt

/-- one turn's pair, put into the dict -/
def pairS (kx vx : Expr) (p : Addr) (env : PySem.Env) : Sem Unit := do
  let kv ← eval kx env
  let vv ← holding [kv] (eval vx env)
  standAt { kx.pos with endLine := vx.pos.endLine, endCol := vx.pos.endCol }
  holding [kv, vv] (dictSet p kv vv)
/-- a turn's tests -/
def testS (ifs : List Expr) (env : PySem.Env) : Sem Bool := do
  let mut ok := true
  for c in ifs do
    if ok then ok ← isTrue c env (eval c env)
  pure ok
theorem dturn_out (kx vx t0 i0 t1 i1 : Expr) (ifs0 ifs1 : List Expr) (scope : Scope) (pos : Pos) (it acc : Value) (env : PySem.Env) :
    compTurn (.DictComp kx vx [⟨t0, i0, ifs0, 0⟩, ⟨t1, i1, ifs1, 0⟩] scope pos) 0 it acc env = (do
      standAt i0.pos
      match ← pyNext it with
      | none => pure (.done .next)
      | some v =>
        letOwnedTupleGo t0 it v
        assign t0 env v
        let mut ok := true
        for c in ifs0 do
          if ok then ok ← isTrue c env (eval c env)
        if ok then
          let x ← eval i1 env
          standAt i1.pos
          let x ← foldedSetIterable i1 env x
          let _ ← runOwn (.compStart (.DictComp kx vx [⟨t0, i0, ifs0, 0⟩, ⟨t1, i1, ifs1, 0⟩] scope pos) 1 (← holding [x] (pyIter x)) acc env) env
        again (.compLoop (.DictComp kx vx [⟨t0, i0, ifs0, 0⟩, ⟨t1, i1, ifs1, 0⟩] scope pos) 0 it acc env)) := by rfl
theorem dturn_in (kx vx t0 i0 t1 i1 : Expr) (ifs0 ifs1 : List Expr) (scope : Scope) (pos : Pos) (it : Value) (p : Addr) (env : PySem.Env) :
    compTurn (.DictComp kx vx [⟨t0, i0, ifs0, 0⟩, ⟨t1, i1, ifs1, 0⟩] scope pos) 1 it (.ref p) env = (do
      standAt i1.pos
      match ← pyNext it with
      | none => pure (.done .next)
      | some v =>
        letOwnedTupleGo t1 it v
        assign t1 env v
        let mut ok := true
        for c in ifs1 do
          if ok then ok ← isTrue c env (eval c env)
        if ok then pairS kx vx p env
        again (.compLoop (.DictComp kx vx [⟨t0, i0, ifs0, 0⟩, ⟨t1, i1, ifs1, 0⟩] scope pos) 1 it (.ref p) env)) := by rfl

section
variable {prog : Program} {w : World} {A : Around} {R : Result → Shared → Prop} {E : Value → Shared → Prop} {s : Shared} {kx vx t0 i0 t1 i1 : Expr} {ifs0 ifs1 : List Expr} {scope : Scope} {pos : Pos} {it : Value} {p : Addr} {env : PySem.Env}
theorem pair_ok {Q : Unit → Shared → Prop} (h : wpAny (model prog w) A (eval kx env) (fun kv s₄ => wpAny (model prog w) A (eval vx env) (fun vv s₅ => wpAny (model prog w) A (dictSet p kv vv) Q E s₅) E s₄) E s) : wpAny (model prog w) A (pairS kx vx p env) Q E s := by
  unfold pairS
  exact wpAny_bind (wpAny_mono h (fun kv s₄ h₄ => wpAny_bind (wpAny_holding (wpAny_mono h₄ (fun vv s₅ h₅ => wpAny_bind (wpAny_standAt (wpAny_holding h₅))) fun _ _ z => z))) fun _ _ z => z)
abbrev tests (ifs : List Expr) (env : PySem.Env) : Sem Bool := forIn ifs true fun c r => if r = true then do let ok ← isTrue c env (eval c env); pure (ForInStep.yield ok) else pure (ForInStep.yield r)
/-- the outer loop of two walks -/
theorem dloop_out (hs : ∀ x, foldedSetIterable i1 env x = pure x) (I : Nat → Shared → Prop)
    (turn : ∀ n s, I n s → wpAny (model prog w) A (pyNext it) (fun r s₁ => match r with
      | none => R (.ok .next) s₁
      | some v => wpAny (model prog w) A (letOwnedTupleGo t0 it v) (fun _ s₁' => wpAny (model prog w) A (assign t0 env v) (fun _ s₂ => wpAny (model prog w) A (tests ifs0 env) (fun ok s₃ =>
          if ok = true then wpAny (model prog w) A (eval i1 env) (fun x s₄ => wpAny (model prog w) A (pyIter x) (fun it1 s₅ =>
            codeAny (model prog w) A (.compStart (.DictComp kx vx [⟨t0, i0, ifs0, 0⟩, ⟨t1, i1, ifs1, 0⟩] scope pos) 1 it1 (.ref p) env) (fun r s' => match r with
              | .ok _ => ∃ m, m < n ∧ I m s'
              | .error _ => False) s₅) (notedBy (model prog w) A env fun e s' => R (.error e) s') s₄) (notedBy (model prog w) A env fun e s' => R (.error e) s') s₃
          else ∃ m, m < n ∧ I m s₃) (notedBy (model prog w) A env fun e s' => R (.error e) s') s₂) (notedBy (model prog w) A env fun e s' => R (.error e) s') s₁') (notedBy (model prog w) A env fun e s' => R (.error e) s') s₁) (notedBy (model prog w) A env fun e s' => R (.error e) s') s)
    (n : Nat) (h : I n s) :
    codeAny (model prog w) A (.compLoop (.DictComp kx vx [⟨t0, i0, ifs0, 0⟩, ⟨t1, i1, ifs1, 0⟩] scope pos) 0 it (.ref p) env) R s := by
  refine codeAny_loop rfl I (fun n s hI => ?_) n h
  show wpAny _ A ((compTurn (.DictComp kx vx [⟨t0, i0, ifs0, 0⟩, ⟨t1, i1, ifs1, 0⟩] scope pos) 0 it (.ref p) env).onRaise (fun x => do noteFrame x env; theTreesLotGoes x)) _ _ s
  refine wpAny_noted ?_
  rw [dturn_out]
  refine wpAny_bind (wpAny_standAt (wpAny_bind (wpAny_mono (turn n s hI) (fun r s₁ h₁ => ?_) fun _ _ z => z)))
  cases r with
  | none => exact wpAny_pure h₁
  | some v =>
    refine wpAny_bind (wpAny_mono h₁ (fun _ s₁' h₁' => wpAny_bind (wpAny_mono h₁' (fun _ s₂ h₂ => wpAny_bind (wpAny_mono h₂ (fun ok s₃ h₃ => ?_) fun _ _ z => z)) fun _ _ z => z)) fun _ _ z => z)
    cases ok with
    | false => exact wpAny_pure ⟨rfl, h₃⟩
    | true =>
      refine wpAny_bind (wpAny_mono h₃ (fun x s₄ h₄ => wpAny_bind (wpAny_standAt (wpAny_bind (wpAny_of_eq (hs x) (wpAny_bind (wpAny_holding (wpAny_mono h₄ (fun it1 s₅ h₅ => ?_) fun _ _ z => z))))))) fun _ _ z => z)
      refine wpAny_bind (wpAny_runOwn ?_)
      rw [Around.mark_none]
      refine codeAny_mono h₅ fun r s' hr => ?_
      cases r with
      | ok f =>
        first
          | exact wpAny_pure ⟨rfl, hr⟩
          | exact wpAny_bind (wpAny_pure (wpAny_pure ⟨rfl, hr⟩))
      | error e => exact hr.elim
/-- the inner one -/
theorem dloop_in (I : Nat → Shared → Prop)
    (turn : ∀ n s, I n s → wpAny (model prog w) A (pyNext it) (fun r s₁ => match r with
      | none => R (.ok .next) s₁
      | some v => wpAny (model prog w) A (letOwnedTupleGo t1 it v) (fun _ s₁' => wpAny (model prog w) A (assign t1 env v) (fun _ s₂ => wpAny (model prog w) A (tests ifs1 env) (fun ok s₃ =>
          if ok = true then wpAny (model prog w) A (eval kx env) (fun kv s₄ => wpAny (model prog w) A (eval vx env) (fun vv s₅ =>
            wpAny (model prog w) A (dictSet p kv vv) (fun _ s₆ => ∃ m, m < n ∧ I m s₆) (notedBy (model prog w) A env fun e s' => R (.error e) s') s₅) (notedBy (model prog w) A env fun e s' => R (.error e) s') s₄) (notedBy (model prog w) A env fun e s' => R (.error e) s') s₃
          else ∃ m, m < n ∧ I m s₃) (notedBy (model prog w) A env fun e s' => R (.error e) s') s₂) (notedBy (model prog w) A env fun e s' => R (.error e) s') s₁') (notedBy (model prog w) A env fun e s' => R (.error e) s') s₁) (notedBy (model prog w) A env fun e s' => R (.error e) s') s)
    (n : Nat) (h : I n s) :
    codeAny (model prog w) A (.compLoop (.DictComp kx vx [⟨t0, i0, ifs0, 0⟩, ⟨t1, i1, ifs1, 0⟩] scope pos) 1 it (.ref p) env) R s := by
  refine codeAny_loop rfl I (fun n s hI => ?_) n h
  show wpAny _ A ((compTurn (.DictComp kx vx [⟨t0, i0, ifs0, 0⟩, ⟨t1, i1, ifs1, 0⟩] scope pos) 1 it (.ref p) env).onRaise (fun x => do noteFrame x env; theTreesLotGoes x)) _ _ s
  refine wpAny_noted ?_
  rw [dturn_in]
  refine wpAny_bind (wpAny_standAt (wpAny_bind (wpAny_mono (turn n s hI) (fun r s₁ h₁ => ?_) fun _ _ z => z)))
  cases r with
  | none => exact wpAny_pure h₁
  | some v =>
    refine wpAny_bind (wpAny_mono h₁ (fun _ s₁' h₁' => wpAny_bind (wpAny_mono h₁' (fun _ s₂ h₂ => wpAny_bind (wpAny_mono h₂ (fun ok s₃ h₃ => ?_) fun _ _ z => z)) fun _ _ z => z)) fun _ _ z => z)
    cases ok with
    | false => exact wpAny_pure ⟨rfl, h₃⟩
    | true => exact wpAny_bind (wpAny_mono (pair_ok h₃) (fun _ s₆ h₆ => wpAny_pure ⟨rfl, h₆⟩) fun _ _ z => z)
/-- the start of the inner one -/
theorem dstart_in (h0 : codeAny (model prog w) A (.compLoop (.DictComp kx vx [⟨t0, i0, ifs0, 0⟩, ⟨t1, i1, ifs1, 0⟩] scope pos) 1 it (.ref p) env) R s)
    (h : wpAny (model prog w) A (pyIter it) (fun it' s' => codeAny (model prog w) A (.compLoop (.DictComp kx vx [⟨t0, i0, ifs0, 0⟩, ⟨t1, i1, ifs1, 0⟩] scope pos) 1 it' (.ref p) env) R s')
      (notedBy (model prog w) A env fun x s' => R (.error x) s') s) :
    codeAny (model prog w) A (.compStart (.DictComp kx vx [⟨t0, i0, ifs0, 0⟩, ⟨t1, i1, ifs1, 0⟩] scope pos) 1 it (.ref p) env) R s := by
  refine codeAny_of_tree ?_
  show wpAny _ _ ((compStart (.DictComp kx vx [⟨t0, i0, ifs0, 0⟩, ⟨t1, i1, ifs1, 0⟩] scope pos) 1 it (.ref p) env).onRaise (fun x => do noteFrame x env; standAt theWindowsPlace)) _ _ s
  refine wpAny_notedAt ?_
  unfold compStart
  show wpAny _ _ (ask >>= _) _ _ s
  refine wpAny_bind (wpAny_askSetting (wpAny_ite ?_))
  split
  · first
      | exact wpAny_bind (wpAny_pure (wpAny_pure (And.intro rfl h0)))
      | exact wpAny_pure (And.intro rfl h0)
  · first
      | exact wpAny_bind (wpAny_rule (wpAny_bind (wpAny_standAt (wpAny_bind (wpAny_mono h (fun it' s' h' => wpAny_pure (And.intro rfl h')) fun _ _ x => x)))))
      | (refine wpAny_bind (wpAny_rule ?_); show wpAny _ _ (standAt i1.pos >>= _) _ _ s; exact wpAny_bind (wpAny_standAt (wpAny_bind (wpAny_mono h (fun it' s' h' => wpAny_pure (And.intro rfl h')) fun _ _ x => x))))
end

/-! ### a new dict -/
def dNew : Obj := { cls := .type "dict", data := .dict #[] }
theorem dk0 {w : World} {a : Addr} (h : (a == sysModules) = false) : DOk w a dNew [] [] :=
  ⟨⟨rfl, rfl, rfl⟩, ⟨0, [], rfl, .nil⟩, rfl, List.nodup_nil, (fun _ z => nomatch z), h, Nat.zero_le _⟩
theorem raw_ok {P : Program} {w : World} {H : Hp} {h : Heap} {a : Addr} {o : Obj} (e : h.get? a = some o) : ObjOk P w H h a (rawD a o) := ⟨e, ⟨o, e⟩, fun _ _ p q => q o p⟩
section
variable {X : Cx} {pins : List (Addr × Obj)} {σ : L2.St} {H : Hp} {s : Shared}
theorem big_ne (I : Inv X pins σ H s) : (s.heap.objs.size == sysModules) = false := beq_eq_false_iff_ne.mpr (Nat.ne_of_gt I.big)
theorem inv_dnew (I : Inv X pins σ H s) : Inv X pins σ (upd H s.heap.objs.size (rawD s.heap.objs.size dNew)) { s with heap := s.heap.push dNew } :=
  I.laid (a := s.heap.objs.size) (t' := s.toks) (fun _ _ q => Heap.get?_push_of_some _ q) (Nat.le_refl _) (raw_ok (Heap.get?_push_size _ rfl))
theorem post_dct0 {w : World} {K : Frag} {G : ASet} {p : Addr} (np : H p = none) (hs : (p == sysModules) = false) : OpPost w K G H (.own (.dct [])) (.ref p) (upd H p (rawD p dNew)) :=
  ⟨same_upd np, p, rfl, np, .dct upd_same (dk0 hs) .nil .nil⟩
/-- {} -/
theorem e_dct0 {pos : Pos} : PE X (.Dict [] [] pos) (tE X fun ρ => some (.new (.dct []), ρ)) := by
  refine ⟨fun pins s σ H Q I h => ?_⟩
  obtain ⟨F0, ρ, r, ρ', S, ev, q⟩ := h
  cases ev
  obtain ⟨F3, P⟩ := EPost.op (s := .own (.dct [])) (EStep.refl S) (post_dct0 (I.hok.fresh (Nat.le_refl _)) (big_ne I))
  exact wpAny_Dict_empty ⟨.ref s.heap.objs.size, _, inv_dnew I, rfl, q _ _ F3 P⟩
/-- a pair put into the dict at p -/
def rPutD (w : World) (K : Frag) (p : Addr) (y z : V) (H : Hp) (Q : Hp → Prop) : Prop :=
  ∃ ob es kvs kd k G, H p = some (rawD p ob) ∧ DOk w p ob es kvs ∧ RepL w K G H (es.map (·.1)) (kvs.map (·.1)) ∧ Top w K G H y kd ∧ famK kvs kd = some k ∧ es.length < sizeLine ∧
    ∀ ob' : Obj, ob'.ExactDict → (∃ (ep : Nat) (xs : List DictEntry), ob'.data = .dict xs.toArray ep ∧ Paired (fun (p : Ent) (e : DictEntry) => RelV p.1 e.key ∧ RelV p.2.1 e.val ∧ e.hash = p.2.2.hash w) (putE es k y z) xs) → Q (upd H p (rawD p ob'))
theorem dset_any {E : Value → Shared → Prop} {p : Addr} {y z : V} {u r : Value} {Q : Hp → Prop} (hr : X.A.units + 20 < cLine) (I : Inv X pins σ H s) (ru : RelV y u) (rr : RelV z r) (h : rPutD X.w X.K p y z H Q) :
    wpAny (model X.prog X.w) X.A (dictSet p u r) (fun _ s' => ∃ H', Inv X pins σ H' s' ∧ Q H') E s := by
  obtain ⟨ob, es, kvs, kd, k, G, he, n, rk, t, fk, hl, q⟩ := h
  exact v_dset hr I he hl (view I he n rk t ru fk) rr fun ob' s' I' g1 g2 => ⟨_, I', q ob' g1 g2⟩
theorem cell_put {w : World} {K : Frag} {G : ASet} {p : Addr} {kvs kvs' : List (D × D)} {x y : D} {xv yv : V} (c : Cell w K G H p (.dct kvs)) (gp : G p) (tx : Rep w K G H xv x) (ry : Rep w K G H yv y) (e : putF kvs x y = some kvs') :
    rPutD w K p xv yv H fun H' => Keep (fun a => a = p) H H' ∧ Cell w K G H' p (.dct kvs') := by
  obtain ⟨kk, fk, hlt, rfl⟩ : ∃ kk, famK kvs x = some kk ∧ kvs.length < szMax ∧ kvs' = put kvs kk x y := by
    unfold putF at e
    split at e
    · rename_i kk z
      split at e
      · rename_i z2; cases e; exact ⟨kk, z, z2, rfl⟩
      · cases e
    · cases e
  cases c with
  | @dct es0 _ ob gg n0 rk rv =>
    obtain ⟨hk, dp, _⟩ := famK_of fk
    have hel : es0.length < sizeLine := by
      have h1 := rk.length
      have h2 := szLine
      simp only [List.length_map] at h1
      omega
    refine ⟨ob, es0, kvs, x, kk, _, gg, n0, rk, .rep tx, fk, hel, fun ob' g1 g2 => ?_⟩
    have kz := keep_updD (o' := ob') gg
    obtain ⟨w1, w2⟩ := rep_put (k := kk) n0.keys rk rv (tx.imm (keyOf_imm hk)) ry
    exact ⟨kz, .dct upd_same (n0.put (look_isSome n0.keys rv) hk dp hel g1 g2) (RepL.keep kz (fun x z => z ▸ gp) w1) (RepL.keep kz (fun x z => z ▸ gp) w2)⟩

/-! ### the opening of a comprehension -/
theorem comp_open {Q : VK} {cx tg iter : Expr} {ifs : List Expr} {gs : List Comprehension} {scope : Scope} {own : List (Str × Nat)} {pos' : Pos} {wi : TI} {ob : Obj} {ho : Addr → HO} {mk : Sem Value} {Z : It → Hp → Addr → Prop} {use : Option (Value → Sem Unit)} {Qf : Value → Shared → Prop}
    (hc : X.calm = true) (hN : X.N.Nodup) (I : Inv X pins σ H s) (hi : PI X tg iter wi) (ok : BlkOk X.N X.env.scope scope own) (hs : ∀ x, foldedSetIterable iter X.env x = pure x) (hcl : clausesOf cx = ⟨tg, iter, ifs, 0⟩ :: gs)
    (hmk : ∀ {A : Around} {E : Value → Shared → Prop} {s : Shared} {Q : Value → Shared → Prop}, Q (.ref s.heap.objs.size) { s with heap := s.heap.push ob } → wpAny (model X.prog X.w) A mk Q E s)
    (hob : ∀ (H : Hp) (h : Heap), sysModules < h.objs.size → ObjOk X.prog X.w (upd H h.objs.size (ho h.objs.size)) (h.push ob) h.objs.size (ho h.objs.size))
    (hst : ∀ {A : Around} {R : Result → Shared → Prop} {s : Shared} {it acc : Value} {env : PySem.Env}, codeAny (model X.prog X.w) A (.compLoop cx 0 it acc env) R s →
      wpAny (model X.prog X.w) A (pyIter it) (fun it' s' => codeAny (model X.prog X.w) A (.compLoop cx 0 it' acc env) R s') (notedBy (model X.prog X.w) A env fun x s' => R (.error x) s') s → codeAny (model X.prog X.w) A (.compStart cx 0 it acc env) R s)
    (h : wi σ H fun J H1 => ∀ p, H1 p = none → (p == sysModules) = false → Z J (upd H1 p (ho p)) p)
    (loop : ∀ (s3 : Shared) (H3 : Hp) (C : Addr) (cl : List (Str × Addr)) (fp : List Addr) (p it : Addr) (tn : Nat → Heap → Prop) (J : It) (s4 : Shared) (R : Result → Shared → Prop),
      Inv (X.blk s3 H3 scope (compEnvC scope cl C X.env) fp) [] (wipe σ (own.map (·.2))) H3 s4 → Turn X.prog X.w X.K tg J fp it tn → tn 0 s4.heap → (∀ b ∈ fp, H3 b = none) → Z J H3 p →
      (∀ H5 s6, Inv (X.blk s3 H3 scope (compEnvC scope cl C X.env) fp) [] (wipe σ (own.map (·.2))) H5 s6 → Q (.ref p) H5 → R (.ok .next) s6) →
      codeAny (model X.prog X.w) X.A (.compLoop cx 0 (.ref it) (.ref p) (compEnvC scope cl C X.env)) R s4)
    (hRR : ∀ (p C : Addr) (s' : Shared) (m : Str → Option Value) (H' : Hp), Inv X pins σ H' s' → Q (.ref p) H' → s'.heap.Ns C m → FpOk X pins H' C → compPost (model X.prog X.w) X.A X.xe use Qf (.ref p) C (.ok .next) s') :
    wpAny (model X.prog X.w) X.A (comprehension cx scope X.env pos' mk false (eval iter X.env) use) Qf X.xe s := by
  have hfree : ∀ y ∈ scope.names, y.2 = .free → ∃ c, X.env.cells.lookup y.1 = some c := fun y hy e => (ok.free y hy e).elim (fun k => I.ok.has _ (.inl k)) fun k => I.ok.has _ (.inr k)
  refine wpAny_comprehension_free (use := use) hcl hs (closure_ok hfree) ok.kind (fun y hy e => by rw [ok.uniq y hy, e]) (thn (hi.run pins s σ H _ I h) fun xv s1 hx => thn hx fun itv s2 h2 => ?_)
  obtain ⟨it, fp, tn, J, H2, e, I2, T, st2, f2, q⟩ := h2
  subst e
  refine hmk (newEnv_comp ?_)
  have zz := q _ (I2.hok.fresh (Nat.le_refl _)) (big_ne I2)
  have I3 : Inv X pins σ (upd H2 s2.heap.objs.size (ho s2.heap.objs.size)) { s2 with heap := s2.heap.push ob } :=
    I2.laid (t' := s2.toks) (fun b o e => Heap.get?_push_of_some _ e) (Nat.le_refl _) (hob _ _ I2.big)
  generalize hD : s2.heap.objs.size = p at zz I3 ⊢
  generalize hs3 : ({ s2 with heap := s2.heap.push ob } : Shared) = s3 at I3 ⊢
  have h3 : s3.heap = s2.heap.push ob := by rw [← hs3]
  have f3 : ∀ b ∈ fp, FpOk X pins (upd H2 p (ho p)) b ∧ b < s3.heap.objs.size := fun b hb => by
    obtain ⟨o, e, _⟩ := T.obj _ _ st2 b hb
    have hlt := Heap.lt_size e
    refine ⟨⟨?_, (f2 b hb).2⟩, by rw [h3, Heap.size_push]; exact Nat.lt_succ_of_lt hlt⟩
    rw [upd_ne (by rw [← hD]; exact Nat.ne_of_lt hlt)]
    exact (f2 b hb).1
  have st3 : tn 0 s3.heap := T.keep _ _ _ st2 fun b _ o e => by rw [h3]; exact Heap.get?_push_of_some _ e
  have I4 := block_start I3 ok hN f3
  have st4 : tn 0 (pushCells (s3.heap.push { cls := .type "dict", data := .dict #[] }) scope.names) := T.keep _ _ _ st3 fun b _ o e => pushCells_keeps _ _ _ _ (Heap.get?_push_of_some _ e)
  have lp := loop s3 _ _ _ fp p it tn J _ (compPost (model X.prog X.w) X.A X.xe use Qf (.ref p) s3.heap.objs.size) I4 T st4 (fun b hb => (f3 b hb).1.1) zz fun H5 s6 I6 qq => by
    have I7 : Inv X pins σ H5 s6 := I3.call' (ch := fp) I6.os I6.base I6.hok I6.bare fun b hb => ⟨(f3 b hb).1.2.2.2.1, (f3 b hb).1.2.1, (f3 b hb).1.2.2.2.2.1, (f3 b hb).1.2.2.2.2.2⟩
    have nC : H5 s3.heap.objs.size = none := I6.free
    obtain ⟨m, hn, _⟩ := I6.loc
    exact hRR p s3.heap.objs.size s6 m H5 I7 qq hn (I3.fpOk (Nat.le_refl _) nC)
  exact hst lp (T.self X.A 0 _ _ _ st4 lp)

/-- a comprehension, whatever becomes of its value -/
structure CmpR (X : Cx) (cx iter : Expr) (scope : Scope) (mk : Sem Value) (tc : TE) : Prop where
  run : ∀ {pins : List (Addr × Obj)} {s : Shared} {σ : L2.St} {H : Hp} {Q : VK} {pos' : Pos} {use : Option (Value → Sem Unit)} {Qf : Value → Shared → Prop}, Inv X pins σ H s → tc σ H Q →
    (∀ (p C : Addr) (s' : Shared) (m : Str → Option Value) (H' : Hp), Inv X pins σ H' s' → Q (.ref p) H' → s'.heap.Ns C m → FpOk X pins H' C → compPost (model X.prog X.w) X.A X.xe use Qf (.ref p) C (.ok .next) s') →
    wpAny (model X.prog X.w) X.A (comprehension cx scope X.env pos' mk false (eval iter X.env) use) Qf X.xe s
theorem CmpR.pe {cx iter : Expr} {scope : Scope} {mk : Sem Value} {tc : TE} {pos' : Pos} (c : CmpR X cx iter scope mk tc) (e : eval cx X.env = comprehension cx scope X.env pos' mk false (eval iter X.env) none) : PE X cx tc := by
  refine ⟨fun pins s σ H Q I h => ?_⟩
  rw [e]
  refine c.run I h fun p C s' m H' I' q hn f => ⟨m, hn, fun h'' sb => ?_⟩
  obtain ⟨f0, f1, f2, f3, f4, f5⟩ := f
  exact ⟨.ref p, H', I'.turned (t' := s'.toks) (fun b o hb e => (sb.2 b hb).trans e) f0 f1 f3 f4 f5, rfl, q⟩
/-- name = {..} on one line, the name a local -/
theorem CmpR.ps {cx iter : Expr} {scope : Scope} {mk : Sem Value} {tc : TE} {pos' : Pos} {i : Nat} {y : Str} {py spos : Pos} (c : CmpR X cx iter scope mk tc) (hN : X.N.Nodup) (hy : X.N[i]? = some y) (hyl : X.env.scope.names.lookup y = some .local) (hsw : swapsWith cx (some (.Name y py)) spos.line X.env = pure true)
    (e : ∀ u, evalThenUse cx X.env u = (do let _ ← comprehension cx scope X.env pos' mk false (eval iter X.env) (some u); pure ())) : PS X (.Assign [.Name y py] cx spos) (tAsg tc (gName i)) := by
  refine ⟨fun pins s σ H D I h => ?_⟩
  rw [exec_Assign_Name_used _ _ _ _ hsw, e]
  refine wpAny_bind (wpAny_standAt (wpAny_bind ?_))
  have h : tc σ H (fun x H1 => gName i x σ H1 D.nx) := h
  refine wpAny_bind (thn (c.run (Qf := fun _ s' => L2.SP X pins D .next s') I h fun L C s' m H' I' q hn f => ?_) fun _ s' hq => wpAny_pure (wpAny_pure hq))
  show wpAny _ _ (assign (.Name y py) X.env (.ref L)) _ _ _
  refine wpAny_assign_Name (store_ok2 (v := V.ref L) I' hN hy (.inl hyl) rfl (fun s2 I2 ⟨a, sb, ha⟩ => ?_) (.inr hyl))
  obtain ⟨f0, f1, f2, f3, f4, f5⟩ := f
  have haC : C ≠ a := by
    rcases ha with z | z
    · rw [z]; exact f1
    · exact fun e => f4 y a z e.symm
  exact ⟨m, hn.sameBut sb haC, fun h3 sb3 => ⟨_, H', I2.turned (t' := s2.toks) (fun b o hb e => (sb3.2 b hb).trans e) f0 f1 f3 f4 f5, q⟩⟩
end
end SP

/-! SpDc: comprehensions that fill an object: dicts, two walks. -/
namespace SP
open PySem PySem.W PyProof.Rows L2 PySem.SeqAt

section
variable {w : World} {K : Frag}
theorem WalkD.move {G G' O : ASet} {H Hs : Hp} {J : It} {ds : List D} (wd : WalkD w K G H J ds) (k : Keep O H Hs) (s : ∀ a, (G' a ∨ O a) → H a ≠ none → G a) : WalkD w K G' Hs J ds := by
  obtain ⟨Gd, Y, wk, w1, w2⟩ := wd.ex
  refine ⟨Gd, Y, wk, fun O' H1 k' s' => ?_, fun O' H1 G1 k' s' i d x H2 e y => ?_⟩
  · refine w1 (fun a => O a ∨ O' a) H1 ((k.mono (O' := fun a => O a ∨ O' a) fun _ z => .inl z).trans2 k' fun a z => .inl (.inr z)) fun a z n => ?_
    rcases z with z | z
    · exact s a (.inr z) n
    · exact s a (.inl (s' a z (k.there a n))) n
  · refine w2 (fun a => O a ∨ O' a) H1 G1 ((k.mono (O' := fun a => O a ∨ O' a) fun _ z => .inl z).trans2 k' fun a z => .inl (.inr z)) (fun a z n => ?_) i d x H2 e y
    rcases z with z | z | z
    · exact s a (.inl (s' a (.inl z) (k.there a n))) n
    · exact s a (.inr z) n
    · exact s a (.inl (s' a (.inr z) (k.there a n))) n
/-- what a walk's loop wants: the walked stands as long as what else may change is O -/
structure WlkO (w : World) (K : Frag) (O G : ASet) (H : Hp) (J : It) (ds : List D) : Prop where
  ex : ∃ (Gd : Hp → Prop) (Y : Nat → Hp → V → Hp → Prop), Walk J ds.length Gd Y ∧ (∀ H1, Keep O H H1 → Gd H1) ∧
    ∀ H1 G1, Keep O H H1 → (∀ a, (G1 a ∨ O a) → H a ≠ none → G a) → ∀ (i : Nat) (d : D) (x : V) (H2 : Hp), ds[i]? = some d → Y i H1 x H2 → Same H1 H2 ∧ Rep w K G1 H2 x d
theorem WalkD.toO {G O : ASet} {H : Hp} {J : It} {ds : List D} (wd : WalkD w K G H J ds) (s : ∀ a, O a → H a ≠ none → G a) : WlkO w K O G H J ds := by
  obtain ⟨Gd, Y, wk, w1, w2⟩ := wd.ex
  exact ⟨Gd, Y, wk, fun H1 k => w1 O H1 k s, fun H1 G1 k s' => w2 O H1 G1 k s'⟩
theorem wo_list {G O : ASet} {H : Hp} {a : Addr} {vs : List V} {ds : List D} (n : ¬ O a) (h : Rd H a (.lst vs)) (r : RepL w K G H vs ds) : WlkO w K O G H (Itl K a) ds := by
  refine ⟨_, _, (by rw [← r.length]; exact walk_list (K := K) (a := a) (xs := vs)), fun H1 k => sqL_of (rd_keep k n h), fun H1 G1 k s i d x H2 e y => ?_⟩
  obtain ⟨rfl, y⟩ := y
  obtain ⟨v, e1, r1⟩ := (keepRL k s r).get e
  rw [y] at e1; cases e1
  exact ⟨Same.refl _, r1⟩
/-- a walk's loop, whatever a turn does -/
theorem walk_it {J : It} {n : Nat} {G : Hp → Prop} {Y : Nat → Hp → V → Hp → Prop} (w : Walk J n G Y) {S : V → Hp → (Hp → Prop) → Prop} {H1 : Hp} {Qd : Hp → Prop} (Pv : Nat → Hp → Prop) (h0 : Pv 0 H1) (hG : ∀ i H, i ≤ n → Pv i H → G H)
    (hs : ∀ i x H H', i < n → Pv i H → Y i H x H' → S x H' (Pv (i + 1))) (hd : ∀ H, Pv n H → Qd H) :
    ∃ W : Nat → Nat → Hp → Prop, (∃ m, W 0 m H1) ∧ ∀ i m H, W i m H → (J.stop i H ∧ Qd H) ∨ (J.go i H ∧ ∃ Nx : Hp → Prop, (∀ H', Nx H' → ∃ m', m' < m ∧ W (i + 1) m' H') ∧ ∀ x H', J.yld i H x H' → S x H' Nx) := by
  refine ⟨fun i m H => m = n - i ∧ i ≤ n ∧ Pv i H, ⟨n, by simp, Nat.zero_le _, h0⟩, ?_⟩
  rintro i m H ⟨rfl, hi, p⟩
  have q := hG i H hi p
  by_cases hlt : i < n
  · exact .inr ⟨w.goes i H hlt q, Pv (i + 1), fun H' p' => ⟨n - (i + 1), by omega, rfl, hlt, p'⟩, fun x H' y => hs i x H H' hlt p (w.yields i H x H' hlt q y)⟩
  · obtain rfl : i = n := by omega
    exact .inl ⟨w.stops H q, hd H p⟩
/-- behind a turn's element -/
structure ElPost (w : World) (K : Frag) (F : ASet) (p : Addr) (vs : List Nat) (σ : L2.St) (ρ : Env) (H : Hp) (σ' : L2.St) (ρ' : Env) (H' : Hp) (m' : MO) : Prop where
  sr : SR w K F ρ' σ' H'
  wp : wipe σ' vs = wipe σ vs
  keep : Keep (fun a => Own ρ σ a ∨ a = p) H H'
  own : ∀ a, Own ρ' σ' a → Own ρ σ a
  cell : Cell w K (Bar F ρ' σ') H' p m'
/-- an element's reading: what it adds to the object at p -/
def ElOk (w : World) (K : Frag) (p : Addr) (vs : List Nat) (EL : L2.St → Hp → (Hp → Prop) → Prop) (el : MO → Env → Option (MO × Env)) : Prop :=
  ∀ (F : ASet) (ρ : Env) (σ : L2.St) (H : Hp) (m m' : MO) (ρ' : Env) (Nx : Hp → Prop), SR w K F ρ σ H → F p → Cell w K (Bar F ρ σ) H p m → el m ρ = some (m', ρ') → (∀ σ' H', ElPost w K F p vs σ ρ H σ' ρ' H' m' → Nx H') → EL σ H Nx
/-- a turn -/
def tTurn (K : Frag) (tg : Tg) (tt : TT) (EL : L2.St → Hp → (Hp → Prop) → Prop) (vs : List Nat) (σ : L2.St) (x : V) (H' : Hp) (Nx : Hp → Prop) : Prop :=
  gTg K tg x (wipe σ vs) H' fun σ2 H2 => wipe σ2 vs = wipe σ vs ∧ tt σ2 H2 fun b H3 => if b = true then EL σ2 H3 Nx else Nx H3
/-- all that a loop wants -/
def tLoop (K : Frag) (J : It) (tg : Tg) (tt : TT) (EL : L2.St → Hp → (Hp → Prop) → Prop) (vs : List Nat) (σ : L2.St) (H1 : Hp) (Qd : Hp → Prop) : Prop :=
  ∃ W : Nat → Nat → Hp → Prop, (∃ m, W 0 m H1) ∧ ∀ i m H, W i m H → (J.stop i H ∧ Qd H) ∨ (J.go i H ∧ ∃ Nx : Hp → Prop, (∀ H', Nx H' → ∃ m', m' < m ∧ W (i + 1) m' H') ∧ ∀ x H', J.yld i H x H' → tTurn K tg tt EL vs σ x H' Nx)
end
section
variable {X : Cx}
theorem loop_go {F : ASet} {ρ1 ρf : Env} {σ : L2.St} {H1 : Hp} {J : It} {ds : List D} {p : Addr} {m0 mf : MO} {tg : Tg} {vs : List Nat} {fC : Env → Option (Bool × Env)} {el : MO → Env → Option (MO × Env)} {EL : L2.St → Hp → (Hp → Prop) → Prop} {Qd : Hp → Prop}
    (S : SR X.w X.K F ρ1 σ H1) (fp : F p) (c0 : Cell X.w X.K (Bar F ρ1 σ) H1 p m0) (wd : WlkO X.w X.K (fun a => Own ρ1 σ a ∨ a = p) (Bar F ρ1 σ) H1 J ds) (sub : ∀ i ∈ tg.ix, i ∈ vs) (hE : ElOk X.w X.K p vs EL el) (e : turnsM el fC tg vs ds m0 (wipeE ρ1 vs) = some (mf, ρf))
    (hd : ∀ Hn, SR X.w X.K F ρf (wipe σ vs) Hn → Keep (fun a => Own ρ1 σ a ∨ a = p) H1 Hn → (∀ a, Own ρf (wipe σ vs) a → Own ρ1 σ a) → Cell X.w X.K (Bar F ρf (wipe σ vs)) Hn p mf → Qd Hn) :
    tLoop X.K J tg (tT X fC) EL vs σ H1 Qd := by
  obtain ⟨Gd, Y, wk, wd1, wd2⟩ := wd.ex
  let σb := wipe σ vs
  let ρb := wipeE ρ1 vs
  have barp : Bar F ρ1 σ p := .inl fp
  have kn : ∀ a, Own ρb σb a → Own ρ1 σ a := fun a z => own_wipe z
  refine walk_it wk (fun i Hi => ∃ ρi mi, turnsM el fC tg vs (ds.drop i) mi ρi = some (mf, ρf) ∧ SR X.w X.K F ρi σb Hi ∧ Keep (fun a => Own ρ1 σ a ∨ a = p) H1 Hi ∧ (∀ a, Own ρi σb a → Own ρ1 σ a) ∧ Cell X.w X.K (Bar F ρi σb) Hi p mi) ?_ ?_ ?_ ?_
  · exact ⟨ρb, m0, e, S.wipe vs, Keep.refl, kn, c0.bar fun a z _ => z.elim .inl fun z => .inr (kn a z)⟩
  · intro i Hi _ ⟨ρi, mi, _, _, k, _⟩
    exact wd1 Hi k
  · intro i x Hi Hj hi ⟨ρi, mi, et, Si, k, os, ci⟩ y
    obtain ⟨sm, rx⟩ := wd2 Hi (Bar F ρi σb) k (fun a z _ => by
      rcases z with (z | z) | (z | z)
      · exact .inl z
      · exact .inr (os a z)
      · exact .inr z
      · exact z ▸ barp) i ds[i] x Hj (by simp [hi]) y
    rw [List.drop_eq_getElem_cons hi] at et
    unfold turnsM at et
    obtain ⟨ρa, ea1, et⟩ := Option.bind_eq_some_iff.mp et
    obtain ⟨⟨kk, ρc⟩, ec, et⟩ := Option.bind_eq_some_iff.mp et
    have Sj := Si.same sm
    have kj : Keep (fun a => Own ρ1 σ a ∨ a = p) H1 Hj := k.trans2 (Keep.of_same (O := fun _ => False) sm) fun _ z => z.elim
    have cj : Cell X.w X.K (Bar F ρi σb) Hj p mi := ci.keep (Keep.of_same (O := fun _ => False) sm) (fun _ z => z.elim) fun z => z
    have wp : ∀ {σ2 : L2.St}, AStep X.w X.K F σb ρi Hj tg.ix σ2 ρa → wipe σ2 vs = σb := fun A => by
      rw [wipe_eq A.len fun j hj => A.off j fun z => hj (sub j z)]
      exact wipe_wipe
    refine tg_asg Sj rx ea1 fun σ2 A => ⟨wp A, F, ρa, kk, ρc, A.sr, ec, fun H3 F3 p3 => ?_⟩
    have S3 : SR X.w X.K F ρc σ2 H3 := p3.sr.less p3.sub
    have c3 : Cell X.w X.K (Bar F ρc σ2) H3 p mi := by
      have ca : Cell X.w X.K (Bar F ρa σ2) Hj p mi := cj.bar A.bar
      refine (ca.keep p3.keep (fun a z => .inr z) fun z => (A.sr.own_some z).2 fp).bar fun a z _ => ?_
      exact z.elim .inl fun z => .inr (p3.osub a z)
    /- behind the turn's last step -/
    have fin : ∀ {σe : L2.St} {ρe : Env} {He : Hp} {me : MO}, ElPost X.w X.K F p vs σ2 ρc H3 σe ρe He me → turnsM el fC tg vs (ds.drop (i + 1)) me (wipeE ρe vs) = some (mf, ρf) →
        ∃ ρi mi, turnsM el fC tg vs (ds.drop (i + 1)) mi ρi = some (mf, ρf) ∧ SR X.w X.K F ρi σb He ∧ Keep (fun a => Own ρ1 σ a ∨ a = p) H1 He ∧ (∀ a, Own ρi σb a → Own ρ1 σ a) ∧ Cell X.w X.K (Bar F ρi σb) He p mi := by
      intro σe ρe He me P eh
      have ew : wipe σe vs = σb := P.wp.trans (wp A)
      have oe : ∀ a, Own (wipeE ρe vs) σb a → Own ρe σe a := fun a z => own_wipe (vs := vs) (by rw [ew]; exact z)
      have oo : ∀ a, Own ρe σe a → Own ρ1 σ a := fun a z => os a (A.own a (p3.osub a (P.own a z)))
      refine ⟨wipeE ρe vs, me, eh, by have := P.sr.wipe vs; rwa [ew] at this, ?_, fun a z => oo a (oe a z), P.cell.bar fun a z _ => z.elim .inl fun z => .inr (oe a z)⟩
      have k3 : Keep (fun a => Own ρ1 σ a ∨ a = p) Hj H3 := p3.keep.mono fun a z => .inl (os a (A.own a z))
      have k4 : Keep (fun a => Own ρ1 σ a ∨ a = p) H3 He := P.keep.mono fun a z => z.imp_left fun z => os a (A.own a (p3.osub a z))
      exact (kj.trans2 k3 fun a z => .inl z).trans2 k4 fun a z => .inl z
    cases kk with
    | true =>
      simp only [if_true]
      obtain ⟨⟨m', ρe⟩, ee, et⟩ := Option.bind_eq_some_iff.mp et
      exact hE F ρc σ2 H3 mi m' ρe _ S3 fp c3 ee fun σe He P => fin P et
    | false =>
      simp only [Bool.false_eq_true, if_false]
      exact fin ⟨S3, rfl, Keep.refl, fun _ z => z, c3⟩ et
  · intro Hn ⟨ρi, mi, et, Si, k, os, ci⟩
    rw [List.drop_length] at et
    cases et
    exact hd Hn Si k os ci

/-! ### what one turn adds -/
theorem Cell.step {F F1 : ASet} {ρ ρ1 : Env} {σ : L2.St} {H H1 : Hp} {p : Addr} {m : MO} (st : EStep X.w X.K σ F ρ H F1 ρ1 H1) (np : ¬ Own ρ σ p) (c : Cell X.w X.K (Bar F ρ σ) H p m) : Cell X.w X.K (Bar F1 ρ1 σ) H1 p m := by
  cases c with
  | lst h r => exact .lst (st.keep.keep p _ h np) (st.repL r)
  | dct h n rk rv => exact .dct (st.keep.keep p _ h np) n (st.repL rk) (st.repL rv)
def ELl (te : TE) (p : Addr) : L2.St → Hp → (Hp → Prop) → Prop := fun σ H Nx => te σ H fun y H7 => ∃ acc, H7 p = some (.lst acc) ∧ acc.length < sizeLine ∧ Nx (upd H7 p (.lst (acc ++ [y])))
theorem elL_ok {fE : Env → Option (R × Env)} {vs : List Nat} {p : Addr} : ElOk X.w X.K p vs (ELl (tE X fE) p) (elL fE) := by
  intro F ρ σ H m m' ρ' Nx S fp c e q
  obtain ⟨⟨r, ρ1⟩, e1, e⟩ := Option.bind_eq_some_iff.mp e
  obtain ⟨⟨y, ρ2⟩, e2, e⟩ := Option.bind_eq_some_iff.mp e
  refine ⟨F, ρ, r, ρ1, S, e1, fun v H1 F1 po => ?_⟩
  obtain ⟨st, ry⟩ := po.esc S e2
  have np : ¬ Own ρ σ p := fun z => (S.own_some z).2 fp
  have c1 := c.step st np
  cases m with
  | dct kvs => cases e
  | lst ds =>
    have e : (if ds.length < szMax then some (MO.lst (ds ++ [y]), ρ2) else none) = some (m', ρ') := e
    split at e
    · rename_i hl
      cases e
      cases c1 with
      | @lst accV _ h1 r1 =>
        have kz := keep_updL (ys := accV ++ [v]) h1
        refine ⟨accV, h1, by have h2 := szLine; have h3 : (szMax : Nat) = 1000000 := rfl; rw [r1.length]; omega, q σ _ ⟨(st.sr.less st.sub).wr fp kz, rfl, (st.keep.mono (O' := fun a => Own ρ σ a ∨ a = p) fun _ z => .inl z).trans2 kz fun a z => .inl (.inr z), st.osub, ?_⟩⟩
        exact .lst upd_same ((RepL.keep kz (fun a z => .inl (z ▸ st.sub p fp)) (r1.app (.cons ry .nil))).bar fun a z _ => z.imp_left (st.sub a))
    · cases e
theorem rPutD.mono {w : World} {K : Frag} {p : Addr} {y z : V} {H : Hp} {Q Q' : Hp → Prop} (h : rPutD w K p y z H Q) (i : ∀ H', Q H' → Q' H') : rPutD w K p y z H Q' := by
  obtain ⟨ob, es, kvs, kd, k, G, a, b, c, d, e, f, g⟩ := h
  exact ⟨ob, es, kvs, kd, k, G, a, b, c, d, e, f, fun ob' g1 g2 => i _ (g ob' g1 g2)⟩
def ELd (w : World) (K : Frag) (tk tv : TE) (p : Addr) : L2.St → Hp → (Hp → Prop) → Prop := fun σ H Nx => tk σ H fun y H4 => tv σ H4 fun z H5 => rPutD w K p y z H5 Nx
theorem elD_ok {fK fV : Env → Option (R × Env)} {vs : List Nat} {p : Addr} : ElOk X.w X.K p vs (ELd X.w X.K (tE X fK) (tE X fV) p) (elD fK fV) := by
  intro F ρ σ H m m' ρ' Nx S fp c e q
  obtain ⟨⟨r, ρ1⟩, e1, e⟩ := Option.bind_eq_some_iff.mp e
  obtain ⟨⟨x, ρ2⟩, e2, e⟩ := Option.bind_eq_some_iff.mp e
  obtain ⟨⟨r3, ρ3⟩, e3, e⟩ := Option.bind_eq_some_iff.mp e
  obtain ⟨⟨y, ρ4⟩, e4, e⟩ := Option.bind_eq_some_iff.mp e
  refine ⟨F, ρ, r, ρ1, S, e1, fun v H1 F1 po => ?_⟩
  obtain ⟨st, rx⟩ := po.esc S e2
  refine ⟨_, ρ2, r3, ρ3, st.sr, e3, fun u H2 F2 po2 => ?_⟩
  obtain ⟨st2, ry⟩ := po2.esc st.sr e4
  have tot := st.trans st2
  have np : ¬ Own ρ σ p := fun z => (S.own_some z).2 fp
  have c2 := c.step tot np
  cases m with
  | lst ds => cases e
  | dct kvs =>
    obtain ⟨kvs', e5, e6⟩ := Option.map_eq_some_iff.mp (show (putF kvs x y).map (fun kvs' => (MO.dct kvs', ρ4)) = some (m', ρ') from e)
    cases e6
    refine (cell_put c2 (.inl (tot.sub p fp)) (st2.rep rx) ry e5).mono fun H' ⟨kz, c3⟩ => q σ H' ⟨(tot.sr.less tot.sub).wr fp kz, rfl, (tot.keep.mono (O' := fun a => Own ρ σ a ∨ a = p) fun _ z => .inl z).trans2 kz fun a z => .inl (.inr z), tot.osub, ?_⟩
    exact c3.bar fun a z _ => z.imp_left (tot.sub a)
def EL2 (K : Frag) (wi : TI) (tg : Tg) (tt : TT) (EL : L2.St → Hp → (Hp → Prop) → Prop) (vs1 : List Nat) : L2.St → Hp → (Hp → Prop) → Prop := fun σ H Nx => wi σ H fun J1 H4 => tLoop K J1 tg tt EL vs1 σ H4 Nx
theorem wipe_sub {σ : L2.St} {vs vs1 : List Nat} (hv : ∀ i ∈ vs1, i ∈ vs) : wipe (wipe σ vs1) vs = wipe σ vs := wipe_eq (wipe_length σ vs1) fun j h => wipe_out fun z => h (hv j z)
theorem el2_ok {fI : Env → Option (List D × Env)} {fC : Env → Option (Bool × Env)} {el : MO → Env → Option (MO × Env)} {EL : L2.St → Hp → (Hp → Prop) → Prop} {tg : Tg} {vs vs1 : List Nat} {p : Addr} (hE : ElOk X.w X.K p vs1 EL el) (sub : ∀ i ∈ tg.ix, i ∈ vs1) (hv : ∀ i ∈ vs1, i ∈ vs) :
    ElOk X.w X.K p vs (EL2 X.K (tI X fI) tg (tT X fC) EL vs1) (el2 fI el fC tg vs1) := by
  intro F ρ σ H m m' ρ' Nx S fp c e q
  obtain ⟨⟨ds, ρ1⟩, e1, e2⟩ := Option.bind_eq_some_iff.mp e
  refine ⟨F, ρ, ds, ρ1, S, e1, fun J1 H1 F1 st wd => ?_⟩
  have np : ¬ Own ρ σ p := fun z => (S.own_some z).2 fp
  refine loop_go (F := F1) st.sr (st.sub p fp) (c.step st np) (wd.toO fun a z _ => z.elim .inr fun z => .inl (z ▸ st.sub p fp)) sub hE e2 fun Hn Sn kn os cn => q (wipe σ vs1) Hn ⟨Sn.less st.sub, wipe_sub hv, ?_, fun a z => st.osub a (os a z), cn.bar fun a z _ => z.imp_left (st.sub a)⟩
  exact (st.keep.mono (O' := fun a => Own ρ σ a ∨ a = p) fun _ z => .inl z).trans2 kn fun a z => .inl (z.imp_left (st.osub a))

/-! ### the whole -/
def noSys (p : Addr) : Prop := (p == sysModules) = false
def tComp (K : Frag) (wi : TI) (tg : Tg) (tt : TT) (EL : Addr → L2.St → Hp → (Hp → Prop) → Prop) (vs : List Nat) (N : Addr → Prop) (ho : Addr → HO) : TE := fun σ H Q => wi σ H fun J H1 => ∀ p, H1 p = none → N p → tLoop K J tg tt (EL p) vs σ (upd H1 p (ho p)) (Q (.ref p))
theorem comp_go {fI : Env → Option (List D × Env)} {fC : Env → Option (Bool × Env)} {el : MO → Env → Option (MO × Env)} {EL : Addr → L2.St → Hp → (Hp → Prop) → Prop} {tg : Tg} {vs : List Nat} {m0 : MO} {N : Addr → Prop} {ho : Addr → HO} (sub : ∀ i ∈ tg.ix, i ∈ vs) (hE : ∀ p, ElOk X.w X.K p vs (EL p) el)
    (h0 : ∀ (G : ASet) (H : Hp) (p : Addr), N p → H p = some (ho p) → Cell X.w X.K G H p m0) {σ : L2.St} {H : Hp} {Q : VK}
    (h : tE X (compM fI el fC tg vs m0) σ H Q) : tComp X.K (tI X fI) tg (tT X fC) EL vs N ho σ H Q := by
  obtain ⟨F0, ρ, r, ρ', S, ev, q⟩ := h
  obtain ⟨⟨ds, ρ1⟩, e1, ev⟩ := Option.bind_eq_some_iff.mp ev
  dsimp only at ev
  split at ev
  · rename_i hown
    obtain ⟨⟨mf, ρf⟩, e2, ev⟩ := Option.map_eq_some_iff.mp ev
    cases ev
    have nv : ∀ v ∈ vs, isOwn (slot ρ1 v) = false ∧ v < ρ1.length := fun v hv => by
      have := List.all_eq_true.mp hown v hv
      simpa using this
    refine ⟨F0, ρ, ds, ρ1, S, e1, fun J H1 F1 st wd p hp hs => ?_⟩
    have sg : SR X.w X.K (fun a => F1 a ∨ a = p) ρ1 σ (upd H1 p (ho p)) := st.sr.grow (same_upd hp) (fun a z => z.elim .inl fun z => .inr (z ▸ hp)) fun a z => by
      rcases z with z | z
      · exact (Keep.of_same (O := fun _ => False) (same_upd hp)).there a (st.sr.ft a z)
      · rw [z, upd_same]; simp
    have wd' : WalkD X.w X.K (Bar (fun a => F1 a ∨ a = p) ρ1 σ) (upd H1 p (ho p)) J ds := wd.move (O := fun _ => False) (Keep.of_same (same_upd hp)) fun a z n => by
      rcases z with ((z | z) | z) | z
      · exact .inl z
      · exact absurd (z ▸ hp) n
      · exact .inr z
      · exact z.elim
    refine loop_go sg (.inr rfl) (h0 _ _ p hs upd_same) (wd'.toO fun a z _ => z.elim .inr fun z => .inl (.inr z)) sub (hE p) e2 fun Hn Sn k os c => ?_
    have ktot : Keep (Own ρ1 σ) H1 Hn := (Keep.of_same (same_upd hp)).trans2 k fun a z => z.elim .inl fun z => .inr (z ▸ hp)
    have st2 := SR.back st.sr Sn hp ktot os nv
    refine q _ Hn _ ⟨st.trans st2, ⟨p, rfl, .inr rfl, c.bar fun a z _ => ?_⟩, fun m e => ⟨p, rfl, st.none hp⟩⟩
    rcases z with z | ⟨j, m, h, e⟩
    · exact .inl z
    · refine .inr ?_
      have hl : ∀ v ∈ vs, v < ρf.length := fun v hv => by
        rw [Sn.len, wipe_length, ← st.sr.len]; exact (nv v hv).2
      rcases backE_slot hl h with ⟨a1, b1⟩ | ⟨n1, b1⟩
      · have := (nv j a1).1
        rw [b1] at this; cases this
      · exact ⟨j, m, b1, by rw [wipe_out n1]; exact e⟩
  · cases ev
end
end SP

/-! SpDp: dict comprehensions of one walk and of two, list comprehensions of two, {k: v}. -/
namespace SP
open PySem PySem.W PyProof.Rows L2 PySem.SeqAt

section
variable {Xb : Cx} {tgx : Expr} {ifs : List Expr} {tg : Tg} {tt : TT} {J : It} {fp : List Addr} {it : Addr} {tn : Nat → Heap → Prop} {pins : List (Addr × Obj)} {vs : List Nat} {σ : L2.St} {i : Nat} {s5 : Shared} {H5 : Hp}
theorem turn_go {EL : L2.St → Hp → (Hp → Prop) → Prop} {Nx : Hp → Prop} {E : Value → Shared → Prop} {R0 : Shared → Prop} {ELW FIN : Shared → Prop}
    (hx : Xb.xe = fun _ _ => False) (hc : Xb.calm = true) (T : Turn Xb.prog Xb.w Xb.K tgx J fp it tn) (pg : PG Xb tgx (gTg Xb.K tg)) (pt : PTs Xb ifs tt)
    (I5 : Inv Xb pins (wipe σ vs) H5 s5) (f5 : ∀ b ∈ fp, FpOk Xb pins H5 b) (st5 : tn i s5.heap) (go : J.go i H5) (step : ∀ x H', J.yld i H5 x H' → tTurn Xb.K tg tt EL vs σ x H' Nx)
    (hel : ∀ (s7 : Shared) (σ8 : L2.St) (H9 : Hp) (s9 : Shared), tn (i + 1) s7.heap → Inv Xb (pins ++ pinsAt fp s7.heap) σ8 H9 s9 → wipe σ8 vs = wipe σ vs → EL σ8 H9 Nx → ELW s9)
    (hfin : ∀ (s7 : Shared) (σ8 : L2.St) (H9 : Hp) (s9 : Shared), tn (i + 1) s7.heap → Inv Xb (pins ++ pinsAt fp s7.heap) σ8 H9 s9 → wipe σ8 vs = wipe σ vs → Nx H9 → FIN s9) :
    wpAny (model Xb.prog Xb.w) Xb.A (pyNext (.ref it)) (fun r s1 => match r with
      | none => R0 s1
      | some v => wpAny (model Xb.prog Xb.w) Xb.A (letOwnedTupleGo tgx (.ref it) v) (fun _ s1' => wpAny (model Xb.prog Xb.w) Xb.A (assign tgx Xb.env v) (fun _ s2 => wpAny (model Xb.prog Xb.w) Xb.A (tests ifs Xb.env) (fun ok s3 =>
          if ok = true then ELW s3 else FIN s3) E s2) E s1') E s1) E s5 := by
  have ti := T.item Xb rfl rfl rfl hc i pins s5 _ H5 (fun _ _ => False) I5 f5 st5 go
  refine thnF ti fun r s6 ⟨u, hr, h6⟩ => ?_
  subst hr
  refine thnF h6 fun _ s7 ⟨x, H7, I7, r7, y7, st7, n7⟩ => ?_
  have I7' := I7.pinned (fun b hb => ⟨n7 b hb, (f5 b hb).2⟩) (T.obj _ _ st7)
  have pgr := pg.run _ s7 _ H7 x u _ I7' r7 (step x H7 y7)
  rw [hx] at pgr
  refine thnF pgr fun _ s8 ⟨σ8, H8, I8, hw8, q8⟩ => ?_
  have ptr := pt.run _ s8 σ8 H8 _ I8 q8
  rw [hx] at ptr
  refine thnF ptr fun b s9 ⟨H9, I9, q9⟩ => ?_
  cases b with
  | false =>
    simp only [Bool.false_eq_true, if_false] at q9 ⊢
    exact hfin s7 σ8 H9 s9 st7 I9 hw8 q9
  | true =>
    simp only [if_true] at q9 ⊢
    exact hel s7 σ8 H9 s9 st7 I9 hw8 q9
theorem unpin {s7 s' : Shared} {H' : Hp} {σ' : L2.St} (T : Turn Xb.prog Xb.w Xb.K tgx J fp it tn) (st7 : tn i s7.heap) (I : Inv Xb (pins ++ pinsAt fp s7.heap) σ' H' s') (hw : wipe σ' vs = wipe σ vs) :
    Inv Xb pins (wipe σ vs) H' s' ∧ tn i s'.heap ∧ ∀ b ∈ fp, H' b = none := by
  have pin' : ∀ b ∈ fp, ∀ o, s7.heap.get? b = some o → s'.heap.get? b = some o ∧ H' b = none := fun b hb o e =>
    let z := I.pin (b, o) (List.mem_append_right _ (List.mem_append_right _ (mem_pinsAt hb e)))
    ⟨z.1, z.2.1⟩
  refine ⟨(I.unpinned (pins := pins)).weak (by rw [← hw, wipe_length]) (fun j v e => ?_), T.keep _ _ _ st7 fun b hb o e => (pin' b hb o e).1, fun b hb => ?_⟩
  · rw [← hw] at e
    exact (wipe_some e).1
  · obtain ⟨o, e, _⟩ := T.obj _ _ st7 b hb
    exact (pin' b hb o e).2
end

section
variable {X : Cx}
theorem blk_xe {s : Shared} {H : Hp} {scope : Scope} {env : PySem.Env} {fp : List Addr} : (X.blk s H scope env fp).xe = fun _ _ => False := rfl
/-- {kx: vx for tg in iter if ..} -/
theorem cr_dcA {kx vx tgx iter : Expr} {ifs : List Expr} {scope : Scope} {own : List (Str × Nat)} {pos : Pos} {wi : TI} {tg : Tg} {tt : TT} {tk tv : TE} (hc : X.calm = true) (hr : X.A.units + 20 < cLine) (hN : X.N.Nodup) (hi : PI X tgx iter wi) (ok : BlkOk X.N X.env.scope scope own)
    (hg : ∀ (s : Shared) (H : Hp) (C : Addr) (cl : List (Str × Addr)) (fp : List Addr), PG (X.blk s H scope (compEnvC scope cl C X.env) fp) tgx (gTg X.K tg)) (ht : ∀ (s : Shared) (H : Hp) (C : Addr) (cl : List (Str × Addr)) (fp : List Addr), PTs (X.blk s H scope (compEnvC scope cl C X.env) fp) ifs tt)
    (hk : ∀ (s : Shared) (H : Hp) (C : Addr) (cl : List (Str × Addr)) (fp : List Addr), PE (X.blk s H scope (compEnvC scope cl C X.env) fp) kx tk)
    (he : ∀ (s : Shared) (H : Hp) (C : Addr) (cl : List (Str × Addr)) (fp : List Addr), PE (X.blk s H scope (compEnvC scope cl C X.env) fp) vx tv) (hs : ∀ x, foldedSetIterable iter X.env x = pure x) :
    CmpR X (.DictComp kx vx [⟨tgx, iter, ifs, 0⟩] scope pos) iter scope newDict (tComp X.K wi tg tt (ELd X.w X.K tk tv) (own.map (·.2)) noSys (fun p => rawD p dNew)) := by
  refine ⟨fun {pins s σ H Q pos' use Qf} I h hRR => ?_⟩
  refine comp_open (ob := dNew) (ho := fun p => rawD p dNew) (Z := fun J H p => tLoop X.K J tg tt (ELd X.w X.K tk tv p) (List.map (fun x : Str × Nat => x.2) own) σ H (Q (.ref p))) hc hN I hi ok hs rfl (fun h => wpAny_newObj_type h) (fun H h hb => raw_ok (Heap.get?_push_size _ rfl)) codeAny_compStart_dict h ?_ hRR
  intro s3 H3 C cl fp p it tn J s4 R I4 T st4 nfp ⟨W, ⟨m0, w0⟩, turn⟩ back
  have pg := hg s3 H3 C cl fp
  have pt := ht s3 H3 C cl fp
  have pk := hk s3 H3 C cl fp
  have pe := he s3 H3 C cl fp
  have hrb : (X.blk s3 H3 scope (compEnvC scope cl C X.env) fp).A.units + 20 < cLine := hr
  have stat : ∀ {σ' : L2.St} {H' : Hp} {s' : Shared}, Inv (X.blk s3 H3 scope (compEnvC scope cl C X.env) fp) [] σ' H' s' → (∀ b ∈ fp, H' b = none) → ∀ b ∈ fp, FpOk (X.blk s3 H3 scope (compEnvC scope cl C X.env) fp) [] H' b := fun {σ' H' s'} I' hn b hb =>
    ⟨hn b hb, (I'.ok.exf b hb).1, I'.ok.exfs b hb, .inl hb, fun x c e => (I'.ok.exf b hb).2 x c e, fun p hp => absurd (show p ∈ ([] : List (Addr × Obj)) ++ [] from hp) (by simp)⟩
  refine compLoop_anyD (fun n s' => ∃ i H', Inv (X.blk s3 H3 scope (compEnvC scope cl C X.env) fp) [] (wipe σ (own.map (·.2))) H' s' ∧ tn i s'.heap ∧ (∀ b ∈ fp, H' b = none) ∧ W i n H') ?_ m0 ⟨0, H3, I4, st4, nfp, w0⟩
  rintro n s5 ⟨i, H5, I5, st5, n5, w5⟩
  rcases turn i n H5 w5 with ⟨stop, qq⟩ | ⟨go, Nx, hNx, step⟩
  · refine thnF (T.done (X.blk s3 H3 scope (compEnvC scope cl C X.env) fp) rfl rfl rfl hc i [] s5 _ H5 (fun _ _ => False) I5 (stat I5 n5) st5 stop) fun r s6 ⟨hr, I6⟩ => ?_
    subst hr
    exact back H5 s6 I6 qq
  · refine turn_go (Xb := X.blk s3 H3 scope (compEnvC scope cl C X.env) fp) (pins := []) (σ := σ) rfl hc T pg pt I5 (stat I5 n5) st5 go step (fun s7 σ8 H9 s9 st7 I9 hw q9 => ?_) fun s7 σ8 H9 s9 st7 I9 hw q9 => ?_
    · have pk1 := pk.run _ s9 σ8 H9 _ I9 q9
      rw [blk_xe] at pk1
      refine thnF pk1 fun z s10 ⟨yk, H10, I10, r10, q10⟩ => ?_
      have pe1 := pe.run _ s10 σ8 H10 _ I10 q10
      rw [blk_xe] at pe1
      refine thnF pe1 fun z2 s11 ⟨yv, H11, I11, r11, q11⟩ => ?_
      refine thn (dset_any (X := X.blk s3 H3 scope (compEnvC scope cl C X.env) fp) hrb I11 r10 r11 q11) fun _ s12 ⟨H12, I12, nx⟩ => ?_
      obtain ⟨m', hm, w'⟩ := hNx _ nx
      obtain ⟨a, b, c⟩ := unpin (Xb := X.blk s3 H3 scope (compEnvC scope cl C X.env) fp) T st7 I12 hw
      exact ⟨m', hm, i + 1, _, a, b, c, w'⟩
    · obtain ⟨m', hm, w'⟩ := hNx _ q9
      obtain ⟨a, b, c⟩ := unpin (Xb := X.blk s3 H3 scope (compEnvC scope cl C X.env) fp) T st7 I9 hw
      exact ⟨m', hm, i + 1, _, a, b, c, w'⟩

/-- {kx: vx for tg in iter if .. for tg1 in iter1 if ..} -/
theorem cr_dc2A {kx vx tgx iter tgx1 iter1 : Expr} {ifs ifs1 : List Expr} {scope : Scope} {own : List (Str × Nat)} {vs1 : List Nat} {pos : Pos} {wi wi1 : TI} {tg tg1 : Tg} {tt tt1 : TT} {tk tv : TE} (hc : X.calm = true) (hr : X.A.units + 20 < cLine) (hN : X.N.Nodup) (hi : PI X tgx iter wi) (ok : BlkOk X.N X.env.scope scope own)
    (hv : ∀ i ∈ vs1, i ∈ own.map (·.2))
    (hg : ∀ (s : Shared) (H : Hp) (C : Addr) (cl : List (Str × Addr)) (fp : List Addr), PG (X.blk s H scope (compEnvC scope cl C X.env) fp) tgx (gTg X.K tg)) (ht : ∀ (s : Shared) (H : Hp) (C : Addr) (cl : List (Str × Addr)) (fp : List Addr), PTs (X.blk s H scope (compEnvC scope cl C X.env) fp) ifs tt)
    (hi1 : ∀ (s : Shared) (H : Hp) (C : Addr) (cl : List (Str × Addr)) (fp : List Addr), PI (X.blk s H scope (compEnvC scope cl C X.env) fp) tgx1 iter1 wi1)
    (hg1 : ∀ (s : Shared) (H : Hp) (C : Addr) (cl : List (Str × Addr)) (fp : List Addr), PG (X.blk s H scope (compEnvC scope cl C X.env) fp) tgx1 (gTg X.K tg1)) (ht1 : ∀ (s : Shared) (H : Hp) (C : Addr) (cl : List (Str × Addr)) (fp : List Addr), PTs (X.blk s H scope (compEnvC scope cl C X.env) fp) ifs1 tt1)
    (hk : ∀ (s : Shared) (H : Hp) (C : Addr) (cl : List (Str × Addr)) (fp : List Addr), PE (X.blk s H scope (compEnvC scope cl C X.env) fp) kx tk)
    (he : ∀ (s : Shared) (H : Hp) (C : Addr) (cl : List (Str × Addr)) (fp : List Addr), PE (X.blk s H scope (compEnvC scope cl C X.env) fp) vx tv) (hs : ∀ x, foldedSetIterable iter X.env x = pure x) (hs1 : ∀ (env : PySem.Env) (x : Value), foldedSetIterable iter1 env x = pure x) :
    CmpR X (.DictComp kx vx [⟨tgx, iter, ifs, 0⟩, ⟨tgx1, iter1, ifs1, 0⟩] scope pos) iter scope newDict (tComp X.K wi tg tt (fun p => EL2 X.K wi1 tg1 tt1 (ELd X.w X.K tk tv p) vs1) (own.map (·.2)) noSys (fun p => rawD p dNew)) := by
  refine ⟨fun {pins s σ H Q pos' use Qf} I h hRR => ?_⟩
  refine comp_open (ob := dNew) (ho := fun p => rawD p dNew) (Z := fun J H p => tLoop X.K J tg tt (EL2 X.K wi1 tg1 tt1 (ELd X.w X.K tk tv p) vs1) (List.map (fun x : Str × Nat => x.2) own) σ H (Q (.ref p))) hc hN I hi ok hs rfl (fun h => wpAny_newObj_type h) (fun H h hb => raw_ok (Heap.get?_push_size _ rfl)) codeAny_compStart_dict h ?_ hRR
  intro s3 H3 C cl fp p it tn J s4 R I4 T st4 nfp ⟨W, ⟨m0, w0⟩, turn⟩ back
  have pg := hg s3 H3 C cl fp
  have pt := ht s3 H3 C cl fp
  have pi1 := hi1 s3 H3 C cl fp
  have pg1 := hg1 s3 H3 C cl fp
  have pt1 := ht1 s3 H3 C cl fp
  have pk := hk s3 H3 C cl fp
  have pe := he s3 H3 C cl fp
  have hrb : (X.blk s3 H3 scope (compEnvC scope cl C X.env) fp).A.units + 20 < cLine := hr
  have stat : ∀ {σ' : L2.St} {H' : Hp} {s' : Shared}, Inv (X.blk s3 H3 scope (compEnvC scope cl C X.env) fp) [] σ' H' s' → (∀ b ∈ fp, H' b = none) → ∀ b ∈ fp, FpOk (X.blk s3 H3 scope (compEnvC scope cl C X.env) fp) [] H' b := fun {σ' H' s'} I' hn b hb =>
    ⟨hn b hb, (I'.ok.exf b hb).1, I'.ok.exfs b hb, .inl hb, fun x c e => (I'.ok.exf b hb).2 x c e, fun p hp => absurd (show p ∈ ([] : List (Addr × Obj)) ++ [] from hp) (by simp)⟩
  refine dloop_out (hs1 _) (fun n s' => ∃ i H', Inv (X.blk s3 H3 scope (compEnvC scope cl C X.env) fp) [] (wipe σ (own.map (·.2))) H' s' ∧ tn i s'.heap ∧ (∀ b ∈ fp, H' b = none) ∧ W i n H') ?_ m0 ⟨0, H3, I4, st4, nfp, w0⟩
  rintro n s5 ⟨i, H5, I5, st5, n5, w5⟩
  rcases turn i n H5 w5 with ⟨stop, qq⟩ | ⟨go, Nx, hNx, step⟩
  · refine thnF (T.done (X.blk s3 H3 scope (compEnvC scope cl C X.env) fp) rfl rfl rfl hc i [] s5 _ H5 (fun _ _ => False) I5 (stat I5 n5) st5 stop) fun r s6 ⟨hr, I6⟩ => ?_
    subst hr
    exact back H5 s6 I6 qq
  · refine turn_go (Xb := X.blk s3 H3 scope (compEnvC scope cl C X.env) fp) (pins := []) (σ := σ) rfl hc T pg pt I5 (stat I5 n5) st5 go step (fun s7 σ8 H9 s9 st7 I9 hw q9 => ?_) fun s7 σ8 H9 s9 st7 I9 hw q9 => ?_
    · have pi2 := pi1.run _ s9 σ8 H9 _ I9 q9
      rw [blk_xe] at pi2
      refine thnF pi2 fun xv s10 hx => thnF hx fun itv s11 h11 => ?_
      obtain ⟨it1, fp1, tn1, J1, H11, e1, I11, T1, st11, f11, W1, ⟨m1, w1⟩, turn1⟩ := h11
      subst e1
      have stat1 : ∀ {H' : Hp}, (∀ b ∈ fp1, H' b = none) → ∀ b ∈ fp1, FpOk (X.blk s3 H3 scope (compEnvC scope cl C X.env) fp) ([] ++ pinsAt fp s7.heap) H' b := fun hn b hb => ⟨hn b hb, (f11 b hb).2⟩
      have loop1 : codeAny (model X.prog X.w) X.A (.compLoop (.DictComp kx vx [⟨tgx, iter, ifs, 0⟩, ⟨tgx1, iter1, ifs1, 0⟩] scope pos) 1 (.ref it1) (.ref p) (compEnvC scope cl C X.env))
          (fun r s' => match r with
            | .ok _ => ∃ m, m < n ∧ ∃ i H', Inv (X.blk s3 H3 scope (compEnvC scope cl C X.env) fp) [] (wipe σ (own.map (·.2))) H' s' ∧ tn i s'.heap ∧ (∀ b ∈ fp, H' b = none) ∧ W i m H'
            | .error _ => False) s11 := by
        refine dloop_in (fun k s' => ∃ j H', Inv (X.blk s3 H3 scope (compEnvC scope cl C X.env) fp) ([] ++ pinsAt fp s7.heap) (wipe σ8 vs1) H' s' ∧ tn1 j s'.heap ∧ (∀ b ∈ fp1, H' b = none) ∧ W1 j k H') ?_ m1 ⟨0, H11, I11.weak (wipe_length _ _) (fun j v e => (wipe_some e).1), st11, fun b hb => (f11 b hb).1, w1⟩
        rintro k s12 ⟨j, H12, I12, st12, n12, w12⟩
        rcases turn1 j k H12 w12 with ⟨stop1, nx1⟩ | ⟨go1, Nx1, hNx1, step1⟩
        · refine thnF (T1.done (X.blk s3 H3 scope (compEnvC scope cl C X.env) fp) rfl rfl rfl hc j _ s12 (wipe σ8 vs1) H12 (fun _ _ => False) I12 (stat1 n12) st12 stop1) fun r s13 ⟨hr, I13⟩ => ?_
          subst hr
          obtain ⟨m', hm, w'⟩ := hNx _ nx1
          obtain ⟨a, b, c⟩ := unpin (Xb := X.blk s3 H3 scope (compEnvC scope cl C X.env) fp) T st7 I13 ((wipe_sub hv).trans hw)
          exact ⟨m', hm, i + 1, _, a, b, c, w'⟩
        · refine turn_go (Xb := X.blk s3 H3 scope (compEnvC scope cl C X.env) fp) (pins := [] ++ pinsAt fp s7.heap) (σ := σ8) rfl hc T1 pg1 pt1 I12 (stat1 n12) st12 go1 step1 (fun s14 σ15 H16 s16 st14 I16 hw16 q16 => ?_) fun s14 σ15 H16 s16 st14 I16 hw16 q16 => ?_
          · have pk1 := pk.run _ s16 σ15 H16 _ I16 q16
            rw [blk_xe] at pk1
            refine thnF pk1 fun z s17 ⟨yk, H17, I17, r17, q17⟩ => ?_
            have pe1 := pe.run _ s17 σ15 H17 _ I17 q17
            rw [blk_xe] at pe1
            refine thnF pe1 fun z2 s18 ⟨yv, H18, I18, r18, q18⟩ => ?_
            refine thn (dset_any (X := X.blk s3 H3 scope (compEnvC scope cl C X.env) fp) hrb I18 r17 r18 q18) fun _ s19 ⟨H19, I19, nx⟩ => ?_
            obtain ⟨m', hm, w'⟩ := hNx1 _ nx
            obtain ⟨a, b, c⟩ := unpin (Xb := X.blk s3 H3 scope (compEnvC scope cl C X.env) fp) T1 st14 I19 hw16
            exact ⟨m', hm, j + 1, _, a, b, c, w'⟩
          · obtain ⟨m', hm, w'⟩ := hNx1 _ q16
            obtain ⟨a, b, c⟩ := unpin (Xb := X.blk s3 H3 scope (compEnvC scope cl C X.env) fp) T1 st14 I16 hw16
            exact ⟨m', hm, j + 1, _, a, b, c, w'⟩
      exact dstart_in loop1 (T1.self X.A 0 _ _ _ st11 loop1)
    · obtain ⟨m', hm, w'⟩ := hNx _ q9
      obtain ⟨a, b, c⟩ := unpin (Xb := X.blk s3 H3 scope (compEnvC scope cl C X.env) fp) T st7 I9 hw
      exact ⟨m', hm, i + 1, _, a, b, c, w'⟩

/-! ### the core's readings -/
theorem cell_d0 (G : ASet) (H : Hp) (p : Addr) (n : noSys p) (h : H p = some (rawD p dNew)) : Cell X.w X.K G H p (.dct []) := .dct h (dk0 n) .nil .nil
theorem cell_l0 (G : ASet) (H : Hp) (p : Addr) (n : True) (h : H p = some (.lst [])) : Cell X.w X.K G H p (.lst []) := .lst h .nil
theorem dc_go {fK fV : Env → Option (R × Env)} {fC : Env → Option (Bool × Env)} {fI : Env → Option (List D × Env)} {tg : Tg} {vs : List Nat} (sub : ∀ i ∈ tg.ix, i ∈ vs) {σ : L2.St} {H : Hp} {Q : VK}
    (h : tE X (compM fI (elD fK fV) fC tg vs (.dct [])) σ H Q) : tComp X.K (tI X fI) tg (tT X fC) (ELd X.w X.K (tE X fK) (tE X fV)) vs noSys (fun p => rawD p dNew) σ H Q :=
  comp_go sub (fun _ => elD_ok) cell_d0 h
theorem dc2_go {fK fV : Env → Option (R × Env)} {fC fC1 : Env → Option (Bool × Env)} {fI fI1 : Env → Option (List D × Env)} {tg tg1 : Tg} {vs vs1 : List Nat} (sub : ∀ i ∈ tg.ix, i ∈ vs) (sub1 : ∀ i ∈ tg1.ix, i ∈ vs1) (hv : ∀ i ∈ vs1, i ∈ vs) {σ : L2.St} {H : Hp} {Q : VK}
    (h : tE X (compM fI (el2 fI1 (elD fK fV) fC1 tg1 vs1) fC tg vs (.dct [])) σ H Q) :
    tComp X.K (tI X fI) tg (tT X fC) (fun p => EL2 X.K (tI X fI1) tg1 (tT X fC1) (ELd X.w X.K (tE X fK) (tE X fV) p) vs1) vs noSys (fun p => rawD p dNew) σ H Q :=
  comp_go sub (fun _ => el2_ok elD_ok sub1 hv) cell_d0 h
theorem lc2_go {fE : Env → Option (R × Env)} {fC fC1 : Env → Option (Bool × Env)} {fI fI1 : Env → Option (List D × Env)} {tg tg1 : Tg} {vs vs1 : List Nat} (sub : ∀ i ∈ tg.ix, i ∈ vs) (sub1 : ∀ i ∈ tg1.ix, i ∈ vs1) (hv : ∀ i ∈ vs1, i ∈ vs) {σ : L2.St} {H : Hp} {Q : VK}
    (h : tE X (compM fI (el2 fI1 (elL fE) fC1 tg1 vs1) fC tg vs (.lst [])) σ H Q) :
    tLc2 (tI X fI) (gTg X.K tg) (tT X fC) (tI X fI1) (gTg X.K tg1) (tT X fC1) (tE X fE) vs vs1 σ H Q := by
  have z := comp_go (N := fun _ => True) (ho := fun _ => .lst []) sub (fun p => el2_ok (p := p) elL_ok sub1 hv) cell_l0 h
  obtain ⟨F0, ρ, ds, ρ1, S, e1, q⟩ := z
  exact ⟨F0, ρ, ds, ρ1, S, e1, fun J H1 F1 st wd p hp => q J H1 F1 st wd p hp trivial⟩

/-! ### {k: v} -/
theorem sub_disp1 {prog : Program} {w : World} {A : Around} {E : Value → Shared → Prop} {s : Shared} {env : PySem.Env} {k v : Expr} {pos : Pos} {Q : Value → Shared → Prop}
    (h : wpAny (model prog w) A (eval k env) (fun kv s₁ => wpAny (model prog w) A (eval v env) (fun vv s₂ => wpAny (model prog w) A (dictSet s.heap.objs.size kv vv) (fun _ s₃ => Q (.ref s.heap.objs.size) s₃) E s₂) E s₁) E { s with heap := s.heap.push dNew }) :
    wpAny (model prog w) A (eval (.Dict [some k] [v] pos) env) Q E s := by
  rw [arm_eval_Dict, zip_pairTrees [some k] [v] env pos rfl rfl, dictDisplay_pairs (pairTrees [some k] [v] env pos) (by simp [pairTrees]) (by simp [pairTrees])]
  refine wpAny_bind (wpAny_standAt (wpAny_bind ?_))
  unfold subDict
  refine wpAny_bind (wpAny_alloc ?_)
  refine wpAny_bind (wpAny_holding ?_)
  rw [if_pos (by simp [pairTrees])]
  refine wpAny_bind (pairTrees_cons_walk (wpAny_mono h (fun kv s₁ h₁ => wpAny_mono h₁ (fun vv s₂ h₂ => pairTrees_nil_walk ?_) fun _ _ z => z) fun _ _ z => z))
  refine wpAny_holding ?_
  rw [List.forIn_cons]
  refine wpAny_bind (wpAny_bind ?_)
  show wpAny _ A (dictSet s.heap.objs.size kv vv >>= fun _ => pure (ForInStep.yield PUnit.unit)) _ _ s₂
  refine wpAny_bind (wpAny_mono h₂ (fun _ s₃ h₃ => wpAny_pure ?_) fun _ _ z => z)
  dsimp only
  rw [List.forIn_nil]
  exact wpAny_pure (wpAny_pure (wpAny_pure (wpAny_pure h₃)))
theorem e_dct1 (hr : X.A.units + 20 < cLine) {k v : Expr} {pos : Pos} {fK fV : Env → Option (R × Env)} (hk : PE X k (tE X fK)) (hv : PE X v (tE X fV)) :
    PE X (.Dict [some k] [v] pos) (tE X fun ρ => (fK ρ).bind fun p => (esc p).bind fun (x, ρ1) => (fV ρ1).bind fun q => (esc q).bind fun (y, ρ2) => (putF [] x y).map fun kvs => (.new (.dct kvs), ρ2)) := by
  refine ⟨fun pins s σ H Q I h => ?_⟩
  obtain ⟨F0, ρ, r, ρ', S, ev, q⟩ := h
  obtain ⟨⟨r1, ρ1⟩, e1, ev⟩ := Option.bind_eq_some_iff.mp ev
  obtain ⟨⟨x, ρ2⟩, e2, ev⟩ := Option.bind_eq_some_iff.mp ev
  obtain ⟨⟨r3, ρ3⟩, e3, ev⟩ := Option.bind_eq_some_iff.mp ev
  obtain ⟨⟨y, ρ4⟩, e4, ev⟩ := Option.bind_eq_some_iff.mp ev
  obtain ⟨kvs, e5, ev⟩ := Option.map_eq_some_iff.mp ev
  cases ev
  have np : H s.heap.objs.size = none := I.hok.fresh (Nat.le_refl _)
  have ns := big_ne I
  have I1 := inv_dnew I
  refine sub_disp1 ?_
  generalize hp : s.heap.objs.size = p at np ns I1 ⊢
  have S1 : SR X.w X.K (fun a => F0 a ∨ a = p) ρ σ (upd H p (rawD p dNew)) := S.grow (same_upd np) (fun a z => z.elim .inl fun z => .inr (z ▸ np)) fun a z => by
    rcases z with z | z
    · exact (Keep.of_same (O := fun _ => False) (same_upd np)).there a (S.ft a z)
    · rw [z, upd_same]; simp
  refine thn (hk.run pins _ σ _ (fun v H1 => ∃ F1, EPost X.w X.K σ (fun a => F0 a ∨ a = p) ρ (upd H p (rawD p dNew)) r1 ρ1 v H1 F1) I1 ⟨_, ρ, r1, ρ1, S1, e1, fun v H1 F1 po => ⟨F1, po⟩⟩) fun u s1 ⟨v1, H1, I2, ru, F1, po⟩ => ?_
  obtain ⟨st, rx⟩ := po.esc S1 e2
  refine thn (hv.run pins s1 σ H1 (fun v H2 => ∃ F2, EPost X.w X.K σ _ ρ2 H1 r3 ρ3 v H2 F2) I2 ⟨_, ρ2, r3, ρ3, st.sr, e3, fun v H2 F2 po2 => ⟨F2, po2⟩⟩) fun u2 s2 ⟨v2, H2, I3, ru2, F2, po2⟩ => ?_
  obtain ⟨st2, ry⟩ := po2.esc st.sr e4
  have tot := st.trans st2
  have nw : ¬ Own ρ σ p := fun z => (S1.own_some z).2 (.inr rfl)
  have c2 := Cell.step tot nw (cell_d0 _ _ p ns upd_same)
  have fp := tot.sub p (.inr rfl)
  refine thn (dset_any hr I3 ru ru2 (cell_put c2 (.inl fp) (st2.rep rx) ry e5)) fun _ s3 ⟨H3, I4, kz, c3⟩ => ⟨.ref p, H3, I4, rfl, q _ H3 _ ⟨⟨fun a z => tot.sub a (.inl z), fun a z => ?_, tot.sr.wr fp kz, ?_, tot.osub⟩, ⟨p, rfl, fp, c3⟩, fun m e => ⟨p, rfl, np⟩⟩⟩
  · rcases tot.new a z with (z | z) | z
    · exact .inl z
    · exact .inr (z ▸ np)
    · refine .inr ?_
      by_cases ap : a = p
      · rw [ap]; exact np
      · rwa [upd_ne ap] at z
  · exact ((Keep.of_same (O := Own ρ σ) (same_upd np)).trans2 tot.keep fun a z => .inl z).trans2 kz fun a z => .inr (z ▸ np)
end
end SP

/-! SpCo: a comprehension over a list that stays its owner's. -/
namespace SP
open PySem PySem.W PyProof.Rows L2 PySem.SeqAt

theorem SR.drop {w : World} {K : Frag} {F : ASet} {ρ : Env} {σ : L2.St} {H : Hp} (S : SR w K F ρ σ H) {i : Nat} {m : MO} {a : Addr} (h : slot ρ i = some (.own m)) (e : σ[i]? = some (some (.ref a))) :
    SR w K (fun x => F x ∨ x = a) (ρ.set i none) σ H ∧ Cell w K (Bar (fun x => F x ∨ x = a) (ρ.set i none) σ) H a m ∧ ∀ x, Own (ρ.set i none) σ x → Own ρ σ x := by
  have of : ∀ {j : Nat} {s : Sl}, slot (ρ.set i none) j = some s → j ≠ i ∧ slot ρ j = some s := fun {j s} h' => by
    rcases slot_set h' with ⟨_, z, _⟩ | z
    · cases z
    · exact z
  have os : ∀ x, Own (ρ.set i none) σ x → Own ρ σ x := fun x ⟨j, n, h', e'⟩ => ⟨j, n, (of h').2, e'⟩
  obtain ⟨b, e1, nf, c⟩ := S.own i m h
  rw [e] at e1; cases e1
  have sb : ∀ x, Bar (fun x => F x ∨ x = a) (ρ.set i none) σ x → H x ≠ none → Bar F ρ σ x := fun x z _ => by
    rcases z with (z | z) | z
    · exact .inl z
    · exact .inr ⟨i, m, h, z ▸ e⟩
    · exact .inr (os x z)
  refine ⟨⟨by simpa using S.len, fun x z => z.elim (S.ft x) fun z => z ▸ c.some, fun j d h' => ?_, fun j n h' => ?_, fun j l n k x h1 h2 e1 e2 => S.inj j l n k x (of h1).2 (of h2).2 e1 e2⟩, c.bar sb, os⟩
  · obtain ⟨v, ev, r⟩ := S.dat j d (of h').2
    exact ⟨v, ev, r.bar sb⟩
  · obtain ⟨ne, h2⟩ := of h'
    obtain ⟨b, eb, nb, cb⟩ := S.own j n h2
    exact ⟨b, eb, fun z => z.elim nb fun z => ne (S.inj j i n m a h2 h (z ▸ eb) e), cb.bar sb⟩
/-- the object comes back to its slot -/
theorem SR.undrop {w : World} {K : Frag} {F : ASet} {ρ : Env} {σ : L2.St} {H : Hp} (S : SR w K F ρ σ H) {i : Nat} {m : MO} {a : Addr} (fa : F a) (e : σ[i]? = some (some (.ref a))) (c : Cell w K (Bar F ρ σ) H a m) :
    SR w K (fun x => F x ∧ x ≠ a) (ρ.set i (some (.own m))) σ H ∧ ∀ x, Own (ρ.set i (some (.own m))) σ x → x = a ∨ Own ρ σ x := by
  have of : ∀ {j : Nat} {s : Sl}, slot (ρ.set i (some (.own m))) j = some s → (j = i ∧ s = .own m) ∨ (j ≠ i ∧ slot ρ j = some s) := fun {j s} h' => by
    rcases slot_set h' with ⟨x, z, _⟩ | z
    · cases z; exact .inl ⟨x, rfl⟩
    · exact .inr z
  have os : ∀ x, Own (ρ.set i (some (.own m))) σ x → x = a ∨ Own ρ σ x := fun x ⟨j, n, h', e'⟩ => by
    rcases of h' with ⟨rfl, _⟩ | ⟨_, z⟩
    · rw [e] at e'; cases e'; exact .inl rfl
    · exact .inr ⟨j, n, z, e'⟩
  have sb : ∀ x, Bar (fun x => F x ∧ x ≠ a) (ρ.set i (some (.own m))) σ x → H x ≠ none → Bar F ρ σ x := fun x z _ => by
    rcases z with z | z
    · exact .inl z.1
    · rcases os x z with z | z
      · exact .inl (z ▸ fa)
      · exact .inr z
  have na : ∀ {j : Nat} {n : MO}, slot ρ j = some (.own n) → σ[j]? = some (some (.ref a)) → False := fun {j n} h1 h2 => (S.own_some ⟨j, n, h1, h2⟩).2 fa
  refine ⟨⟨by simpa using S.len, fun x z => S.ft x z.1, fun j d h' => ?_, fun j n h' => ?_, fun j l n k x h1 h2 e1 e2 => ?_⟩, os⟩
  · rcases of h' with ⟨_, z⟩ | ⟨_, z⟩
    · cases z
    · obtain ⟨v, ev, r⟩ := S.dat j d z
      exact ⟨v, ev, r.bar sb⟩
  · rcases of h' with ⟨rfl, z⟩ | ⟨ne, z⟩
    · cases z
      exact ⟨a, e, fun z => z.2 rfl, c.bar sb⟩
    · obtain ⟨b, eb, nb, cb⟩ := S.own j n z
      exact ⟨b, eb, fun z => nb z.1, cb.bar sb⟩
  · rcases of h1 with ⟨rfl, _⟩ | ⟨_, z1⟩
    · rcases of h2 with ⟨rfl, _⟩ | ⟨_, z2⟩
      · rfl
      · rw [e] at e1; cases e1; exact (na z2 e2).elim
    · rcases of h2 with ⟨rfl, _⟩ | ⟨_, z2⟩
      · rw [e] at e2; cases e2; exact (na z1 e1).elim
      · exact S.inj j l n k x z1 z2 e1 e2
section
variable {X : Cx}
theorem co_go {fE : Env → Option (R × Env)} {fC : Env → Option (Bool × Env)} {tg : Tg} {i : Nat} {vs : List Nat} (sub : ∀ j ∈ tg.ix, j ∈ vs) {σ : L2.St} {H : Hp} {Q : VK}
    (h : tE X (compOwn (elL fE) fC tg i vs) σ H Q) : tLc (iAny X.w X.K (tVar i)) (gTg X.K tg) (tT X fC) (tE X fE) vs σ H Q := by
  obtain ⟨F0, ρ, r, ρ', S, ev, q⟩ := h
  unfold compOwn at ev
  split at ev
  · rename_i ds h0
    obtain ⟨⟨r0, ρ2⟩, e1, ev⟩ := Option.map_eq_some_iff.mp ev
    cases ev
    have e1 : (if vs.all (fun v => !isOwn (slot (ρ.set i none) v) && decide (v < (ρ.set i none).length)) = true then (turnsM (elL fE) fC tg vs ds (.lst []) (wipeE (ρ.set i none) vs)).map fun (m, ρ2) => (R.new m, backE (ρ.set i none) ρ2 vs) else none) = some (r, ρ2) := e1
    split at e1
    · rename_i hown
      obtain ⟨⟨mf, ρf⟩, e2, e1⟩ := Option.map_eq_some_iff.mp e1
      cases e1
      obtain ⟨a, ea, nf, c⟩ := S.own i _ h0
      have hi : i < ρ.length := slot_lt h0
      obtain ⟨S1, c1, os1⟩ := S.drop h0 ea
      have nv : ∀ v ∈ vs, isOwn (slot (ρ.set i none) v) = false ∧ v < (ρ.set i none).length := fun v hv => by
        have := List.all_eq_true.mp hown v hv
        simpa using this
      have noa : ¬ Own (ρ.set i none) σ a := fun z => (S1.own_some z).2 (.inr rfl)
      cases c1 with
      | @lst vs0 _ h1 r1 =>
        refine ⟨.ref a, ea, a, rfl, .inl ⟨vs0, .inl ⟨sqL_of (.inl h1), fun p hp => ?_⟩⟩⟩
        have pa : p ≠ a := fun z => by rw [z, h1] at hp; cases hp
        have sg : SR X.w X.K (fun x => (F0 x ∨ x = a) ∨ x = p) (ρ.set i none) σ (upd H p (.lst [])) := S1.grow (same_upd hp) (fun x z => z.elim .inl fun z => .inr (z ▸ hp)) fun x z => by
          rcases z with z | z
          · exact (Keep.of_same (O := fun _ => False) (same_upd hp)).there x (S1.ft x z)
          · rw [z, upd_same]; simp
        have r2 : RepL X.w X.K (Bar (fun x => (F0 x ∨ x = a) ∨ x = p) (ρ.set i none) σ) (upd H p (.lst [])) vs0 ds := by
          refine keepRL (O := fun _ => False) (Keep.of_same (same_upd hp)) (fun x z n => ?_) r1
          rcases z with ((z | z) | z) | z
          · exact .inl z
          · exact absurd (z ▸ hp) n
          · exact .inr z
          · exact z.elim
        have wo : WlkO X.w X.K (fun x => Own (ρ.set i none) σ x ∨ x = p) (Bar (fun x => (F0 x ∨ x = a) ∨ x = p) (ρ.set i none) σ) (upd H p (.lst [])) (Itl X.K a) ds :=
          wo_list (fun z => z.elim noa fun z => pa z.symm) (.inl (by rw [upd_ne (Ne.symm pa)]; exact h1)) r2
        refine loop_go sg (.inr rfl) (cell_l0 _ _ p trivial upd_same) wo sub elL_ok e2 fun Hn Sn k os c => ?_
        have ktot : Keep (Own (ρ.set i none) σ) H Hn := (Keep.of_same (same_upd hp)).trans2 k fun x z => z.elim .inl fun z => .inr (z ▸ hp)
        have st2 := SR.back S1 Sn hp ktot os nv
        have ha : Hn a = some (.lst vs0) := ktot.keep a _ h1 noa
        obtain ⟨S3, os3⟩ := SR.undrop (i := i) (m := .lst ds) (a := a) st2.sr (st2.sub a (.inr rfl)) ea (.lst ha (st2.repL r1))
        have os4 : ∀ x, Own ((backE (ρ.set i none) ρf vs).set i (some (.own (.lst ds)))) σ x → Own ρ σ x := fun x z => by
          rcases os3 x z with z | z
          · exact ⟨i, _, h0, z ▸ ea⟩
          · exact os1 x (st2.osub x z)
        refine q (.ref p) Hn _ ⟨⟨fun x z => ⟨st2.sub x (.inl z), fun e => nf (e ▸ z)⟩, fun x z => ?_, S3, st2.keep.mono os1, os4⟩, ⟨p, rfl, ⟨.inr rfl, pa⟩, c.bar fun x z _ => ?_⟩, fun m e => ⟨p, rfl, hp⟩⟩
        · rcases st2.new x z.1 with (z' | z') | z'
          · exact .inl z'
          · exact absurd z' z.2
          · exact .inr z'
        · rcases z with z | z
          · exact .inl z.1
          · rcases os3 x z with z | ⟨j, m, h, e⟩
            · exact .inl (z ▸ .inl (.inr rfl))
            · refine .inr ?_
              have hl : ∀ v ∈ vs, v < ρf.length := fun v hv => by
                rw [Sn.len, wipe_length, ← S1.len]; exact (nv v hv).2
              rcases backE_slot hl h with ⟨a1, b1⟩ | ⟨n1, b1⟩
              · have := (nv j a1).1
                rw [b1] at this; cases this
              · exact ⟨j, m, b1, by rw [wipe_out n1]; exact e⟩
    · cases e1
  · cases ev
end
end SP

/-! SpCall: what a def promises, a call of it. -/
namespace SP
open PySem PySem.W PyProof.Rows L2 PySem.SeqAt

/-- the promise at values: the slots handed in, and what is left -/
def pr (w : World) (K : Frag) (fn : List Sl → Option (Sl × List MO)) : List V → Hp → VK → Prop := fun vs H Q => ∃ F0 ss s ms, SR w K F0 (ss.map some) (vs.map some) H ∧ fn ss = some (s, ms) ∧
  ∀ v H' F', EPost w K (vs.map some) F0 (ss.map some) H s.res ((back ss ms).map some) v H' F' → Q v H'
structure FnG (P : Program) (w : World) (K : Frag) (mg : Str → Option Value) (base : Heap) (k : Nat) (fn : List Sl → Option (Sl × List MO)) (a : Addr) (fd : FuncData) (ps : List Str) : Prop where
  len : ∀ ss r, fn ss = some r → ss.length = ps.length
  run : ∀ (A : Around) (outer : List PySem.Env) (s : Shared) (H : Hp) (args : Args) (us : List Value) (vs : List V) (Q : VK), Room k A → A.guards = some [] → Env0 P w K mg base A outer s H → BindsTo s fd args (ps.zip us) → Vals vs us → pr w K fn vs H Q →
    codeAny (model P w) A (.call (.ref a) args) (CR C8.CX0 outer P w H s Q C8.E0) s

/-! ### arguments -/
def Passed (ρ : Env) : List V → List Arg → Addr → Prop
  | v :: vs, .val (.dat _) :: as, a => Passed ρ vs as a
  | v :: vs, .val (.new _) :: as, a => v = .ref a ∨ Passed ρ vs as a
  | v :: vs, .val (.loc i) :: as, a => (isOwn (slot ρ i) = true ∧ v = .ref a) ∨ Passed ρ vs as a
  | v :: vs, .ref _ :: as, a => v = .ref a ∨ Passed ρ vs as a
  | _, _, _ => False
theorem isOwn_some {o : Option Sl} (h : isOwn o = true) : ∃ m, o = some (.own m) := by
  cases o with
  | none => cases h
  | some s => cases s with
    | dat d => cases h
    | own m => exact ⟨m, rfl⟩
section
variable {w : World} {K : Frag} {F F0 : ASet} {ρ ρ1 ρ2 : Env} {σ : L2.St} {H0 H H' : Hp}
theorem passed_inv : ∀ {vs : List V} {as : List Arg} {a : Addr}, ATmps w K F ρ σ H0 H vs as → (∀ i ∈ refsOf as, isOwn (slot ρ i) = true) → Passed ρ vs as a →
    (H0 a = none ∧ F a) ∨ ∃ i m, (i ∈ lentOf as ∨ i ∈ refsOf as) ∧ slot ρ i = some (.own m) ∧ σ[i]? = some (some (.ref a))
  | _, _, a, .nil, _, h => h.elim
  | _, _, a, @ATmps.val _ _ _ _ _ _ _ v r vs as t f rest, ho, h => by
    cases r with
    | dat d => exact passed_inv (vs := vs) (as := as) rest ho h
    | new m =>
      rcases h with h | h
      · obtain ⟨b, e1, e2⟩ := f m rfl
        obtain ⟨b', e3, fb, c⟩ := t
        subst h
        cases e1
        cases e3
        exact .inl ⟨e2, fb⟩
      · exact passed_inv (vs := vs) (as := as) rest ho h
    | loc j =>
      rcases h with ⟨hj, h⟩ | h
      · subst h
        obtain ⟨m, e⟩ := isOwn_some hj
        exact .inr ⟨j, m, .inl (List.mem_cons_self ..), e, t⟩
      · rcases passed_inv (vs := vs) (as := as) rest ho h with z | ⟨i, m, h1, h2⟩
        · exact .inl z
        · exact .inr ⟨i, m, h1.elim (fun z => .inl (List.mem_cons_of_mem _ z)) .inr, h2⟩
  | _, _, a, @ATmps.ref _ _ _ _ _ _ _ v j vs as t rest, ho, h => by
    rcases h with h | h
    · subst h
      obtain ⟨m, e⟩ := isOwn_some (ho j (List.mem_cons_self ..))
      exact .inr ⟨j, m, .inr (List.mem_cons_self ..), e, t⟩
    · rcases passed_inv (vs := vs) (as := as) rest (fun i hi => ho i (List.mem_cons_of_mem _ hi)) h with z | ⟨i, m, h1, h2⟩
      · exact .inl z
      · exact .inr ⟨i, m, h1.elim .inl fun z => .inr (List.mem_cons_of_mem _ z), h2⟩
/-- what stands at a place among the arguments -/
inductive ArgAt (w : World) (K : Frag) (F : ASet) (ρ : Env) (σ : L2.St) (H0 H : Hp) (V' : V) (s : Sl) (P : Addr → Prop) : Arg → Prop
  | dat {d : D} : Rep w K (Bar F ρ σ) H V' d → s = .dat d → ArgAt w K F ρ σ H0 H V' s P (.val (.dat d))
  | new {m : MO} {a : Addr} : V' = .ref a → F a → Cell w K (Bar F ρ σ) H a m → s = .dat m.data → P a → ArgAt w K F ρ σ H0 H V' s P (.val (.new m))
  | loc {i : Nat} {t : Sl} : σ[i]? = some (some V') → slot ρ i = some t → s = .dat t.data → (∀ a m, t = .own m → V' = .ref a → P a) → ArgAt w K F ρ σ H0 H V' s P (.val (.loc i))
  | ref {i : Nat} : σ[i]? = some (some V') → slot ρ i = some s → (∀ a, V' = .ref a → P a) → ArgAt w K F ρ σ H0 H V' s P (.ref i)
theorem ArgAt.mono {V' : V} {s : Sl} {P Q : Addr → Prop} {A : Arg} (h : ArgAt w K F ρ σ H0 H V' s P A) (f : ∀ a, P a → Q a) : ArgAt w K F ρ σ H0 H V' s Q A := by
  cases h with
  | dat a b => exact .dat a b
  | new a b c d e => exact .new a b c d (f _ e)
  | loc a b c d => exact .loc a b c fun x m y z => f _ (d x m y z)
  | ref a b c => exact .ref a b fun x z => f _ (c x z)
theorem arg_at : ∀ {vs : List V} {as : List Arg} {ss : List Sl} {j : Nat} {s : Sl}, ATmps w K F ρ σ H0 H vs as → argSls ρ as = some ss → ss[j]? = some s →
    ∃ v A, vs[j]? = some v ∧ as[j]? = some A ∧ ArgAt w K F ρ σ H0 H v s (Passed ρ vs as) A
  | _, _, ss, j, s, .nil, e, h => by cases e; simp at h
  | _, _, ss, j, s, @ATmps.val _ _ _ _ _ _ _ v r vs as t f rest, e, h => by
    simp only [argSls] at e
    split at e
    · rename_i s0 ss0 e1 e2
      cases e
      cases j with
      | zero =>
        simp only [List.getElem?_cons_zero, Option.some.injEq] at h
        subst h
        refine ⟨v, _, rfl, rfl, ?_⟩
        cases r with
        | dat d => simp only [argSl, res, Option.map_some, Option.some.injEq] at e1; exact .dat t e1.symm
        | new m =>
          simp only [argSl, res, Option.map_some, Option.some.injEq] at e1
          obtain ⟨a, ev, fa, c⟩ := t
          exact .new ev fa c e1.symm (.inl ev)
        | loc i =>
          simp only [argSl, res, Option.map_map] at e1
          obtain ⟨u, eu, e3⟩ := Option.map_eq_some_iff.mp e1
          exact .loc t eu e3.symm fun a m z z2 => .inl ⟨by rw [eu, z]; rfl, z2⟩
      | succ j =>
        obtain ⟨u, A, h1, h2, h3⟩ := arg_at rest e2 (by simpa using h)
        refine ⟨u, A, h1, h2, h3.mono fun a z => ?_⟩
        cases r with
        | dat d => exact z
        | new m => exact .inr z
        | loc i => exact .inr z
    · cases e
  | _, _, ss, j, s, @ATmps.ref _ _ _ _ _ _ _ v i vs as t rest, e, h => by
    simp only [argSls] at e
    split at e
    · rename_i s0 ss0 e1 e2
      cases e
      cases j with
      | zero =>
        simp only [List.getElem?_cons_zero, Option.some.injEq] at h
        subst h
        exact ⟨v, _, rfl, rfl, .ref t e1 fun a z => .inl z⟩
      | succ j =>
        obtain ⟨u, A, h1, h2, h3⟩ := arg_at rest e2 (by simpa using h)
        exact ⟨u, A, h1, h2, h3.mono fun a z => .inr z⟩
    · cases e
theorem args_len : ∀ {vs : List V} {as : List Arg} {ss : List Sl}, ATmps w K F ρ σ H0 H vs as → argSls ρ as = some ss → ss.length = vs.length
  | _, _, ss, .nil, e => by cases e; rfl
  | _, _, ss, .val t f rest, e => by
    simp only [argSls] at e
    split at e
    · rename_i s0 ss0 e1 e2; cases e; simp [args_len rest e2]
    · cases e
  | _, _, ss, .ref t rest, e => by
    simp only [argSls] at e
    split at e
    · rename_i s0 ss0 e1 e2; cases e; simp [args_len rest e2]
    · cases e
theorem refs_mem {i : Nat} : ∀ {as : List Arg} {j : Nat}, as[j]? = some (.ref i) → i ∈ refsOf as
  | [], j, h => by simp at h
  | .ref k :: as, 0, h => by simp at h; subst h; exact List.mem_cons_self ..
  | .val r :: as, 0, h => by simp at h
  | .ref k :: as, j + 1, h => List.mem_cons_of_mem _ (refs_mem (as := as) (j := j) (by simpa using h))
  | .val r :: as, j + 1, h => refs_mem (as := as) (j := j) (by simpa using h)
theorem lent_mem {i : Nat} : ∀ {as : List Arg} {j : Nat}, as[j]? = some (.val (.loc i)) → i ∈ lentOf as
  | [], j, h => by simp at h
  | .val (.loc k) :: as, 0, h => by simp at h; subst h; exact List.mem_cons_self ..
  | .val (.dat _) :: as, 0, h => by simp at h
  | .val (.new _) :: as, 0, h => by simp at h
  | .ref k :: as, 0, h => by simp at h
  | .val (.loc k) :: as, j + 1, h => List.mem_cons_of_mem _ (lent_mem (as := as) (j := j) (by simpa using h))
  | .val (.dat _) :: as, j + 1, h => lent_mem (as := as) (j := j) (by simpa using h)
  | .val (.new _) :: as, j + 1, h => lent_mem (as := as) (j := j) (by simpa using h)
  | .ref k :: as, j + 1, h => lent_mem (as := as) (j := j) (by simpa using h)
theorem lent_at {i : Nat} : ∀ {as : List Arg}, i ∈ lentOf as → ∃ j : Nat, as[j]? = some (.val (.loc i))
  | .val (.loc k) :: as, h => by
    rcases List.mem_cons.mp h with rfl | h
    · exact ⟨0, rfl⟩
    · obtain ⟨j, e⟩ := lent_at h; exact ⟨j + 1, by simpa using e⟩
  | .val (.dat _) :: as, h => by obtain ⟨j, e⟩ := lent_at (as := as) h; exact ⟨j + 1, by simpa using e⟩
  | .val (.new _) :: as, h => by obtain ⟨j, e⟩ := lent_at (as := as) h; exact ⟨j + 1, by simpa using e⟩
  | .ref k :: as, h => by obtain ⟨j, e⟩ := lent_at (as := as) h; exact ⟨j + 1, by simpa using e⟩
theorem refs_nd {i : Nat} : ∀ {as : List Arg} {j l : Nat}, (refsOf as).Nodup → as[j]? = some (.ref i) → as[l]? = some (.ref i) → j = l
  | [], j, _, _, h, _ => by simp at h
  | .ref k :: as, 0, 0, _, _, _ => rfl
  | .ref k :: as, 0, l + 1, n, h, h' => by
    simp at h; subst h
    exact absurd (refs_mem (as := as) (j := l) (by simpa using h')) (List.nodup_cons.mp n).1
  | .ref k :: as, j + 1, 0, n, h, h' => by
    simp at h'; subst h'
    exact absurd (refs_mem (as := as) (j := j) (by simpa using h)) (List.nodup_cons.mp n).1
  | .ref k :: as, j + 1, l + 1, n, h, h' => congrArg Nat.succ (refs_nd (as := as) (List.nodup_cons.mp n).2 (by simpa using h) (by simpa using h'))
  | .val r :: as, 0, _, _, h, _ => by simp at h
  | .val r :: as, j + 1, 0, _, _, h => by simp at h
  | .val r :: as, j + 1, l + 1, n, h, h' => congrArg Nat.succ (refs_nd (as := as) n (by simpa using h) (by simpa using h'))

/-- the slots that the callee starts from -/
theorem callee_sr {vs : List V} {as : List Arg} {ss : List Sl} (S : SR w K F ρ σ H) (t : ATmps w K F ρ σ H0 H vs as) (e : argSls ρ as = some ss) (hn : (refsOf as).Nodup) (hl : ∀ i ∈ lentOf as, i ∉ refsOf as) :
    SR w K (fun a => Bar F ρ σ a ∧ ¬ Passed ρ vs as a) (ss.map some) (vs.map some) H ∧ (∀ a, Own (ss.map some) (vs.map some) a → Own ρ σ a) ∧
      ∀ a, Own (ss.map some) (vs.map some) a → ∃ i m, i ∈ refsOf as ∧ slot ρ i = some (.own m) ∧ σ[i]? = some (some (.ref a)) := by
  have sl : ∀ {j : Nat} {s : Sl}, slot (ss.map some) j = some s → ss[j]? = some s := fun {j s} h => by
    have := slot_some h
    rw [List.getElem?_map] at this
    cases q : ss[j]? with
    | none => rw [q] at this; cases this
    | some x => rw [q] at this; simpa using this
  have vl : ∀ {j : Nat} {v : V}, vs[j]? = some v → (vs.map some)[j]? = some (some v) := fun {j v} h => by rw [List.getElem?_map, h]; rfl
  have own1 : ∀ a, Own (ss.map some) (vs.map some) a → ∃ i m, i ∈ refsOf as ∧ slot ρ i = some (.own m) ∧ σ[i]? = some (some (.ref a)) := by
    rintro a ⟨j, m, h, ev⟩
    obtain ⟨v, A, h1, h2, h3⟩ := arg_at t e (sl h)
    rw [vl h1] at ev
    cases ev
    cases h3 with
    | dat _ z => cases z
    | new _ _ _ z _ => cases z
    | loc _ _ z _ => cases z
    | ref g1 g2 _ => exact ⟨_, m, refs_mem h2, g2, g1⟩
  have own2 : ∀ a, Own (ss.map some) (vs.map some) a → Own ρ σ a := fun a z => let ⟨i, m, _, h2, h3⟩ := own1 a z; ⟨i, m, h2, h3⟩
  have sb : ∀ a, Bar (fun a => Bar F ρ σ a ∧ ¬ Passed ρ vs as a) (ss.map some) (vs.map some) a → H a ≠ none → Bar F ρ σ a := fun a z _ => z.elim (fun z => z.1) fun z => .inr (own2 a z)
  refine ⟨⟨by simp [args_len t e], fun a z => z.1.elim (S.ft a) fun z => (S.own_some z).1, fun j d h => ?_, fun j m h => ?_, fun j l m n a h1 h2 e1 e2 => ?_⟩, own2, own1⟩
  · obtain ⟨v, A, h1, h2, h3⟩ := arg_at t e (sl h)
    refine ⟨v, vl h1, ?_⟩
    cases h3 with
    | dat r z => cases z; exact r.bar sb
    | new ev fa c z p =>
      cases z; subst ev
      refine (c.bar sb).rep ?_
      rintro (⟨_, n⟩ | o)
      · exact n p
      · exact (S.own_some (own2 _ o)).2 fa
    | @loc i u g1 g2 z p =>
      cases z
      cases u with
      | dat d =>
        obtain ⟨v', e', r⟩ := S.dat i d g2
        rw [g1] at e'; cases e'
        exact r.bar sb
      | own m =>
        obtain ⟨a, e', nf, c⟩ := S.own i m g2
        rw [g1] at e'; cases e'
        refine (c.bar sb).rep ?_
        rintro (⟨_, n⟩ | o)
        · exact n (p a m rfl rfl)
        · obtain ⟨i', m', r1, r2, r3⟩ := own1 _ o
          have := S.inj i i' m m' a g2 r2 g1 r3
          subst this
          exact hl i (lent_mem h2) r1
    | ref g1 g2 p =>
      obtain ⟨v', e', r⟩ := S.dat _ d g2
      rw [g1] at e'; cases e'
      exact r.bar sb
  · obtain ⟨v, A, h1, h2, h3⟩ := arg_at t e (sl h)
    cases h3 with
    | dat _ z => cases z
    | new _ _ _ z _ => cases z
    | loc _ _ z _ => cases z
    | ref g1 g2 p =>
      obtain ⟨a, e', nf, c⟩ := S.own _ m g2
      rw [g1] at e'; cases e'
      exact ⟨a, vl h1, fun z => z.2 (p a rfl), c.bar sb⟩
  · obtain ⟨v, A, g1, g2, g3⟩ := arg_at t e (sl h1)
    obtain ⟨v', A', g1', g2', g3'⟩ := arg_at t e (sl h2)
    rw [vl g1] at e1; cases e1
    rw [vl g1'] at e2; cases e2
    cases g3 with
    | dat _ z => cases z
    | new _ _ _ z _ => cases z
    | loc _ _ z _ => cases z
    | @ref i k1 k2 _ =>
      cases g3' with
      | dat _ z => cases z
      | new _ _ _ z _ => cases z
      | loc _ _ z _ => cases z
      | @ref i' k1' k2' _ =>
        have := S.inj i i' m n a k2 k2' k1 k1'
        subst this
        exact refs_nd hn g2 g2'

/-! ### what comes back -/
theorem freezeAll_slot : ∀ {is : List Nat} {ρ ρ1 : Env}, freezeAll ρ is = some ρ1 → ρ1.length = ρ.length ∧ ∀ i, slot ρ1 i = if i ∈ is then (slot ρ i).map (fun s => Sl.dat s.data) else slot ρ i
  | [], ρ, ρ1, h => by cases h; exact ⟨rfl, fun i => by simp⟩
  | k :: is, ρ, ρ1, h => by
    obtain ⟨⟨d, ρ'⟩, e1, e2⟩ := Option.bind_eq_some_iff.mp h
    obtain ⟨l, f⟩ := freezeAll_slot e2
    unfold freeze at e1
    split at e1
    · rename_i s hs
      cases e1
      refine ⟨by rw [l]; simp, fun i => ?_⟩
      rw [f i]
      by_cases e : i = k
      · subst e
        rw [slot_set_self (slot_lt hs), hs]
        simp only [List.mem_cons, true_or, if_true, Option.map_some]
        split <;> rfl
      · rw [slot_set_ne e]
        simp [e]
    · cases e1
theorem putBack_slot {ρ : Env} : ∀ {as : List Arg} {ss : List Sl} {ms : List MO} {ρ1 ρ2 : Env}, argSls ρ as = some ss → (∀ i ∈ refsOf as, isOwn (slot ρ i) = true) → (refsOf as).Nodup → putBack ρ1 (refsOf as) ms = some ρ2 →
    ρ2.length = ρ1.length ∧ (∀ i, i ∉ refsOf as → slot ρ2 i = slot ρ1 i) ∧ ∀ i ∈ refsOf as, i < ρ1.length → ∃ (j : Nat) (m : MO), as[j]? = some (.ref i) ∧ (back ss ms)[j]? = some (.own m) ∧ slot ρ2 i = some (.own m)
  | [], ss, ms, ρ1, ρ2, e, ho, nd, h => by
    cases ms with
    | nil => cases h; exact ⟨rfl, fun _ _ => rfl, fun i hi => nomatch hi⟩
    | cons => cases h
  | .val r :: as, ss, ms, ρ1, ρ2, e, ho, nd, h => by
    simp only [argSls] at e
    split at e
    · rename_i s0 ss0 e1 e2
      cases e
      obtain ⟨d, rfl⟩ : ∃ d, s0 = .dat d := by
        obtain ⟨d, _, e3⟩ := Option.map_eq_some_iff.mp e1
        exact ⟨d, e3.symm⟩
      obtain ⟨a, b, c⟩ := putBack_slot (as := as) e2 ho nd h
      refine ⟨a, b, fun i hi hl => ?_⟩
      obtain ⟨j, m, q1, q2, q3⟩ := c i hi hl
      exact ⟨j + 1, m, by simpa using q1, by simpa [back] using q2, q3⟩
    · cases e
  | .ref k :: as, ss, ms, ρ1, ρ2, e, ho, nd, h => by
    simp only [argSls] at e
    split at e
    · rename_i s0 ss0 e1 e2
      cases e
      obtain ⟨m0, e3⟩ := isOwn_some (ho k (List.mem_cons_self ..))
      have e4 : s0 = .own m0 := by
        have e1' : slot ρ k = some s0 := e1
        rw [e3] at e1'
        exact (Option.some.inj e1').symm
      subst e4
      cases ms with
      | nil => cases h
      | cons m ms =>
        obtain ⟨nk, nd'⟩ := List.nodup_cons.mp nd
        obtain ⟨a, b, c⟩ := putBack_slot (as := as) (ρ1 := ρ1.set k (some (.own m))) e2 (fun i hi => ho i (List.mem_cons_of_mem _ hi)) nd' h
        refine ⟨by rw [a]; simp, fun i hi => ?_, fun i hi hl => ?_⟩
        · have hi' : i ≠ k ∧ i ∉ refsOf as := by
            have z : i ∉ k :: refsOf as := hi
            rw [List.mem_cons, not_or] at z
            exact z
          rw [b i hi'.2, slot_set_ne hi'.1]
        · rcases List.mem_cons.mp hi with rfl | hi'
          · exact ⟨0, m, rfl, by simp [back], by rw [b i nk, slot_set_self hl]⟩
          · obtain ⟨j, m', q1, q2, q3⟩ := c i hi' (by simpa using hl)
            exact ⟨j + 1, m', by simpa using q1, by simpa [back] using q2, q3⟩
    · cases e
theorem back_dat : ∀ {ss : List Sl} {ms : List MO} {j : Nat} {d : D}, ss[j]? = some (.dat d) → (back ss ms)[j]? = some (.dat d)
  | [], _, _, _, h => by simp at h
  | .dat _ :: ss, ms, 0, d, h => by simpa [back] using h
  | .own _ :: ss, ms, 0, d, h => by simp at h
  | .dat _ :: ss, ms, j + 1, d, h => by
    have := back_dat (ss := ss) (ms := ms) (j := j) (by simpa using h)
    simpa [back] using this
  | .own _ :: ss, [], j + 1, d, h => by
    have := back_dat (ss := ss) (ms := []) (j := j) (by simpa using h)
    simpa [back] using this
  | .own _ :: ss, m :: ms, j + 1, d, h => by
    have := back_dat (ss := ss) (ms := ms) (j := j) (by simpa using h)
    simpa [back] using this
theorem back_len : ∀ {ss : List Sl} {ms : List MO}, (back ss ms).length = ss.length
  | [], _ => rfl
  | .dat _ :: ss, ms => by simp [back, back_len (ss := ss)]
  | .own _ :: ss, [] => by simp [back, back_len (ss := ss)]
  | .own _ :: ss, m :: ms => by simp [back, back_len (ss := ss)]

theorem sl_map {ss : List Sl} {j : Nat} {s : Sl} (h : slot (ss.map some) j = some s) : ss[j]? = some s := by
  have := slot_some h
  rw [List.getElem?_map] at this
  cases q : ss[j]? with
  | none => rw [q] at this; cases this
  | some x => rw [q] at this; simpa using this
theorem sl_map' {ss : List Sl} {j : Nat} {s : Sl} (h : ss[j]? = some s) : slot (ss.map some) j = some s := by
  unfold slot; rw [List.getElem?_map, h]; rfl
theorem vl_map {vs : List V} {j : Nat} {v : V} (h : vs[j]? = some v) : (vs.map some)[j]? = some (some v) := by rw [List.getElem?_map, h]; rfl
theorem at_args : ∀ {vs : List V} {as : List Arg} {j : Nat} {A : Arg}, ATmps w K F ρ σ H0 H vs as → as[j]? = some A → ∃ v, vs[j]? = some v ∧
    (∀ i, A = .ref i → σ[i]? = some (some v)) ∧ ∀ i, A = .val (.loc i) → σ[i]? = some (some v)
  | _, _, j, A, .nil, h => by simp at h
  | _, _, 0, A, @ATmps.val _ _ _ _ _ _ _ v r vs as t f rest, h => by
    simp at h; subst h
    refine ⟨v, rfl, fun i z => (by cases z), fun i z => ?_⟩
    injection z with z
    subst z
    exact t
  | _, _, 0, A, @ATmps.ref _ _ _ _ _ _ _ v k vs as t rest, h => by
    simp at h; subst h
    refine ⟨v, rfl, fun i z => ?_, fun i z => (by cases z)⟩
    injection z with z
    subst z
    exact t
  | _, _, j + 1, A, .val t f rest, h => by
    obtain ⟨v, e, g⟩ := at_args rest (j := j) (A := A) (by simpa using h)
    exact ⟨v, by simpa using e, g⟩
  | _, _, j + 1, A, .ref t rest, h => by
    obtain ⟨v, e, g⟩ := at_args rest (j := j) (A := A) (by simpa using h)
    exact ⟨v, by simpa using e, g⟩
/-- a call, from the caller's side -/
theorem call_post {F' : ASet} {ρ0 : Env} {vs : List V} {as : List Arg} {ss : List Sl} {s : Sl} {ms : List MO} {v : V} (S0 : SR w K F0 ρ0 σ H0) (st : EStep w K σ F0 ρ0 H0 F ρ H) (t : ATmps w K F ρ σ H0 H vs as) (e : argSls ρ as = some ss)
    (hn : (refsOf as).Nodup) (ho : ∀ i ∈ refsOf as, isOwn (slot ρ i) = true) (hl : ∀ i ∈ lentOf as, i ∉ refsOf as)
    (e1 : (if (refsOf as).isEmpty && cleanS s then some ρ else freezeAll ρ (lentOf as)) = some ρ1) (e2 : putBack ρ1 (refsOf as) ms = some ρ2)
    (P : EPost w K (vs.map some) (fun a => Bar F ρ σ a ∧ ¬ Passed ρ vs as a) (ss.map some) H s.res ((back ss ms).map some) v H' F') : ∃ F2, EPost w K σ F0 ρ0 H0 s.res ρ2 v H' F2 := by
  have S := st.sr
  obtain ⟨Sc, oc, oc'⟩ := callee_sr S t e hn hl
  obtain ⟨pl, pn, pr⟩ := putBack_slot e ho hn e2
  -- what ρ1 is
  have h1 : ρ1.length = ρ.length ∧ ∀ i u, slot ρ1 i = some u → slot ρ i = some u ∨ (i ∈ lentOf as ∧ ∃ m, slot ρ i = some (.own m) ∧ u = .dat m.data) := by
    split at e1
    · cases e1; exact ⟨rfl, fun i u h => .inl h⟩
    · obtain ⟨a, b⟩ := freezeAll_slot e1
      refine ⟨a, fun i u h => ?_⟩
      rw [b i] at h
      split at h
      · rename_i hi
        obtain ⟨x, hx, rfl⟩ := Option.map_eq_some_iff.mp h
        cases x with
        | dat d => exact .inl hx
        | own m => exact .inr ⟨hi, m, hx, rfl⟩
      · exact .inl h
  have rlt : ∀ i ∈ refsOf as, i < ρ1.length := fun i hi => by
    obtain ⟨m, q⟩ := isOwn_some (ho i hi)
    rw [h1.1]; exact slot_lt q
  -- the slots of ρ2
  have own2 : ∀ i m, slot ρ2 i = some (.own m) → ∃ m', slot ρ i = some (.own m') ∧ (i ∈ refsOf as ∨ (i ∉ refsOf as ∧ m' = m ∧ slot ρ1 i = some (.own m))) := fun i m h => by
    by_cases hi : i ∈ refsOf as
    · obtain ⟨m', q⟩ := isOwn_some (ho i hi)
      exact ⟨m', q, .inl hi⟩
    · rw [pn i hi] at h
      rcases h1.2 i _ h with q | ⟨_, m', _, z⟩
      · exact ⟨m, q, .inr ⟨hi, rfl, h⟩⟩
      · cases z
  have osub : ∀ a, Own ρ2 σ a → Own ρ σ a := fun a ⟨i, m, h, ev⟩ => let ⟨m', q, _⟩ := own2 i m h; ⟨i, m', q, ev⟩
  have clean : ((refsOf as).isEmpty && cleanS s) = true → refsOf as = [] ∧ cleanS s = true := fun z => by
    rw [Bool.and_eq_true, List.isEmpty_iff] at z
    exact z
  let F2 : ASet := fun a => (F a ∧ ¬ Passed ρ vs as a) ∨ (F' a ∧ H a = none)
  have sub0 : ∀ a, F0 a → ¬ Passed ρ vs as a := fun a f p => by
    rcases passed_inv t ho p with ⟨z, _⟩ | ⟨i, m, _, z1, z2⟩
    · exact S0.ft a f z
    · exact (S.own_some ⟨i, m, z1, z2⟩).2 (st.sub a f)
  have nF2 : ∀ a, Own ρ σ a → ¬ F2 a := fun a o z => by
    rcases z with z | z
    · exact (S.own_some o).2 z.1
    · exact (S.own_some o).1 z.2
  -- the callee's bars hold the caller's, where lent objects are frozen
  have BI : ((refsOf as).isEmpty && cleanS s) = false → ∀ x, Bar F2 ρ2 σ x → H' x ≠ none → Bar F' ((back ss ms).map some) (vs.map some) x := fun nc x z _ => by
    rcases z with (z | z) | z
    · exact .inl (P.st.sub x ⟨.inl z.1, z.2⟩)
    · exact .inl z.1
    · obtain ⟨i, m, h, ev⟩ := z
      obtain ⟨m', q, hi | ⟨hi, _, q1⟩⟩ := own2 i m h
      · obtain ⟨j, mj, g1, g2, g3⟩ := pr i hi (rlt i hi)
        obtain ⟨u, g4, g5, _⟩ := at_args t g1
        have g6 := g5 i rfl
        rw [ev] at g6; cases g6
        exact .inr ⟨j, mj, sl_map' g2, vl_map g4⟩
      · by_cases p : Passed ρ vs as x
        · exfalso
          rcases passed_inv t ho p with ⟨_, z⟩ | ⟨k, mk, kk, z1, z2⟩
          · exact (S.own_some ⟨i, m', q, ev⟩).2 z
          · have := S.inj i k m' mk x q z1 ev z2
            subst this
            rcases kk with kk | kk
            · rw [nc, if_neg Bool.false_ne_true] at e1
              have := (freezeAll_slot e1).2 i
              rw [if_pos kk, q1, q] at this
              cases this
            · exact hi kk
        · exact .inl (P.st.sub x ⟨.inr ⟨i, m', q, ev⟩, p⟩)
  have oca : ∀ x, Own (ss.map some) (vs.map some) x → Own ρ σ x := oc
  have sb : ∀ x, (Bar F2 ρ2 σ x ∨ Own (ss.map some) (vs.map some) x) → H x ≠ none → Bar F ρ σ x := fun x z n => by
    rcases z with ((z | z) | z) | z
    · exact .inl z.1
    · exact absurd z.2 n
    · exact .inr (osub x z)
    · exact .inr (oca x z)
  have S2 : SR w K F2 ρ2 σ H' := by
    refine ⟨by rw [pl, h1.1]; exact S.len, fun a z => ?_, fun i d h => ?_, fun i m h => ?_, fun i j m n a h2 h3 e3 e4 => ?_⟩
    · rcases z with z | z
      · exact P.st.keep.there a (S.ft a z.1)
      · exact P.st.sr.ft a z.1
    · have hi : i ∉ refsOf as := fun hi => by
        obtain ⟨j, m, _, _, g⟩ := pr i hi (rlt i hi)
        rw [h] at g; cases g
      rw [pn i hi] at h
      rcases h1.2 i _ h with q | ⟨hle, m, q, z⟩
      · obtain ⟨u, ev, r⟩ := S.dat i d q
        exact ⟨u, ev, keepR P.st.keep sb r⟩
      · cases z
        obtain ⟨j, g1⟩ := lent_at hle
        obtain ⟨u, g4, _, g5⟩ := at_args t g1
        have g6 := g5 i rfl
        refine ⟨u, g6, ?_⟩
        have nc : ((refsOf as).isEmpty && cleanS s) = false := by
          cases c : ((refsOf as).isEmpty && cleanS s) with
          | false => rfl
          | true =>
            rw [c, if_pos rfl] at e1
            cases e1
            rw [q] at h; cases h
        have hjs : ss[j]? = some (.dat m.data) := by
          have hj : j < ss.length := by
            rw [args_len t e]; exact (List.getElem?_eq_some_iff.mp g4).1
          obtain ⟨v2, A, k1, k2, k3⟩ := arg_at t e (List.getElem?_eq_getElem hj)
          rw [g1] at k2; cases k2
          cases k3 with
          | loc a b c _ => rw [q] at b; cases b; rw [List.getElem?_eq_getElem hj, c]; rfl
        obtain ⟨u', k1, k2⟩ := P.st.sr.dat j m.data (sl_map' (back_dat hjs))
        rw [vl_map g4] at k1; cases k1
        exact k2.bar (BI nc)
    · obtain ⟨m', q, hi | ⟨hi, rfl, q1⟩⟩ := own2 i m h
      · obtain ⟨j, mj, g1, g2, g3⟩ := pr i hi (rlt i hi)
        rw [h] at g3; cases g3
        obtain ⟨u, g4, g5, _⟩ := at_args t g1
        have g6 := g5 i rfl
        obtain ⟨a, k1, k2, k3⟩ := P.st.sr.own j m (sl_map' g2)
        rw [vl_map g4] at k1; cases k1
        have nc : ((refsOf as).isEmpty && cleanS s) = false := by
          cases c : ((refsOf as).isEmpty && cleanS s) with
          | false => rfl
          | true => rw [(clean c).1] at hi; cases hi
        exact ⟨a, g6, nF2 a ⟨i, m', q, g6⟩, k3.bar (BI nc)⟩
      · obtain ⟨a, ev, nf, c⟩ := S.own i m' q
        refine ⟨a, ev, nF2 a ⟨i, m', q, ev⟩, ?_⟩
        refine ((c.bar sb).keep P.st.keep (fun x z => .inr z) fun o => ?_).bar fun x z _ => .inl z
        obtain ⟨k, mk, kr, k1, k2⟩ := oc' a o
        have := S.inj i k m' mk a q k1 ev k2
        subst this
        exact hi kr
    · obtain ⟨m', q, _⟩ := own2 i m h2
      obtain ⟨n', q', _⟩ := own2 j n h3
      exact S.inj i j m' n' a q q' e3 e4
  refine ⟨F2, ⟨fun a f => .inl ⟨st.sub a f, sub0 a f⟩, fun a z => ?_, S2, st.keep.trans (P.st.keep.mono oca) st.osub, fun a z => st.osub a (osub a z)⟩, ?_, fun m z => ?_⟩
  · rcases z with z | z
    · exact st.new a z.1
    · exact .inr (st.none z.2)
  · cases c : ((refsOf as).isEmpty && cleanS s) with
    | false =>
      cases s with
      | dat d => exact (show Rep w K _ H' v d from P.tmp).bar (BI c)
      | own m =>
        obtain ⟨a, ev, fa, cc⟩ := (show Tmp w K _ _ _ _ v (.new m) from P.tmp)
        obtain ⟨b, ev', hb⟩ := P.fresh m rfl
        rw [ev] at ev'; cases ev'
        exact ⟨a, ev, .inr ⟨fa, hb⟩, cc.bar (BI c)⟩
    | true =>
      have cl := (clean c).2
      cases s with
      | dat d => exact Rep.imm cl (show Rep w K _ H' v d from P.tmp)
      | own m =>
        obtain ⟨a, ev, fa, cc⟩ := (show Tmp w K _ _ _ _ v (.new m) from P.tmp)
        obtain ⟨b, ev', hb⟩ := P.fresh m rfl
        rw [ev] at ev'; cases ev'
        refine ⟨a, ev, .inr ⟨fa, hb⟩, ?_⟩
        cases cc with
        | lst h r => exact .lst h (RepL.imm cl r)
        | dct h n rk rv =>
          simp only [cleanS, Bool.and_eq_true] at cl
          exact .dct h n (RepL.imm cl.1 rk) (RepL.imm cl.2 rv)
  · obtain ⟨b, ev, hb⟩ := P.fresh m z
    exact ⟨b, ev, st.none hb⟩
end

section
variable {X : Cx} {Fd : Type} {Φ : Fd → List Sl → Option (Sl × List MO)}
theorem call_go {f : Fd} {fA : Env → Option (List Arg × Env)} {σ : L2.St} {H : Hp} {Q : VK} (h : tE X (fun ρ => (fA ρ).bind fun (rs, ρ1) => callE Φ f rs ρ1) σ H Q) : tA X fA σ H fun vs H1 => pr X.w X.K (Φ f) vs H1 Q := by
  obtain ⟨F0, ρ0, r, ρ', S, ev, q⟩ := h
  obtain ⟨⟨as, ρ⟩, e1, ev⟩ := Option.bind_eq_some_iff.mp ev
  refine ⟨F0, ρ0, as, ρ, S, e1, fun vs H1 F1 st t => ?_⟩
  dsimp only at ev
  unfold callE at ev
  split at ev
  · cases ev
  · rename_i ss hss
    split at ev
    · rename_i hc
      split at ev
      · cases ev
      · rename_i s ms hf
        split at ev
        · cases ev
        · rename_i ρ1 hr
          obtain ⟨ρ2, hp, ev⟩ := Option.map_eq_some_iff.mp ev
          cases ev
          refine ⟨_, ss, s, ms, (callee_sr st.sr t hss hc.1 hc.2.2).1, hf, fun v H' F' P => ?_⟩
          obtain ⟨F2, P2⟩ := call_post S st t hss hc.1 hc.2.1 hc.2.2 hr hp P
          exact q v H' F2 P2
    · cases ev
theorem g_run {fn : List Sl → Option (Sl × List MO)} {k : Nat} {a : Addr} {fd : FuncData} {ps : List Str} {pins : List (Addr × Obj)} {σ : L2.St} {H : Hp} {s : Shared} {Q : VK} {us : List Value} {vs : List V} (G : FnG X.prog X.w X.K X.mg X.base k fn a fd ps) (hr : Room k X.A) (hg : X.A.guards = some []) (hb : Binds X.K fd ps [])
    (I : Inv X pins σ H s) (r : Vals vs us) (h : pr X.w X.K fn vs H Q) : wpAny (model X.prog X.w) X.A (call (.ref a) us) (EP X pins σ Q) X.xe s := by
  have hl : us.length = ps.length := by
    obtain ⟨F0, ss, sr, ms, S, e, _⟩ := h
    have h1 := S.len
    simp only [List.length_map] at h1
    rw [← r.length, ← h1]
    exact G.len ss _ e
  have hb1 := hb s us I.kIn (by simpa using hl)
  rw [List.append_nil] at hb1
  refine wpAny_call (codeAny_mono (G.run X.A X.stack s H ⟨us, []⟩ us vs Q hr hg I.env0 hb1 r h) fun r s' hq => ?_)
  cases r with
  | error e => exact False.elim hq
  | ok fl =>
    cases fl with
    | ret u => exact I.after hq
    | next => exact False.elim hq
    | brk => exact False.elim hq
    | cont => exact False.elim hq
theorem e_call {f : Fd} {k : Nat} {a : Addr} {fd : FuncData} {ps : List Str} {x : Str} {p pos : Pos} {e : Expr} {es : List Expr} {fA : Env → Option (List Arg × Env)} (G : FnG X.prog X.w X.K X.mg X.base k (Φ f) a fd ps) (hr : Room k X.A) (hg : X.A.guards = some []) (hb : Binds X.K fd ps [])
    (gl : Gl X x) (hm : X.mg x = some (.ref a)) (hk : keepIn X.K (.ref a) = true) (hd : (x == ("__debug__" : Str)) = false) (n : (e :: es).all nst = true) (ha : PA X (e :: es) (tA X fA)) :
    PE X (.Call (.Name x p) (e :: es) [] pos) (tE X fun ρ => (fA ρ).bind fun (rs, ρ1) => callE Φ f rs ρ1) := by
  simp only [List.all_cons, Bool.and_eq_true] at n
  refine ⟨fun pins s σ H Q I h => ?_⟩
  refine wpAny_Call_Name_kw (ld_glob I gl hm ?_ hd)
  refine PySem.W.callWith_K (h₀ := X.base) I.ok.mod.kin hk (thn (ha.run pos pins s σ H _ I (call_go h)) fun us s1 ⟨vs, H1, I1, r, q⟩ => ⟨I1.kIn, ?_⟩) (starEach_cons n.1) (backTo_any n.2)
  exact g_run G hr hg hb I1 r q
end

section
variable {P : Program} {w : World} {K : Frag} {mg : Str → Option Value} {base : Heap}
/-- a def keeps its promise, from its body -/
theorem g_of {k : Nat} {x qual : Str} {st : Stmt} {f : Addr} {fd : FuncData} {N ps : List Str} {fn : List Sl → Option (Sl × List MO)} (Fn : C8.Fun K x qual st f fd) (S : FnScope N ps (C8.fnScope st)) (len : ∀ ss r, fn ss = some r → ss.length = ps.length)
    (hbody : ∀ (cdv : Value) (A : Around) (outer : List PySem.Env) (s : Shared) (H : Hp) (vs : List V) (Q : VK), Room k (A.deeper (envOfC qual (C8.fnScope st) s.heap.objs.size f cdv)) → A.guards = some [] → vs.length = ps.length → pr w K fn vs H Q →
      ∃ t, PSs (cxOf C8.CX0 P w K mg base N qual (C8.fnScope st) f cdv A outer s H C8.E0).nox (C8.fnBody st) t ∧ t { nx := fun _ H' => Q .non H', rt := Q } (start N vs) H) : FnG P w K mg base (k + 1) fn f fd ps := by
  obtain ⟨oc, od, dV, kV, doc, pm, an, cdv, ct, osl, rfl, lk, hcd⟩ := Fn.ex
  refine ⟨len, fun A outer s H args us vs Q hr hg e0 hb r hsp => ?_⟩
  have hl : vs.length = ps.length := by
    obtain ⟨F0, ss, sr, ms, S, e, _⟩ := hsp
    have h1 := S.len
    simp only [List.length_map] at h1
    rw [← h1]
    exact len ss _ e
  let sp : Sp := fun vs' H' Q' _ => (vs' = vs ∧ H' = H ∧ Q' = Q) ∧ A.guards = some []
  have KX : K.In s.heap := e0.mod.kin.keeps fun b o e => (e0.bs b o e).1
  have lim : s.heap.NoLimit := e0.mod.nolimit.keeps fun b o e => (e0.bs b o e).1
  have hkind : ∀ y ∈ ps.zip us, (C8.fnScope st).names.lookup y.1 = some .local ∨ ((C8.fnScope st).names.lookup y.1 = some .cell ∧ ((cellsFrom (s.heap.objs.size + 1) (C8.fnScope st).names []).lookup y.1).isSome = true) := fun ⟨n, v⟩ hy => by
    rcases S.par n (List.of_mem_zip hy).1 with q | q
    · exact .inl q
    · exact .inr ⟨q, PySem.W.cellsFrom_some _ _ _ (.inl q)⟩
  refine codeAny_call_function hr.depth (KX _ _ lk) rfl S.co S.gen rfl (PySem.W.codeRec_of KX hcd) (hb _ _ _ _ ?_)
  refine wpAny_newFunctionEnv_cells S.kind hkind fun env he s1 x => ?_
  subst he
  refine ⟨lim.keeps x.toInCall.keep, codeAny_func ?_⟩
  obtain ⟨t, ht, hq⟩ := hbody cdv A outer s H vs Q (hr.deeper _) hg hl hsp
  have I : Inv (cxOf C8.CX0 P w K mg base N qual (C8.fnScope st) f cdv A outer s H C8.E0) [] (start N vs) H s1 := inv_start S hr.hd e0 hl r x
  refine wpAny_mono (ht.nox.run [] s1 (start N vs) H _ I hq) (fun fl s' hs => ?_) fun e s' hs => hs
  have fin : ∀ {σ' : L2.St} {H' : Hp} {v : V} {u : Value}, Inv (cxOf C8.CX0 P w K mg base N qual (C8.fnScope st) f cdv A outer s H C8.E0) [] σ' H' s' → RelV v u → Q v H' → CE outer P w H s Q u s' :=
    fun {σ' H' v u} J rv q => ⟨v, H', J.os, J.bare, J.base, J.hok, rv, q⟩
  cases fl with
  | ret u =>
    obtain ⟨v, σ', H', J, rv, q⟩ := hs
    exact fin J rv q
  | next =>
    obtain ⟨σ', H', J, q⟩ := hs
    exact fin (v := V.non) (u := Value.none) J rfl q
  | brk =>
    obtain ⟨_, _, _, q⟩ := hs
    exact False.elim q
  | cont =>
    obtain ⟨_, _, _, q⟩ := hs
    exact False.elim q
end
end SP

/-! SpS: statements. -/
namespace SP
open PySem PySem.W PyProof.Rows L2 PySem.SeqAt

section
variable {w : World} {K : Frag} {F F' : ASet} {ρ ρ' ρ1 : Env} {σ σ' σ1 : L2.St} {H H' H1 : Hp} {Z : List Nat}
/-- a return's step -/
structure RStep (w : World) (K : Frag) (Z : List Nat) (F : ASet) (σ : L2.St) (ρ : Env) (H : Hp) (s : Sl) (σ' : L2.St) (ρ' : Env) (H' : Hp) (F' : ASet) (v : V) : Prop where
  sr : SR w K F' ρ' σ' H'
  sub : ∀ a, F a → F' a
  new : ∀ a, F' a → F a ∨ Own ρ σ a ∨ H a = none
  keep : Keep (Own ρ σ) H H'
  own : ∀ a, Own ρ' σ' a → Own ρ σ a ∨ H a = none
  fix : ∀ i ∈ Z, σ'[i]? = σ[i]?
  tmp : Tmp w K F' ρ' σ' H' v s.res
  fresh : ∀ m, s = .own m → ∃ a, v = .ref a ∧ (Own ρ σ a ∨ H a = none)
theorem Keep.none {O : ASet} {H H' : Hp} (k : Keep O H H') {a : Addr} (h : H' a = none) : H a = none := by
  cases q : H a with
  | none => rfl
  | some o => exact absurd h (k.there a (by rw [q]; simp))
theorem RStep.after {s : Sl} {v : V} (a : SStep w K Z F σ ρ H σ1 ρ1 H1) (b : RStep w K Z F σ1 ρ1 H1 s σ' ρ' H' F' v) : RStep w K Z F σ ρ H s σ' ρ' H' F' v := by
  refine ⟨b.sr, b.sub, fun x z => ?_, a.keep.trans2 b.keep a.own, fun x z => ?_, fun i h => (b.fix i h).trans (a.fix i h), b.tmp, fun m e => ?_⟩
  · rcases b.new x z with z | z | z
    · exact .inl z
    · exact .inr (a.own x z)
    · exact .inr (.inr (a.keep.none z))
  · rcases b.own x z with z | z
    · exact a.own x z
    · exact .inr (a.keep.none z)
  · obtain ⟨c, e1, z | z⟩ := b.fresh m e
    · exact ⟨c, e1, a.own c z⟩
    · exact ⟨c, e1, .inr (a.keep.none z)⟩
end

section
variable {X : Cx} {Z : List Nat}
def OutK (X : Cx) (Z : List Nat) (F : ASet) (σ : L2.St) (ρ : Env) (H : Hp) (D : Ends) : Out → Prop
  | .nx ρ' => ∀ σ' H', SStep X.w X.K Z F σ ρ H σ' ρ' H' → D.nx σ' H'
  | .ct ρ' => ∀ σ' H', SStep X.w X.K Z F σ ρ H σ' ρ' H' → D.ct σ' H'
  | .rt s ρ' => ∀ v σ' H' F', RStep X.w X.K Z F σ ρ H s σ' ρ' H' F' v → D.rt v H'
theorem OutK.after {F : ASet} {σ σ1 : L2.St} {ρ ρ1 : Env} {H H1 : Hp} {D : Ends} {o : Out} (a : SStep X.w X.K Z F σ ρ H σ1 ρ1 H1) (h : OutK X Z F σ ρ H D o) : OutK X Z F σ1 ρ1 H1 D o := by
  cases o with
  | nx ρ' => exact fun σ' H' b => h σ' H' (a.trans b)
  | ct ρ' => exact fun σ' H' b => h σ' H' (a.trans b)
  | rt s ρ' => exact fun v σ' H' F' b => h v σ' H' F' (.after a b)
def tS (X : Cx) (Z : List Nat) (f : Env → Option Out) : TS := fun D σ H => ∃ F0 ρ o, SR X.w X.K F0 ρ σ H ∧ f ρ = some o ∧ OutK X Z F0 σ ρ H D o
theorem PSimp {st : Stmt} {t t' : TS} (h : PS X st t) (i : ∀ D σ H, t' D σ H → t D σ H) : PS X st t' := ⟨fun pins s σ H D I hw => h.run pins s σ H D I (i D σ H hw)⟩
theorem PSsimp {st : List Stmt} {t t' : TS} (h : PSs X st t) (i : ∀ D σ H, t' D σ H → t D σ H) : PSs X st t' := ⟨fun pins s σ H D I hw => h.run pins s σ H D I (i D σ H hw)⟩

/-! ### blocks -/
def fSeq (f g : Env → Option Out) : Env → Option Out := fun ρ => (f ρ).bind fun o => match o with
  | .nx ρ1 => g ρ1
  | o => some o
theorem b_nil : PSs X [] (tS X Z fun ρ => some (.nx ρ)) := PSsimp pss_nil fun D σ H h => by
  obtain ⟨F0, ρ, o, S, e, k⟩ := h
  cases e
  exact k σ H (.refl S)
theorem b_cons {st : Stmt} {sts : List Stmt} {f g : Env → Option Out} (h1 : PS X st (tS X Z f)) (h2 : PSs X sts (tS X Z g)) : PSs X (st :: sts) (tS X Z (fSeq f g)) := by
  refine PSsimp (pss_cons h1 h2) fun D σ H h => ?_
  obtain ⟨F0, ρ, o, S, e, k⟩ := h
  obtain ⟨o1, e1, e⟩ := Option.bind_eq_some_iff.mp e
  refine ⟨F0, ρ, o1, S, e1, ?_⟩
  cases o1 with
  | nx ρ1 => exact fun σ' H' a => ⟨F0, ρ1, o, a.sr, e, k.after a⟩
  | ct ρ1 => cases e; exact k
  | rt s ρ1 => cases e; exact k

/-! ### one expression -/
def ncmp : Expr → Bool
  | .ListComp .. => false
  | .SetComp .. => false
  | .DictComp .. => false
  | _ => true
theorem swaps_no {e : Expr} {t : Option Expr} {l : Nat} {env : PySem.Env} (h : ncmp e = true) : swapsWith e t l env = pure false := by
  cases e <;> first | rfl | cases h
theorem s_expr {e : Expr} {pos : Pos} {f : Env → Option (R × Env)} (he : PE X e (tE X f)) (h : ncmp e = true) : PS X (.Expr e pos) (tS X Z fun ρ => (f ρ).map fun p => .nx p.2) := by
  refine PSimp (ps_expr he (swaps_no h)) fun D σ H h => ?_
  obtain ⟨F0, ρ, o, S, e, k⟩ := h
  obtain ⟨⟨r, ρ1⟩, e1, e⟩ := Option.map_eq_some_iff.mp e
  cases e
  exact ⟨F0, ρ, r, ρ1, S, e1, fun v H1 F1 p => k σ H1 p.st.sstep⟩

/-! ### a name -/
theorem set_sstep {F0 F1 : ASet} {σ : L2.St} {ρ ρ1 ρ2 : Env} {H H1 : Hp} {r : R} {v : V} {i : Nat} {o : Bool} (S : SR X.w X.K F0 ρ σ H) (p : EPost X.w X.K σ F0 ρ H r ρ1 v H1 F1) (e : setT ρ1 i o r = some ρ2) (hi : i ∉ Z) :
    SStep X.w X.K Z F0 σ ρ H (σ.set i (some v)) ρ2 H1 := by
  have data : ∀ {d : D} {ρ3 : Env}, SP.esc (r, ρ1) = some (d, ρ3) → ρ2 = ρ3.set i (some (.dat d)) → SStep X.w X.K Z F0 σ ρ H (σ.set i (some v)) ρ2 H1 := fun {d ρ3} ee z => by
    obtain ⟨st, rr⟩ := p.esc S ee
    have s1 : SStep X.w X.K Z F0 σ ρ H σ ρ3 H1 := st.sstep
    subst z
    refine s1.trans ((AStep.one s1.sr (rr.bar fun a z _ => ?_)).sstep fun j hj hm => ?_)
    · rcases z with z | z
      · exact .inl (st.sub a z)
      · exact .inr z
    · rw [List.mem_singleton] at hm
      exact hi (hm ▸ hj)
  cases r with
  | dat d => cases e; exact data rfl rfl
  | loc j =>
    obtain ⟨⟨d, ρ3⟩, e1, e2⟩ := Option.map_eq_some_iff.mp e
    cases e2
    exact data e1 rfl
  | new m =>
    cases o with
    | false => cases e; exact data rfl rfl
    | true =>
      cases e
      obtain ⟨a, ev, fa, c⟩ := p.tmp
      obtain ⟨b, ev', hb⟩ := p.fresh m rfl
      rw [ev] at ev'; cases ev'
      subst ev
      have S2 := (p.st.sr.setO (i := i) fa c).less (F' := F0) fun x z => ⟨p.st.sub x z, fun q => S.ft x z (q ▸ hb)⟩
      refine ⟨S2, p.st.keep, fun x z => ?_, fun j hj => at_set_ne fun q => hi (q ▸ hj)⟩
      obtain ⟨j, m', h, ev⟩ := z
      rcases slot_set h with ⟨rfl, _, hl⟩ | ⟨ne, h⟩
      · rw [at_set_self (by rw [← p.st.sr.len]; exact hl)] at ev
        cases ev
        exact .inr hb
      · rw [at_set_ne ne] at ev
        exact .inl (p.st.osub x ⟨j, m', h, ev⟩)
def fSet (i : Nat) (o : Bool) (f : Env → Option (R × Env)) : Env → Option Out := fun ρ => (f ρ).bind fun (r, ρ1) => (setT ρ1 i o r).map .nx
theorem set_go {i : Nat} {o : Bool} {f : Env → Option (R × Env)} (hi : i ∉ Z) {D : Ends} {σ : L2.St} {H : Hp} (h : tS X Z (fSet i o f) D σ H) : tAsg (tE X f) (gName i) D σ H := by
  obtain ⟨F0, ρ, oo, S, e, k⟩ := h
  obtain ⟨⟨r, ρ1⟩, e1, e⟩ := Option.bind_eq_some_iff.mp e
  obtain ⟨ρ2, e2, e⟩ := Option.map_eq_some_iff.mp e
  cases e
  exact ⟨F0, ρ, r, ρ1, S, e1, fun v H1 F1 p => k _ _ (set_sstep S p e2 hi)⟩
end
end SP

/-! SpS2: statements, the rest. -/
namespace SP
open PySem PySem.W PyProof.Rows L2 PySem.SeqAt

/-! ### moves into several names -/
inductive MTmps (w : World) (K : Frag) (F : ASet) (ρ : Env) (σ : L2.St) (H0 H : Hp) : List V → List R → Prop
  | nil : MTmps w K F ρ σ H0 H [] []
  | dat {v : V} {d : D} {vs : List V} {rs : List R} : Rep w K (Bar F ρ σ) H v d → MTmps w K F ρ σ H0 H vs rs → MTmps w K F ρ σ H0 H (v :: vs) (.dat d :: rs)
  | new {a : Addr} {m : MO} {vs : List V} {rs : List R} : F a → H0 a = none → Cell w K (Bar F ρ σ) H a m → (∀ (j : Nat) (m' : MO), rs[j]? = some (.new m') → vs[j]? ≠ some (.ref a)) → MTmps w K F ρ σ H0 H vs rs → MTmps w K F ρ σ H0 H (.ref a :: vs) (.new m :: rs)
section
variable {w : World} {K : Frag} {F F' F1 : ASet} {ρ ρ' ρ1 : Env} {σ σ' σ1 : L2.St} {H0 H H' H1 : Hp}
theorem MTmps.weak {vs : List V} {rs : List R} (k : ∀ a, H0 a = none → H' a = none) (t : MTmps w K F ρ σ H0 H vs rs) : MTmps w K F ρ σ H' H vs rs := by
  induction t with
  | nil => exact .nil
  | dat a _ ih => exact .dat a ih
  | new a b c d _ ih => exact .new a (k _ b) c d ih
/-- at an earlier place of the same fresh row -/
theorem MTmps.fresh_at : ∀ {vs : List V} {rs : List R} {j : Nat} {m : MO} {a : Addr}, MTmps w K F ρ σ H0 H vs rs → rs[j]? = some (.new m) → vs[j]? = some (.ref a) → H0 a = none
  | _, _, j, m, a, .nil, h, _ => by simp at h
  | _, _, 0, m, a, .dat _ _, h, _ => by simp at h
  | _, _, 0, m, a, .new _ b _ _ _, _, h => by simp at h; subst h; exact b
  | _, _, j + 1, m, a, .dat _ t, h, h' => t.fresh_at (j := j) (by simpa using h) (by simpa using h')
  | _, _, j + 1, m, a, .new _ _ _ _ t, h, h' => t.fresh_at (j := j) (by simpa using h) (by simpa using h')
/-- what may be left out of the bars -/
theorem MTmps.bar {vs : List V} {rs : List R} (t : MTmps w K F ρ σ H0 H vs rs) (s : ∀ x, Bar F' ρ' σ' x → H x ≠ none → Bar F ρ σ x) (f : ∀ (j : Nat) (m : MO) (a : Addr), rs[j]? = some (.new m) → vs[j]? = some (.ref a) → F a → F' a) : MTmps w K F' ρ' σ' H0 H vs rs := by
  induction t with
  | nil => exact .nil
  | dat a _ ih => exact .dat (a.bar s) (ih fun j m b h1 h2 => f (j + 1) m b (by simpa using h1) (by simpa using h2))
  | new a b c d _ ih => exact .new (f 0 _ _ rfl rfl a) b (c.bar s) d (ih fun j m b h1 h2 => f (j + 1) m b (by simpa using h1) (by simpa using h2))
def setsV : L2.St → List Nat → List V → L2.St
  | σ, i :: is, v :: vs => setsV (σ.set i (some v)) is vs
  | σ, _, _ => σ
theorem par_step {Z : List Nat} : ∀ {ts : List (Nat × Bool)} {rs : List R} {vs : List V} {F : ASet} {ρ ρ2 : Env} {σ : L2.St}, SR w K F ρ σ H → (∀ a, F1 a → F a) → (∀ a, F1 a → H0 a ≠ none) → MTmps w K F ρ σ H0 H vs rs → setPar ts rs ρ = some ρ2 → (∀ t ∈ ts, t.1 ∉ Z) →
    SR w K F1 ρ2 (setsV σ (ts.map (·.1)) vs) H ∧ (∀ a, Own ρ2 (setsV σ (ts.map (·.1)) vs) a → Own ρ σ a ∨ H0 a = none) ∧ (∀ i ∈ Z, (setsV σ (ts.map (·.1)) vs)[i]? = σ[i]?) ∧ (setsV σ (ts.map (·.1)) vs).length = σ.length
  | [], [], vs, F, ρ, ρ2, σ, S, sub, old, t, e, hz => by
    cases t
    cases e
    exact ⟨S.less sub, fun _ z => .inl z, fun _ _ => rfl, rfl⟩
  | (i, o) :: ts, r :: rs, _, F, ρ, ρ2, σ, S, sub, old, t, e, hz => by
    have hi : i ∉ Z := hz (i, o) (List.mem_cons_self ..)
    have hz' : ∀ t ∈ ts, t.1 ∉ Z := fun t h => hz t (List.mem_cons_of_mem _ h)
    -- one data value, then the rest
    have data : ∀ {v : V} {d : D} {vs : List V} {F' : ASet}, SR w K F' ρ σ H → (∀ a, F1 a → F' a) → Rep w K (Bar F' ρ σ) H v d → MTmps w K F' ρ σ H0 H vs rs → (setPar ts rs (ρ.set i (some (.dat d)))) = some ρ2 →
        SR w K F1 ρ2 (setsV (σ.set i (some v)) (ts.map (·.1)) vs) H ∧ (∀ a, Own ρ2 (setsV (σ.set i (some v)) (ts.map (·.1)) vs) a → Own ρ σ a ∨ H0 a = none) ∧ (∀ j ∈ Z, (setsV (σ.set i (some v)) (ts.map (·.1)) vs)[j]? = σ[j]?) ∧ (setsV (σ.set i (some v)) (ts.map (·.1)) vs).length = σ.length := by
      intro v d vs F' S' sub' r' t' e'
      have A := AStep.one S' (i := i) r'
      obtain ⟨q1, q2, q3, q4⟩ := par_step A.sr sub' old (t'.bar A.bar fun _ _ _ _ _ z => z) e' hz'
      refine ⟨q1, fun a z => (q2 a z).elim (fun z => .inl (A.own a z)) .inr, fun j hj => (q3 j hj).trans (A.off j fun z => ?_), q4.trans A.len⟩
      rw [List.mem_singleton] at z
      exact hi (z ▸ hj)
    cases t with
    | dat r0 t0 => exact data S sub r0 t0 e
    | @new a m vs rs fa ha c ne t0 =>
      have subA : ∀ x, F1 x → F x ∧ x ≠ a := fun x z => ⟨sub x z, fun q => old x z (q ▸ ha)⟩
      have keepN : ∀ (j : Nat) (m' : MO) (b : Addr), rs[j]? = some (.new m') → vs[j]? = some (.ref b) → F b → F b ∧ b ≠ a := fun j m' b h1 h2 fb => ⟨fb, fun q => ne j m' h1 (q ▸ h2)⟩
      cases o with
      | false =>
        have sb : ∀ x, Bar (fun x => F x ∧ x ≠ a) ρ σ x → H x ≠ none → Bar F ρ σ x := fun x z _ => z.elim (fun z => .inl z.1) .inr
        refine data (F' := fun x => F x ∧ x ≠ a) (S.less fun x z => z.1) subA ((c.bar sb).rep ?_) (t0.bar sb keepN) e
        rintro (⟨_, z⟩ | z)
        · exact z rfl
        · exact (S.own_some z).2 fa
      | true =>
        have S2 := S.setO (i := i) fa c
        have oo : ∀ x, Own (ρ.set i (some (.own m))) (σ.set i (some (.ref a))) x → Own ρ σ x ∨ x = a := fun x ⟨j, m', h, ev⟩ => by
          rcases slot_set h with ⟨rfl, _, hl⟩ | ⟨n, h⟩
          · rw [at_set_self (by rw [← S.len]; exact hl)] at ev
            cases ev
            exact .inr rfl
          · rw [at_set_ne n] at ev
            exact .inl ⟨j, m', h, ev⟩
        have sb : ∀ x, Bar (fun x => F x ∧ x ≠ a) (ρ.set i (some (.own m))) (σ.set i (some (.ref a))) x → H x ≠ none → Bar F ρ σ x := fun x z _ => by
          rcases z with z | z
          · exact .inl z.1
          · rcases oo x z with z | z
            · exact .inr z
            · exact .inl (z ▸ fa)
        obtain ⟨q1, q2, q3, q4⟩ := par_step S2 subA old (t0.bar sb keepN) e hz'
        refine ⟨q1, fun x z => ?_, fun j hj => (q3 j hj).trans (at_set_ne fun q => hi (q ▸ hj)), q4.trans (by simp)⟩
        rcases q2 x z with z | z
        · rcases oo x z with z | z
          · exact .inl z
          · exact .inr (z ▸ ha)
        · exact .inr z
  | [], _ :: _, _, _, _, _, _, _, _, _, _, e, _ => by cases e
  | _ :: _, [], _, _, _, _, _, _, _, _, _, e, _ => by cases e
end

section
variable {X : Cx} {Z : List Nat}
def tM (X : Cx) (f : Env → Option (List R × Env)) : TA := fun σ H Q => ∃ F0 ρ rs ρ', SR X.w X.K F0 ρ σ H ∧ f ρ = some (rs, ρ') ∧ ∀ vs H' F', EStep X.w X.K σ F0 ρ H F' ρ' H' → MTmps X.w X.K F' ρ' σ H H' vs rs → Q vs H'
theorem m_nil : PA X [] (tM X fun ρ => some ([], ρ)) := PAimp pa_nil fun σ H Q h => by
  obtain ⟨F0, ρ, rs, ρ', S, ev, q⟩ := h
  cases ev
  exact q [] H F0 (.refl S) .nil
def fM (f : Env → Option (R × Env)) (g : Env → Option (List R × Env)) : Env → Option (List R × Env) := fun ρ => (f ρ).bind fun p => match p.1 with
  | .loc i => (freeze p.2 i).bind fun (d, ρ1) => (g ρ1).map fun (rs, ρ2) => (.dat d :: rs, ρ2)
  | r => (g p.2).map fun (rs, ρ2) => (r :: rs, ρ2)
theorem m_cons {e : Expr} {es : List Expr} {f : Env → Option (R × Env)} {g : Env → Option (List R × Env)} (he : PE X e (tE X f)) (hs : PA X es (tM X g)) (n : nst e = true) : PA X (e :: es) (tM X (fM f g)) := by
  refine PAimp (pa_cons he hs (starEach_cons n)) fun σ H Q h => ?_
  obtain ⟨F0, ρ, rs, ρ', S, ev, q⟩ := h
  obtain ⟨⟨r1, ρ1⟩, e1, ev⟩ := Option.bind_eq_some_iff.mp ev
  refine ⟨F0, ρ, r1, ρ1, S, e1, fun v1 H1 F1 p1 => ?_⟩
  cases r1 with
  | dat d =>
    obtain ⟨⟨r2, ρ2⟩, e2, ev⟩ := Option.map_eq_some_iff.mp ev
    cases ev
    exact ⟨F1, ρ1, r2, _, p1.st.sr, e2, fun vs H2 F2 p2 t2 => q _ H2 F2 (p1.st.trans p2) (.dat (p2.rep p1.tmp) (t2.weak fun a h => p1.st.none h))⟩
  | loc i =>
    obtain ⟨⟨d, ρ1'⟩, e2, ev⟩ := Option.bind_eq_some_iff.mp ev
    obtain ⟨⟨r2, ρ2⟩, e3, ev⟩ := Option.map_eq_some_iff.mp ev
    cases ev
    obtain ⟨st, u, eu, ru⟩ := EStep.frz p1.st.sr e2
    have t : σ[i]? = some (some v1) := p1.tmp
    rw [t] at eu; cases eu
    have st1 := p1.st.trans st
    exact ⟨F1, ρ1', r2, _, st1.sr, e3, fun vs H2 F2 p2 t2 => q _ H2 F2 (st1.trans p2) (.dat (p2.rep ru) (t2.weak fun a h => st1.none h))⟩
  | new m =>
    obtain ⟨⟨r2, ρ2⟩, e2, ev⟩ := Option.map_eq_some_iff.mp ev
    cases ev
    refine ⟨F1, ρ1, r2, _, p1.st.sr, e2, fun vs H2 F2 p2 t2 => ?_⟩
    obtain ⟨a, ev, fa, c⟩ := p1.tmp
    obtain ⟨b, ev', hb⟩ := p1.fresh m rfl
    rw [ev] at ev'; cases ev'
    subst ev
    refine q _ H2 F2 (p1.st.trans p2) (.new (p2.sub a fa) hb (p2.cell (fun o => (p1.st.sr.own_some o).2 fa) c) (fun j m' h1 h2 => ?_) (t2.weak fun a h => p1.st.none h))
    exact p1.st.sr.ft a fa (t2.fresh_at h1 h2)
def fPar (ts : List (Nat × Bool)) (f : Env → Option (List R × Env)) : Env → Option Out := fun ρ => (f ρ).bind fun (rs, ρ1) => (setPar ts rs ρ1).map .nx
theorem par_go {ts : List (Nat × Bool)} {f : Env → Option (List R × Env)} (hz : ∀ t ∈ ts, t.1 ∉ Z) {D : Ends} {σ : L2.St} {H : Hp} (h : tS X Z (fPar ts f) D σ H) :
    tM X f σ H fun vs H1 => ∀ H2, Same H1 H2 → D.nx (setsV σ (ts.map (·.1)) vs) H2 := by
  obtain ⟨F0, ρ, oo, S, e, k⟩ := h
  obtain ⟨⟨rs, ρ1⟩, e1, e⟩ := Option.bind_eq_some_iff.mp e
  obtain ⟨ρ2, e2, e⟩ := Option.map_eq_some_iff.mp e
  cases e
  refine ⟨F0, ρ, rs, ρ1, S, e1, fun vs H1 F1 st t H2 sm => ?_⟩
  obtain ⟨q1, q2, q3, q4⟩ := par_step (F1 := F0) st.sr st.sub (fun a f => S.ft a f) t e2 hz
  exact k _ _ ⟨q1.same sm, st.keep.trans2 (Keep.of_same (O := fun _ => False) sm) fun _ z => z.elim, fun a z => (q2 a z).elim (fun z => .inl (st.osub a z)) .inr, q3⟩
theorem mt_len {w : World} {K : Frag} {F : ASet} {ρ : Env} {σ : L2.St} {H0 H : Hp} {vs : List V} {rs : List R} (t : MTmps w K F ρ σ H0 H vs rs) : vs.length = rs.length := by
  induction t with
  | nil => rfl
  | dat _ _ ih => simp [ih]
  | new _ _ _ _ _ ih => simp [ih]
theorem setPar_len : ∀ {ts : List (Nat × Bool)} {rs : List R} {ρ ρ2 : Env}, setPar ts rs ρ = some ρ2 → rs.length = ts.length
  | [], [], _, _, _ => rfl
  | (i, o) :: ts, r :: rs, ρ, ρ2, h => by
    cases r with
    | loc j => cases h
    | dat d =>
      have h' : setPar ts rs (ρ.set i (some (.dat d))) = some ρ2 := h
      simp [setPar_len h']
    | new m =>
      cases o with
      | false =>
        have h' : setPar ts rs (ρ.set i (some (.dat m.data))) = some ρ2 := h
        simp [setPar_len h']
      | true =>
        have h' : setPar ts rs (ρ.set i (some (.own m))) = some ρ2 := h
        simp [setPar_len h']
  | [], _ :: _, _, _, h => by cases h
  | _ :: _, [], _, _, h => by cases h
theorem seq_sets {K : Frag} : ∀ {is : List Nat} {vs : List V} {σ : L2.St} {H : Hp} {Q : L2.St → Hp → Prop}, vs.length = is.length → Q (setsV σ is vs) H → gSeq is vs σ H Q
  | [], [], _, _, _, _, q => ⟨rfl, q⟩
  | i :: is, v :: vs, σ, H, Q, h, q => ⟨v, vs, rfl, seq_sets (K := K) (is := is) (vs := vs) (by simpa using h) q⟩
  | [], _ :: _, _, _, _, h, _ => by simp at h
  | _ :: _, [], _, _, _, h, _ => by simp at h
/-- by way of a tuple -/
theorem par_tup {ts : List (Nat × Bool)} {f : Env → Option (List R × Env)} (hz : ∀ t ∈ ts, t.1 ∉ Z) (hs : ts.length ≤ 20) {D : Ends} {σ : L2.St} {H : Hp} (h : tS X Z (fPar ts f) D σ H) :
    tAsg (tTup (tM X f)) (gTup X.K ts.length (gSeq (ts.map (·.1)))) D σ H := by
  have g := par_go hz h
  obtain ⟨F0', ρ', oo, S', e, k⟩ := h
  obtain ⟨⟨rs', ρ1'⟩, e1', e⟩ := Option.bind_eq_some_iff.mp e
  obtain ⟨ρ2', e2', e⟩ := Option.map_eq_some_iff.mp e
  cases e
  refine ⟨F0', ρ', rs', ρ1', S', e1', fun vs H1 F1 st t => ?_⟩
  have hl : vs.length = ts.length := (mt_len t).trans (setPar_len e2')
  refine ⟨by rw [hl]; exact Nat.le_trans hs (by decide), fun p hp => ?_⟩
  obtain ⟨q1, q2, q3, q4⟩ := par_step (F1 := F0') st.sr st.sub (fun a f => S'.ft a f) t e2' hz
  refine ⟨p, vs, rfl, SqT.of upd_same, hl, seq_sets (K := X.K) (by simpa using hl) (k _ _ ⟨q1.same (same_upd hp), ?_, fun a z => (q2 a z).elim (fun z => .inl (st.osub a z)) .inr, q3⟩)⟩
  exact st.keep.trans2 (Keep.of_same (O := fun _ => False) (same_upd hp)) fun _ z => z.elim
/-- names taken from one tuple -/
def fUnp (is : List Nat) (f : Env → Option (R × Env)) : Env → Option Out := fun ρ => (f ρ).bind fun p => (esc p).bind fun (d, ρ1) => (unpOf d).bind fun ds => (setAll ρ1 is ds).map .nx
/-- names for a tuple's or a list's items -/
def gTL (K : Frag) (n : Nat) (t : TGs) : TG := fun v σ H Q => gTup K n t v σ H Q ∨ gLst K n t v σ H Q
theorem pg_tl {es : List Expr} {k : Nat} {pos : Pos} {t : TGs} {n : Nat} (hc : X.calm = true) (h : PGs X es t)
    (hn : (assignEach es X.env).length = n := by rfl) (hst : (assignEach es X.env).findIdx? (·.1) = none := by rfl) : PG X (.Tuple es k pos) (gTL X.K n t) :=
  ⟨fun pins s σ H v u Q I r hw => hw.elim (fun q => (pg_tup hc h hn hst).run pins s σ H v u Q I r q) fun q => (pg_lst hc h hn hst).run pins s σ H v u Q I r q⟩
theorem unp_go {is : List Nat} {f : Env → Option (R × Env)} (hz : ∀ i ∈ is, i ∉ Z) {D : Ends} {σ : L2.St} {H : Hp} (h : tS X Z (fUnp is f) D σ H) : tAsg (tE X f) (gTL X.K is.length (gSeq is)) D σ H := by
  obtain ⟨F0, ρ, oo, S, e, k⟩ := h
  obtain ⟨⟨r, ρ1⟩, e1, e⟩ := Option.bind_eq_some_iff.mp e
  obtain ⟨⟨d, ρ2⟩, e2, e⟩ := Option.bind_eq_some_iff.mp e
  obtain ⟨ds, e3, e⟩ := Option.bind_eq_some_iff.mp e
  obtain ⟨ρ3, e4, e⟩ := Option.map_eq_some_iff.mp e
  cases e
  refine ⟨F0, ρ, r, ρ1, S, e1, fun v H1 F1 p => ?_⟩
  obtain ⟨st, rr⟩ := p.esc S e2
  cases d with
  | tuple xs =>
    cases e3
    obtain ⟨hl, rfl⟩ := setAll_eq e4
    have s1 : SStep X.w X.K Z F0 σ ρ H σ ρ2 H1 := st.sstep
    cases rr with
    | @tuple a vs _ hq rl =>
      refine .inl ⟨a, vs, rfl, hq, (RepL.length rl).trans hl, seq_asg s1.sr (rl.bar fun x z _ => z.elim (fun z => .inl (st.sub x z)) .inr) hl fun σ' A => k σ' H1 (s1.trans (A.sstep fun j hj hm => hz j hm hj))⟩
  | list xs =>
    cases e3
    obtain ⟨hl, rfl⟩ := setAll_eq e4
    have s1 : SStep X.w X.K Z F0 σ ρ H σ ρ2 H1 := st.sstep
    cases rr with
    | @list a vs _ g hq rl =>
      refine .inr ⟨a, vs, rfl, sqL_of hq, (RepL.length rl).trans hl, seq_asg s1.sr (rl.bar fun x z _ => z.elim (fun z => .inl (st.sub x z)) .inr) hl fun σ' A => k σ' H1 (s1.trans (A.sstep fun j hj hm => hz j hm hj))⟩
  | _ => cases e3

/-! ### lists changed in place -/
theorem SR.at_own {w : World} {K : Frag} {F : ASet} {ρ : Env} {σ : L2.St} {H : Hp} (S : SR w K F ρ σ H) {i : Nat} (h : isOwn (slot ρ i) = true) : ∃ a, σ[i]? = some (some (.ref a)) := by
  obtain ⟨m, e⟩ := isOwn_some h
  obtain ⟨a, e1, _⟩ := S.own i m e
  exact ⟨a, e1⟩
def fApp (i : Nat) (f : Env → Option (R × Env)) : Env → Option Out := fun ρ => match slot ρ i with
  | some (.own (.lst _)) => (f ρ).bind fun p => (esc p).bind fun (d, ρ1) => match slot ρ1 i with
    | some (.own (.lst ds)) => if ds.length < szMax then some (.nx (ρ1.set i (some (.own (.lst (ds ++ [d])))))) else none
    | _ => none
  | _ => none
theorem app_go {i : Nat} {f : Env → Option (R × Env)} {D : Ends} {σ : L2.St} {H : Hp} (h : tS X Z (fApp i f) D σ H) : tDrop (tBM X.K "list" rAppend (tVar i) (tCons (tE X f) tNil)) D σ H := by
  obtain ⟨F0, ρ, oo, S, e, k⟩ := h
  unfold fApp at e
  split at e
  · rename_i ds0 h0
    obtain ⟨⟨r, ρ1⟩, e1, e⟩ := Option.bind_eq_some_iff.mp e
    obtain ⟨⟨d, ρ2⟩, e2, e⟩ := Option.bind_eq_some_iff.mp e
    dsimp only at e
    split at e
    · rename_i ds h2
      split at e
      · rename_i hl
        cases e
        obtain ⟨a, ea, _, c0⟩ := S.own i _ h0
        cases c0 with
        | @lst vs0 _ g0 r0 =>
        refine ⟨.ref a, ea, .inl ⟨rfl, vs0, sqL_of (.of g0)⟩, F0, ρ, r, ρ1, S, e1, fun v H1 F1 p => ?_⟩
        obtain ⟨st, rr⟩ := p.esc S e2
        obtain ⟨a', ea', nf, c⟩ := st.sr.own i _ h2
        rw [ea] at ea'; cases ea'
        cases c with
        | @lst vs _ g rl =>
          refine ⟨a, vs, v, rfl, rfl, g, by rw [rl.length]; exact Nat.lt_of_lt_of_le hl szLine, k σ _ ?_⟩
          have s1 : SStep X.w X.K Z F0 σ ρ H σ ρ2 H1 := st.sstep
          have kz := keep_updL (ys := vs ++ [v]) g
          have ob : Bar F0 ρ2 σ a := .inr ⟨i, _, h2, ea⟩
          have sb : ∀ x, Bar F0 ρ2 σ x → H1 x ≠ none → Bar (fun x => F1 x ∧ (F0 x ∨ V.ref x ≠ v)) ρ2 σ x := fun x z _ => z.elim (fun z => Or.inl (st.sub x z)) Or.inr
          refine s1.trans ⟨s1.sr.write h2 ea kz (.lst upd_same (RepL.keep kz (fun x z => z ▸ ob) ((rl.bar sb).app (.cons (rr.bar sb) .nil)))), kz.mono fun x z => z ▸ ⟨i, _, h2, ea⟩, fun x z => .inl ((own_setM h2).mp z), fun _ _ => rfl⟩
      · cases e
    · cases e
  · cases e
def fClr (i : Nat) : Env → Option Out := fun ρ => match slot ρ i with
  | some (.own (.lst _)) => some (.nx (ρ.set i (some (.own (.lst [])))))
  | some (.own (.dct _)) => some (.nx (ρ.set i (some (.own (.dct [])))))
  | _ => none
/-- x.clear(), x a list or a dict -/
def tClr (w : World) (i : Nat) : TE := fun σ H Q => ∃ a, σ[i]? = some (some (.ref a)) ∧ ((∃ vs, H a = some (.lst vs) ∧ Q .non (upd H a (.lst []))) ∨
  ∃ o es kvs, H a = some (rawD a o) ∧ DOk w a o es kvs ∧ ∀ o', DOk w a o' [] [] → Q .non (upd H a (rawD a o')))
theorem e_clr {i : Nat} {x : Str} {px apos cpos : Pos} (hN : X.N[i]? = some x) (hv : Vis X.env.scope x) (hd : (x == ("__debug__" : Str)) = false) (hcd : (x == ("__classdict__" : Str)) = false) (hl : (apos.endLine == cpos.line) = true) :
    PE X (.Call (.Attribute (.Name x px) (Str.ofString "clear") apos) [] [] cpos) (tClr X.w i) := by
  refine ⟨fun pins s σ H Q I h => ?_⟩
  obtain ⟨a, ea, h⟩ := h
  refine wpAny_Call_method0_late (abs_of rfl) hl (thn ((pe_var hN hv hd hcd).run pins s σ H (fun y H1 => y = .ref a ∧ H1 = H) I ⟨.ref a, ea, rfl, rfl⟩) fun v s1 ⟨y, H1, I1, r1, ey, eH⟩ => ?_)
  subst ey eH
  cases r1
  rcases h with ⟨vs, hh, q⟩ | ⟨o, es, kvs, hh, n, q⟩
  · obtain ⟨h1, h2⟩ := tyV_is (T := "list") (x := V.ref a) I1 (show RelV (.ref a) (Value.ref a) from rfl) (show tyV X.K "list" (V.ref a) H1 from .inl ⟨rfl, vs, sqL_of (.inl hh)⟩)
    exact ⟨"list", _, PySem.F.plainAttrs_list, PySem.F.slot_list_clear, PySem.F.type_list_clear, h1, h2, Calls.callWith_builtin rfl (PySem.evalArgs_none (mt_clear pins s1 σ H1 (.ref a) [] _ [] Q I1 rfl .nil ⟨a, vs, rfl, rfl, hh, q⟩))⟩
  · obtain ⟨g1, _⟩ := I1.hok a _ hh
    obtain ⟨ep, xs, dd, pr⟩ := n.ent
    have hm : s1.heap.DictRaw a xs.toArray ep := ⟨o, g1, n.ex, dd⟩
    refine ⟨"dict", "dict.clear", PySem.F.plainAttrs_dict, PySem.F.slot_dict_clear, PySem.F.type_dict_clear, ⟨o, g1, n.ex.1⟩, fun b eb => ?_, Calls.callWith_builtin rfl (PySem.evalArgs_none ?_)⟩
    · cases eb; exact ⟨o, g1, n.ex.2.1⟩
    · refine call_meetsIn PySem.F.slot_dict_clear hm.typeIs PySem.F.entry_dict_clear (PySem.F.args_dict_clear_1 _) (meets_dict_clear_raw a) ⟨xs.toArray, ep, hm, by have := Paired.length pr; have h2 := n.len; simp only [List.size_toArray]; omega, fun h' hr' hs' => ?_⟩
      obtain ⟨o', e1, e2, e3⟩ := hr'
      exact ⟨.non, _, d_write I1 (by rw [hh]; exact True.intro) hs' ⟨o', e1⟩ (raw_ok e1), rfl, q o' ⟨e2, ⟨ep + 1, [], e3, .nil⟩, rfl, List.nodup_nil, (fun _ z => nomatch z), n.nosys, Nat.zero_le _⟩⟩
theorem clr_go {i : Nat} {D : Ends} {σ : L2.St} {H : Hp} (h : tS X Z (fClr i) D σ H) : tDrop (tClr X.w i) D σ H := by
  obtain ⟨F0, ρ, oo, S, e, k⟩ := h
  unfold fClr at e
  split at e
  · rename_i ds0 h0
    cases e
    obtain ⟨a, ea, nf, c0⟩ := S.own i _ h0
    cases c0 with
    | @lst vs0 _ g0 r0 =>
      refine ⟨a, ea, .inl ⟨vs0, g0, k σ _ ?_⟩⟩
      have kz := keep_updL (ys := []) g0
      exact ⟨S.write h0 ea kz (.lst upd_same .nil), kz.mono fun x z => z ▸ ⟨i, _, h0, ea⟩, fun x z => .inl ((own_setM h0).mp z), fun _ _ => rfl⟩
  · rename_i ds0 h0
    cases e
    obtain ⟨a, ea, nf, c0⟩ := S.own i _ h0
    cases c0 with
    | @dct es0 _ o0 g0 n0 rk rv =>
      refine ⟨a, ea, .inr ⟨o0, es0, _, g0, n0, fun o' n' => k σ _ ?_⟩⟩
      have kz := keep_updD (o' := o') g0
      exact ⟨S.write h0 ea kz (.dct upd_same n' .nil .nil), kz.mono fun x z => z ▸ ⟨i, _, h0, ea⟩, fun x z => .inl ((own_setM h0).mp z), fun _ _ => rfl⟩
  · cases e
def fSto (i : Nat) (g f : Env → Option (R × Env)) : Env → Option Out := fun ρ => (f ρ).bind fun p => (esc p).bind fun (d, ρ1) => if isOwn (slot ρ1 i) = true then (g ρ1).bind fun (q, ρ2) => (res ρ2 q).bind fun y => match slot ρ2 i with
    | some (.own m) => (stoM m y d).map fun m' => .nx (ρ2.set i (some (.own m')))
    | _ => none
  else none
theorem sto_go {i : Nat} {g f : Env → Option (R × Env)} {D : Ends} {σ : L2.St} {H : Hp} (h : tS X Z (fSto i g f) D σ H) : tAsg (tE X f) (gSub (tVar i) (tE X g) (rSetA X.w X.K)) D σ H := by
  obtain ⟨F0, ρ, oo, S, e, k⟩ := h
  obtain ⟨⟨r, ρ1⟩, e1, e⟩ := Option.bind_eq_some_iff.mp e
  obtain ⟨⟨d, ρ2⟩, e2, e⟩ := Option.bind_eq_some_iff.mp e
  dsimp only at e
  split at e
  · rename_i ho
    obtain ⟨⟨q, ρ3⟩, e3, e⟩ := Option.bind_eq_some_iff.mp e
    obtain ⟨y, e4, e⟩ := Option.bind_eq_some_iff.mp e
    dsimp only at e
    split at e
    · rename_i m h3
      obtain ⟨m', e5, e⟩ := Option.map_eq_some_iff.mp e
      cases e
      refine ⟨F0, ρ, r, ρ1, S, e1, fun v H1 F1 p => ?_⟩
      obtain ⟨st, rr⟩ := p.esc S e2
      obtain ⟨a, ea⟩ := st.sr.at_own ho
      refine ⟨.ref a, ea, _, ρ2, q, ρ3, st.sr, e3, fun u H2 F2 p2 => ?_⟩
      have rr2 := p2.st.rep rr
      have tot := st.trans p2.st
      obtain ⟨a', ea', nf, c⟩ := p2.st.sr.own i _ h3
      rw [ea] at ea'; cases ea'
      cases m with
      | dct kvs =>
        have fam : ∃ kk, famK kvs y = some kk ∧ kvs.length < szMax ∧ m' = .dct (put kvs kk y d) := by
          obtain ⟨kvs', e6, e7⟩ := Option.map_eq_some_iff.mp (show (putF kvs y d).map MO.dct = some m' from e5)
          subst e7
          unfold putF at e6
          split at e6
          · rename_i kk z
            split at e6
            · rename_i z2; cases e6; exact ⟨kk, z, z2, rfl⟩
            · cases e6
          · cases e6
        obtain ⟨kk, fk, hlt, rfl⟩ := fam
        cases c with
        | @dct es0 _ ob gg n0 rk rv =>
          have ty := p2.tmp.top p2.st.sr e4
          obtain ⟨hk, dp, _⟩ := famK_of fk
          have hel : es0.length < sizeLine := by
            have h1 := rk.length
            have h2 := szLine
            simp only [List.length_map] at h1
            omega
          refine .inr ⟨a, ob, es0, kvs, y, kk, _, rfl, gg, n0, rk, ty, fk, hel, fun ob' g1 g2 => k σ _ ?_⟩
          have s1 : SStep X.w X.K Z F0 σ ρ H σ ρ3 H2 := tot.sstep
          have kz := keep_updD (o' := ob') gg
          have ob1 : Bar F0 ρ3 σ a := .inr ⟨i, _, h3, ea⟩
          have sb : ∀ x, Bar F0 ρ3 σ x → H2 x ≠ none → Bar F2 ρ3 σ x := fun x z _ => z.elim (fun z => Or.inl (tot.sub x z)) Or.inr
          have rki := rk.bar sb
          have rvi := rv.bar sb
          obtain ⟨w1, w2⟩ := rep_put (k := kk) n0.keys rki rvi (ty.imm (keyOf_imm hk)) (rr2.bar sb)
          refine s1.trans ⟨s1.sr.write h3 ea kz (.dct upd_same (n0.put (look_isSome n0.keys rv) hk dp hel g1 g2) (RepL.keep kz (fun x z => z ▸ ob1) w1) (RepL.keep kz (fun x z => z ▸ ob1) w2)), kz.mono fun x z => z ▸ ⟨i, _, h3, ea⟩, fun x z => .inl ((own_setM h3).mp z), fun _ _ => rfl⟩
      | lst ds =>
        cases y with
        | int j =>
          obtain ⟨n, en, rfl⟩ := Option.map_eq_some_iff.mp e5
          cases c with
          | @lst vs _ gg rl =>
            have tu : u = .int j := (p2.tmp.top p2.st.sr e4).int_inv
            refine .inl ⟨a, vs, j, n, rfl, tu, gg, by rw [← ixOf_eq, rl.length]; exact en, k σ _ ?_⟩
            have s1 : SStep X.w X.K Z F0 σ ρ H σ ρ3 H2 := tot.sstep
            have kz := keep_updL (ys := vs.set n v) gg
            have ob : Bar F0 ρ3 σ a := .inr ⟨i, _, h3, ea⟩
            have sb : ∀ x, Bar F0 ρ3 σ x → H2 x ≠ none → Bar F2 ρ3 σ x := fun x z _ => z.elim (fun z => Or.inl (tot.sub x z)) Or.inr
            refine s1.trans ⟨s1.sr.write h3 ea kz (.lst upd_same (RepL.keep kz (fun x z => z ▸ ob) (RepL.set (rr2.bar sb) n (rl.bar sb)))), kz.mono fun x z => z ▸ ⟨i, _, h3, ea⟩, fun x z => .inl ((own_setM h3).mp z), fun _ _ => rfl⟩
        | _ => cases e5
    · cases e
  · cases e
def fAug (i : Nat) (f : Env → Option (R × Env)) : Env → Option Out := fun ρ => match slot ρ i with
  | some (.dat (.int a)) => (f ρ).bind fun (r, ρ1) => (res ρ1 r).bind fun y => (intOf y).map fun b => .nx (ρ1.set i (some (.dat (.int (a + b)))))
  | _ => none
theorem aug_go {i : Nat} {f : Env → Option (R × Env)} (hi : i ∉ Z) {D : Ends} {σ : L2.St} {H : Hp} (h : tS X Z (fAug i f) D σ H) : tAug i (tE X f) (ipI fun i j => i + j) D σ H := by
  obtain ⟨F0, ρ, oo, S, e, k⟩ := h
  unfold fAug at e
  split at e
  · rename_i a h0
    obtain ⟨⟨r, ρ1⟩, e1, e⟩ := Option.bind_eq_some_iff.mp e
    obtain ⟨y, e2, e⟩ := Option.bind_eq_some_iff.mp e
    obtain ⟨b, e3, e⟩ := Option.map_eq_some_iff.mp e
    cases e
    obtain ⟨v0, ev, r0⟩ := S.dat i _ h0
    cases r0
    refine ⟨.int a, ev, F0, ρ, r, ρ1, S, e1, fun v H1 F1 p => ⟨a, b, rfl, int_of p.st.sr p.tmp e2 e3, k _ H1 ?_⟩⟩
    have s1 : SStep X.w X.K Z F0 σ ρ H σ ρ1 H1 := p.st.sstep
    refine s1.trans ((AStep.one s1.sr (.int (a + b))).sstep fun j hj hm => ?_)
    rw [List.mem_singleton] at hm
    exact hi (hm ▸ hj)
  · cases e

/-! ### tests and loops -/
def fIf (c : Env → Option (Bool × Env)) (f g : Env → Option Out) : Env → Option Out := fun ρ => (c ρ).bind fun (k, ρ1) => match k with
  | true => f ρ1
  | false => g ρ1
theorem if_go {c : Env → Option (Bool × Env)} {f g : Env → Option Out} {D : Ends} {σ : L2.St} {H : Hp} (h : tS X Z (fIf c f g) D σ H) : tIfS (tT X c) (tS X Z f) (tS X Z g) D σ H := by
  obtain ⟨F0, ρ, oo, S, e, k⟩ := h
  obtain ⟨⟨b, ρ1⟩, e1, e⟩ := Option.bind_eq_some_iff.mp e
  refine ⟨F0, ρ, b, ρ1, S, e1, fun H1 F1 p => ?_⟩
  have s1 : SStep X.w X.K Z F0 σ ρ H σ ρ1 H1 := p.sstep
  cases b with
  | true => exact ⟨F0, ρ1, oo, s1.sr, e, k.after s1⟩
  | false => exact ⟨F0, ρ1, oo, s1.sr, e, k.after s1⟩
theorem whl_go {c : Env → Option (Bool × Env)} {f : Env → Option Out} {n : Nat} {D : Ends} {σ : L2.St} {H : Hp} (h : tS X Z (whlL c f n) D σ H) : tWhile (tT X c) (tS X Z f) D σ H := by
  obtain ⟨F0, ρ, oo, S, e, k⟩ := h
  refine ⟨fun m σ1 H1 => ∃ ρ1, SStep X.w X.K Z F0 σ ρ H σ1 ρ1 H1 ∧ whlL c f m ρ1 = some oo, ⟨n, ρ, .refl S, e⟩, fun m σ1 H1 ⟨ρ1, s1, e⟩ => ?_⟩
  cases m with
  | zero => cases e
  | succ m =>
    obtain ⟨⟨b, ρ2⟩, e1, e⟩ := Option.bind_eq_some_iff.mp e
    refine ⟨F0, ρ1, b, ρ2, s1.sr, e1, fun H2 F2 p => ?_⟩
    have s2 : SStep X.w X.K Z F0 σ ρ H σ1 ρ2 H2 := s1.trans p.sstep
    cases b with
    | false =>
      cases e
      exact k σ1 H2 s2
    | true =>
      obtain ⟨o1, e2, e⟩ := Option.bind_eq_some_iff.mp e
      refine ⟨fun σ' H' => ∃ ρ', SStep X.w X.K Z F0 σ ρ H σ' ρ' H' ∧ whlL c f m ρ' = some oo, fun σ' H' hN => ⟨m, Nat.lt_succ_self m, hN⟩, F0, ρ2, o1, s2.sr, e2, ?_⟩
      cases o1 with
      | nx ρ3 => exact fun σ' H' a => ⟨ρ3, s2.trans a, e⟩
      | ct ρ3 => exact fun σ' H' a => ⟨ρ3, s2.trans a, e⟩
      | rt s ρ3 =>
        cases e
        exact OutK.after s2 k
def fFor (tg : Tg) (it : Env → Option (List PyData × Env)) (f : Env → Option Out) : Env → Option Out := fun ρ => (it ρ).bind fun (ds, ρ1) => forL tg f ds ρ1
theorem for_go {tg : Tg} {it : Env → Option (List PyData × Env)} {f : Env → Option Out} (hz : ∀ i ∈ tg.ix, i ∉ Z) {D : Ends} {σ : L2.St} {H : Hp} (h : tS X Z (fFor tg it f) D σ H) : tFor (tI X it) (gTg X.K tg) (tS X Z f) D σ H := by
  obtain ⟨F0, ρ, oo, S, e, k⟩ := h
  obtain ⟨⟨ds, ρ1⟩, e1, e⟩ := Option.bind_eq_some_iff.mp e
  refine ⟨F0, ρ, ds, ρ1, S, e1, fun J H1 F1 p wd => ?_⟩
  obtain ⟨Gd, Y, wk, wd1, wd2⟩ := wd.ex
  have s1 : SStep X.w X.K Z F0 σ ρ H σ ρ1 H1 := p.sstep
  have sbF : ∀ x, F0 x → F1 x := p.sub
  refine for_it wk (fun i σi Hi => ∃ ρi, SStep X.w X.K Z F0 σ ρ1 H1 σi ρi Hi ∧ forL tg f (ds.drop i) ρi = some oo) ⟨ρ1, .refl s1.sr, e⟩ ?_ ?_ ?_
  · intro i σi Hi _ ⟨ρi, a, _⟩
    exact wd1 (Own ρ1 σ) Hi a.keep fun x z _ => .inr z
  · intro i x σi Hi Hj hi ⟨ρi, a, e⟩ y
    obtain ⟨sm, rx⟩ := wd2 (Own ρ1 σ) Hi (Bar F0 ρi σi) a.keep (fun x z n => by
      rcases z with (z | z) | z
      · exact .inl (sbF x z)
      · rcases a.own x z with z | z
        · exact .inr z
        · exact absurd z n
      · exact .inr z) i ds[i] x Hj (by simp [hi]) y
    have hdr : ds.drop i = ds[i] :: ds.drop (i + 1) := List.drop_eq_getElem_cons hi
    rw [hdr] at e
    obtain ⟨ρa, ea, e⟩ := Option.bind_eq_some_iff.mp e
    obtain ⟨o1, e2, e⟩ := Option.bind_eq_some_iff.mp e
    have aj : SStep X.w X.K Z F0 σ ρ1 H1 σi ρi Hj := a.trans (EStep.same a.sr sm).sstep
    refine tg_asg aj.sr rx ea fun σ2 A => ?_
    have a2 : SStep X.w X.K Z F0 σ ρ1 H1 σ2 ρa Hj := aj.trans (A.sstep fun i hi hm => hz i hm hi)
    refine ⟨F0, ρa, o1, a2.sr, e2, ?_⟩
    cases o1 with
    | nx ρ3 => exact fun σ' H' b => ⟨ρ3, a2.trans b, e⟩
    | ct ρ3 => exact fun σ' H' b => ⟨ρ3, a2.trans b, e⟩
    | rt s ρ3 =>
      cases e
      exact OutK.after (s1.trans a2) k
  · intro σn Hn ⟨ρn, a, e⟩
    rw [List.drop_length] at e
    cases e
    exact k σn Hn (s1.trans a)

/-! ### return -/
def fRet (f : Env → Option (R × Env)) : Env → Option Out := fun ρ => (f ρ).bind fun (r, ρ1) => match r with
  | .dat d => some (.rt (.dat d) ρ1)
  | .new m => some (.rt (.own m) ρ1)
  | .loc i => match slot ρ1 i with
    | some s => some (.rt s (ρ1.set i none))
    | none => none
theorem ret_go {f : Env → Option (R × Env)} {D : Ends} {σ : L2.St} {H : Hp} (h : tS X Z (fRet f) D σ H) : tRet (tE X f) D σ H := by
  obtain ⟨F0, ρ, oo, S, e, k⟩ := h
  obtain ⟨⟨r, ρ1⟩, e1, e⟩ := Option.bind_eq_some_iff.mp e
  refine ⟨F0, ρ, r, ρ1, S, e1, fun v H1 F1 p => ?_⟩
  cases r with
  | dat d => cases e; exact k v σ H1 F1 ⟨p.st.sr, p.st.sub, fun x z => (p.st.new x z).elim .inl fun z => .inr (.inr z), p.st.keep, fun x z => .inl (p.st.osub x z), fun _ _ => rfl, p.tmp, nofun⟩
  | new m => cases e; exact k v σ H1 F1 ⟨p.st.sr, p.st.sub, fun x z => (p.st.new x z).elim .inl fun z => .inr (.inr z), p.st.keep, fun x z => .inl (p.st.osub x z), fun _ _ => rfl, p.tmp, fun m' _ => let ⟨a, e1, e2⟩ := p.fresh m rfl; ⟨a, e1, .inr e2⟩⟩
  | loc i =>
    dsimp only at e
    split at e
    · rename_i s hs
      cases e
      have tv : σ[i]? = some (some v) := p.tmp
      cases s with
      | dat d =>
        -- a name that was frozen meanwhile
        have of : ∀ {j : Nat} {u : Sl}, slot (ρ1.set i none) j = some u → j ≠ i ∧ slot ρ1 j = some u := fun {j u} h' => by
          rcases slot_set h' with ⟨_, z, _⟩ | z
          · cases z
          · exact z
        have os : ∀ x, Own (ρ1.set i none) σ x → Own ρ1 σ x := fun x ⟨j, n, h', e'⟩ => ⟨j, n, (of h').2, e'⟩
        have sb : ∀ x, Bar F1 (ρ1.set i none) σ x → H1 x ≠ none → Bar F1 ρ1 σ x := fun x z _ => z.elim .inl fun z => .inr (os x z)
        obtain ⟨v', ev, r⟩ := p.st.sr.dat i d hs
        rw [tv] at ev; cases ev
        refine k v σ H1 F1 ⟨⟨by simpa using p.st.sr.len, p.st.sr.ft, fun j d h' => ?_, fun j n h' => ?_, fun j l n q x h1 h2 e1 e2 => p.st.sr.inj j l n q x (of h1).2 (of h2).2 e1 e2⟩, p.st.sub, fun x z => (p.st.new x z).elim .inl fun z => .inr (.inr z), p.st.keep, fun x z => .inl (p.st.osub x (os x z)), fun _ _ => rfl, r.bar sb, nofun⟩
        · obtain ⟨u, eu, ru⟩ := p.st.sr.dat j d (of h').2
          exact ⟨u, eu, ru.bar sb⟩
        · obtain ⟨b, eb, nb, cb⟩ := p.st.sr.own j n (of h').2
          exact ⟨b, eb, nb, cb.bar sb⟩
      | own m =>
        obtain ⟨a, ea, nf, c⟩ := p.st.sr.own i m hs
        rw [tv] at ea; cases ea
        obtain ⟨S2, c2, os⟩ := p.st.sr.drop hs tv
        refine k _ σ H1 (fun x => F1 x ∨ x = a) ⟨S2, fun x z => .inl (p.st.sub x z), fun x z => ?_, p.st.keep, fun x z => .inl (p.st.osub x (os x z)), fun _ _ => rfl, ⟨a, rfl, .inr rfl, c2⟩, fun _ _ => ⟨a, rfl, .inl (p.st.osub a ⟨i, m, hs, tv⟩)⟩⟩
        rcases z with z | z
        · exact (p.st.new x z).elim .inl fun z => .inr (.inr z)
        · exact .inr (.inl (p.st.osub x ⟨i, m, hs, z ▸ tv⟩))
    · cases e
end
end SP

/-! SpChk: a look at a law's text against the core term. -/
namespace SP
open PySem PySem.W PyProof.Rows L2 PySem.SeqAt

abbrev Scp := List (Str × NameKind)
/-- names as they are in a comprehension's block -/
def relN (sc ns : Scp) : Scp := ns.map fun (n, k) => if (k == .free && sc.lookup n == some .cell) then (n, .cell) else (n, k)
def visB (sc : Scp) (x : Str) : Bool := decide (sc.lookup x = some .local) || decide (sc.lookup x = some .cell) || decide (sc.lookup x = some .free)
/-- what a look knows: where the names of defs are, the constants, the slots -/
structure Ck (F : Type) where
  nm : F → Str
  con : List (Str × D)
  N : List Str
section
variable {F : Type} (k : Ck F)
def locB (sc : Scp) (i : Nat) (x : Str) : Bool := decide (k.N[i]? = some x) && visB sc x && !(x == ("__debug__" : Str)) && !(x == ("__classdict__" : Str))
def glB (sc : Scp) (x : Str) : Bool := decide (sc.lookup x = some .globalImplicit) && !(x == ("__debug__" : Str))
def samD : D → D → Bool
  | .none, .none => true
  | .bool a, .bool b => a == b
  | .int a, .int b => decide (a = b)
  | .str a, .str b => decide (a = b)
  | _, _ => false
def cstB : D → Const → Bool
  | .none, .none => true
  | .bool a, .bool b => a == b
  | .int a, .int b => decide (a = b)
  | .str a, .str b => decide (a = b)
  | _, _ => false
/-- a name that may be stored to -/
def stB (fn : Bool) (ns sc : Scp) (i : Nat) (x : Str) : Bool := decide (k.N[i]? = some x) && (decide (sc.lookup x = some .local) || (decide (sc.lookup x = some .cell) && (fn || decide (ns.lookup x = some .cell))))
def stAll (fn : Bool) (ns sc : Scp) : List Nat → List Expr → Bool
  | [], [] => true
  | i :: is, .Name x _ :: es => stB k fn ns sc i x && stAll fn ns sc is es
  | _, _ => false
def tgB (fn : Bool) (ns sc : Scp) : Tg → Expr → Bool
  | .name i, .Name x _ => stB k fn ns sc i x
  | .tup is, .Tuple es _ _ => stAll k fn ns sc is es
  | _, _ => false
def nif : Expr → Bool
  | .IfExp .. => false
  | _ => true
def nset : Expr → Bool
  | .Set .. => false
  | _ => true
def isTup : Expr → Bool
  | .Tuple .. => true
  | _ => false
/-- zip's keywords: none, or strict=False -/
def zipKs : List Keyword → Bool
  | [] => true
  | [⟨some s, .Constant (.bool false) _ _, _⟩] => decide (s = "strict")
  | _ => false
theorem zipKs_inv {ks : List Keyword} (h : zipKs ks = true) : ks = [] ∨ ∃ cj cp kp, ks = [⟨some (Str.ofString "strict"), .Constant (.bool false) cj cp, kp⟩] := by
  unfold zipKs at h
  split at h
  · exact .inl rfl
  · rw [decide_eq_true_eq] at h
    subst h
    exact .inr ⟨_, _, _, rfl⟩
  · cases h
def ownP (vs : List Nat) : List (Str × Nat) := vs.map fun i => (k.N.getD i Str.empty, i)
/-- a comprehension's block -/
def blkB (sc : Scp) (scope : Scope) (vs : List Nat) : Bool :=
  decide (scope.kind = .function) && scope.names.all (fun y => decide (scope.names.lookup y.1 = some y.2)) && vs.all (fun i => decide (k.N[i]? = some (k.N.getD i Str.empty))) &&
  scope.names.all (fun y => decide (y.2 ≠ .free) || decide (sc.lookup y.1 = some .cell) || decide (sc.lookup y.1 = some .free)) &&
  scope.names.all (fun y => !(decide (y.2 = .local) || decide (y.2 = .cell)) || decide (y.1 ∈ (ownP k vs).map (·.1)) || decide (y.1 ∉ k.N))
mutual
def chkE : E F → Scp → Expr → Bool
  | .loc i, sc, e => match e with
    | .Name x _ => locB k sc i x
    | _ => false
  | .cst d, _, e => match e with
    | .Constant c _ _ => cstB d c
    | _ => false
  | .glo d, sc, e => match e with
    | .Name x _ => (match k.con.lookup x with | some d' => samD d d' | none => false) && glB sc x
    | _ => false
  | .bin op a b, sc, e => match e with
    | .BinOp x op' y _ => decide (op = op') && chkE a sc x && chkE b sc y
    | _ => false
  | .neg a, sc, e => match e with
    | .UnaryOp .USub x _ => chkE a sc x
    | _ => false
  | .not a, sc, e => match e with
    | .UnaryOp .Not x _ => nif x && chkE a sc x
    | _ => false
  | .and a b, sc, e => match e with
    | .BoolOp .And [x, y] _ => nif x && nif y && chkE a sc x && chkE b sc y
    | .BoolOp .And (x :: y :: z :: r) p => nif x && chkE a sc x && chkE b sc (.BoolOp .And (y :: z :: r) p)
    | _ => false
  | .or a b, sc, e => match e with
    | .BoolOp .Or [x, y] _ => nif x && nif y && chkE a sc x && chkE b sc y
    | .BoolOp .Or (x :: y :: z :: r) p => nif x && chkE a sc x && chkE b sc (.BoolOp .Or (y :: z :: r) p)
    | _ => false
  | .cmp op a b, sc, e => match e with
    | .Compare x [op'] [y] _ => decide (op = op') && !behindInMarks op y && chkE a sc x && chkE b sc y
    | _ => false
  | .chain o1 o2 a b c, sc, e => match e with
    | .Compare x [o1', o2'] [y, z] _ => decide (o1 = o1') && decide (o2 = o2') && !lastMarks [o1, o2] [y, z] && chkE a sc x && chkE b sc y && chkE c sc z
    | _ => false
  | .ite c a b, sc, e => match e with
    | .IfExp x y z _ => nif x && chkE c sc x && chkE a sc y && chkE b sc z
    | _ => false
  | .call f as, sc, e => match e with
    | .Call (.Name x _) (y :: ys) [] _ => decide (x = k.nm f) && glB sc x && (y :: ys).all nst && chkA as sc (y :: ys)
    | _ => false
  | .blt b as, sc, e => match e with
    | .Call (.Name x _) (y :: ys) [] _ => b.ok && decide (x = b.nm) && glB sc x && (y :: ys).all nst && chkEs as sc (y :: ys)
    | _ => false
  | .isi many tys a, sc, e => match e with
    | .Call (.Name x _) [y, .Name t _] [] _ => decide (x = "isinstance") && glB sc x && nst y && chkE a sc y && !many && (match tys with | [t'] => decide (t = t'.nm) && glB sc t | _ => false)
    | .Call (.Name x _) [y, .Tuple es _ _] [] _ => decide (x = "isinstance") && glB sc x && nst y && chkE a sc y && many && tyNames sc tys es && decide (tys.length ≤ 6)
    | _ => false
  | .rng tup a b, sc, e => match e with
    | .Call (.Name x _) [.Call (.Name r _) [y] [] _] [] _ => decide (x = if tup then "tuple" else "list") && glB sc x && decide (r = "range") && glB sc r && nst y && (match a with | .cst (.int 0) => true | _ => false) && chkE b sc y
    | .Call (.Name x _) [.Call (.Name r _) [y, z] [] _] [] _ => decide (x = if tup then "tuple" else "list") && glB sc x && decide (r = "range") && glB sc r && nst y && nst z && chkE a sc y && chkE b sc z
    | _ => false
  | .mth m o as, sc, e => match e with
    | .Call (.Attribute x a apos) (y :: ys) [] cpos => (match m with | .get => decide (a = "get") | _ => false) && absB x && (apos.endLine == cpos.line) && (y :: ys).all nst && decide ((y :: ys).length ≤ 2) && chkE o sc x && chkEs as sc (y :: ys)
    | _ => false
  | .tup es, sc, e => match e with
    | .Tuple l _ _ => chkEs es sc l
    | _ => false
  | .lst es, sc, e => match e with
    | .List l _ => chkEs es sc l
    | _ => false
  | .dct0, _, e => match e with
    | .Dict [] [] _ => true
    | _ => false
  | .dct1 a b, sc, e => match e with
    | .Dict [some x] [y] _ => chkE a sc x && chkE b sc y
    | _ => false
  | .idx a b, sc, e => match e with
    | .Subscript x y _ => nsl y && chkE a sc x && chkE b sc y
    | _ => false
  | .slc a lo hi elo ehi, sc, e => match e with
    | .Subscript x (.Slice l h none _) _ => decide (lo = none) && decide (hi = none) && chkE a sc x && chkO elo sc l && chkO ehi sc h
    | _ => false
  | .rev a, sc, e => match e with
    | .Subscript x (.Slice none none (some (.UnaryOp .USub (.Constant (.int 1) _ _) _)) _) _ => chkE a sc x
    | _ => false
  | .comp elt tg it cond own, sc, e => match e with
    | .ListComp x [⟨t, iter, ifs, 0⟩] scope _ => chkI it sc t iter && nset iter && blkB k sc scope own && tg.ix.all (fun i => decide (i ∈ own)) && tgB k false scope.names (relN sc scope.names) tg t && chkC cond (relN sc scope.names) ifs && chkE elt (relN sc scope.names) x
    | _ => false
  | .dcomp ke ve tg it cond own, sc, e => match e with
    | .DictComp x y [⟨t, iter, ifs, 0⟩] scope _ => chkI it sc t iter && nset iter && blkB k sc scope own && tg.ix.all (fun i => decide (i ∈ own)) && tgB k false scope.names (relN sc scope.names) tg t && chkC cond (relN sc scope.names) ifs &&
        chkE ke (relN sc scope.names) x && chkE ve (relN sc scope.names) y
    | _ => false
  | .comp2 elt tg it cond tg1 it1 cond1 own own1, sc, e => match e with
    | .ListComp x [⟨t, iter, ifs, 0⟩, ⟨t1, iter1, ifs1, 0⟩] scope _ => chkI it sc t iter && nset iter && nset iter1 && blkB k sc scope own && tg.ix.all (fun i => decide (i ∈ own)) && tg1.ix.all (fun i => decide (i ∈ own1)) && own1.all (fun i => decide (i ∈ own)) &&
        tgB k false scope.names (relN sc scope.names) tg t && tgB k false scope.names (relN sc scope.names) tg1 t1 && chkC cond (relN sc scope.names) ifs && chkI it1 (relN sc scope.names) t1 iter1 && chkC cond1 (relN sc scope.names) ifs1 && chkE elt (relN sc scope.names) x
    | _ => false
  | .dcomp2 ke ve tg it cond tg1 it1 cond1 own own1, sc, e => match e with
    | .DictComp x y [⟨t, iter, ifs, 0⟩, ⟨t1, iter1, ifs1, 0⟩] scope _ => chkI it sc t iter && nset iter && nset iter1 && blkB k sc scope own && tg.ix.all (fun i => decide (i ∈ own)) && tg1.ix.all (fun i => decide (i ∈ own1)) && own1.all (fun i => decide (i ∈ own)) &&
        tgB k false scope.names (relN sc scope.names) tg t && tgB k false scope.names (relN sc scope.names) tg1 t1 && chkC cond (relN sc scope.names) ifs && chkI it1 (relN sc scope.names) t1 iter1 && chkC cond1 (relN sc scope.names) ifs1 &&
        chkE ke (relN sc scope.names) x && chkE ve (relN sc scope.names) y
    | _ => false
  | .compO elt tg i cond own, sc, e => match e with
    | .ListComp x [⟨t, .Name y _, ifs, 0⟩] scope _ => locB k sc i y && blkB k sc scope own && tg.ix.all (fun i => decide (i ∈ own)) && tgB k false scope.names (relN sc scope.names) tg t && chkC cond (relN sc scope.names) ifs && chkE elt (relN sc scope.names) x
    | _ => false
  | .pop _ _, _, _ => false
/-- expressions in a row, none handed on by reference -/
def chkEs : Es F → Scp → List Expr → Bool
  | .nil, _, l => l.isEmpty
  | .cons e es, sc, l => match l with
    | x :: xs => nst x && chkE e sc x && chkEs es sc xs
    | [] => false
  | .ref _ _, _, _ => false
def chkA : Es F → Scp → List Expr → Bool
  | .nil, _, l => l.isEmpty
  | .cons e es, sc, l => match l with
    | x :: xs => nst x && chkE e sc x && chkA es sc xs
    | [] => false
  | .ref i es, sc, l => match l with
    | .Name x _ :: xs => locB k sc i x && chkA es sc xs
    | _ => false
def chkO : Es F → Scp → Option Expr → Bool
  | .nil, _, l => l.isNone
  | .cons e _, sc, l => match l with
    | some x => chkE e sc x
    | none => false
  | .ref _ _, _, _ => false
def chkC : Es F → Scp → List Expr → Bool
  | .nil, _, l => l.isEmpty
  | .cons e _, sc, l => match l with
    | [x] => nif x && chkE e sc x
    | _ => false
  | .ref _ _, _, _ => false
def chkI : I F → Scp → Expr → Expr → Bool
  | .val e, sc, _, a => chkE e sc a
  | .rng1 b, sc, _, a => match a with
    | .Call (.Name r _) [y] [] _ => decide (r = "range") && glB sc r && nst y && chkE b sc y
    | _ => false
  | .rng2 c b, sc, _, a => match a with
    | .Call (.Name r _) [y, z] [] _ => decide (r = "range") && glB sc r && nst y && nst z && chkE c sc y && chkE b sc z
    | _ => false
  | .enum e, sc, t, a => match a with
    | .Call (.Name r _) [y] [] _ => decide (r = "enumerate") && glB sc r && nst y && isTup t && chkE e sc y
    | _ => false
  | .zip c b, sc, t, a => match a with
    | .Call (.Name r _) [y, z] ks _ => decide (r = "zip") && glB sc r && nst y && nst z && isTup t && zipKs ks && chkE c sc y && chkE b sc z
    | _ => false
end
end
end SP

/-! SpSnd: what was looked at, holds: expressions. -/
namespace SP
open PySem PySem.W PyProof.Rows L2 PySem.SeqAt

structure SX {F : Type} (k : Ck F) (Φ : F → List Sl → Option (Sl × List MO)) (X : Cx) (sc : Scp) : Prop where
  ctx : Ctx X
  hN : X.N = k.N
  hsc : X.env.scope.names = sc
  kind : X.env.scope.kind = .function
  mg0 : ∀ b : Blt, X.mg b.nm = none
  mgT : ∀ t : Ty, X.mg t.nm = none
  mgI : X.mg "isinstance" = none
  mgR : X.mg "range" = none
  mgE : X.mg "enumerate" = none
  mgZ : X.mg "zip" = none
  con : ∀ x d, k.con.lookup x = some d → ∃ v u, X.mg x = some u ∧ RelV v u ∧ ∀ G H, Rep X.w X.K G H v d
  call : ∀ f, ∃ (n : Nat) (a : Addr) (fd : FuncData) (ps : List Str), FnG X.prog X.w X.K X.mg X.base n (Φ f) a fd ps ∧ Room n X.A ∧ Binds X.K fd ps [] ∧ X.mg (k.nm f) = some (.ref a) ∧ keepIn X.K (.ref a) = true
section
variable {F : Type} {k : Ck F} {Φ : F → List Sl → Option (Sl × List MO)} {X : Cx} {sc : Scp}
theorem vis_of (s : SX k Φ X sc) {x : Str} (h : visB sc x = true) : Vis X.env.scope x := by
  simp only [visB, Bool.or_eq_true, decide_eq_true_eq] at h
  rw [← s.hsc] at h
  rcases h with (h | h) | h
  · exact .inl h
  · exact .inr (.inl h)
  · exact .inr (.inr h)
theorem loc_of (s : SX k Φ X sc) {i : Nat} {x : Str} (h : locB k sc i x = true) : X.N[i]? = some x ∧ Vis X.env.scope x ∧ (x == ("__debug__" : Str)) = false ∧ (x == ("__classdict__" : Str)) = false := by
  simp only [locB, Bool.and_eq_true, decide_eq_true_eq, Bool.not_eq_true'] at h
  exact ⟨by rw [s.hN]; exact h.1.1.1, vis_of s h.1.1.2, h.1.2, h.2⟩
theorem gl_of' (s : SX k Φ X sc) {x : Str} (h : glB sc x = true) : Gl X x ∧ (x == ("__debug__" : Str)) = false := by
  simp only [glB, Bool.and_eq_true, decide_eq_true_eq, Bool.not_eq_true'] at h
  refine ⟨?_, h.2⟩
  show X.env.scope.names.lookup x = _
  rw [s.hsc]; exact h.1
theorem samD_eq {a b : D} (h : samD a b = true) : a = b := by
  cases a <;> cases b <;> simp [samD] at h <;> first | rfl | (subst h; rfl)
theorem cst_pe {d : D} {c : Const} {j : Nat} {pos : Pos} (h : cstB d c = true) : PE X (.Constant c j pos) (tE X fun ρ => some (.dat d, ρ)) := by
  cases d with
  | none => cases c with
    | none => exact e_val pe_non fun _ _ => .non
    | _ => cases h
  | bool b => cases c with
    | bool b' => simp [cstB] at h; subst h; exact e_val pe_bl fun _ _ => .bl _
    | _ => cases h
  | int i => cases c with
    | int i' => simp [cstB] at h; subst h; exact e_val pe_int fun _ _ => .int _
    | _ => cases h
  | str x => cases c with
    | str x' => simp [cstB] at h; subst h; exact e_val pe_str fun _ _ => .str _
    | _ => cases h
  | _ => cases h
structure Good (k : Ck F) (Φ : F → List Sl → Option (Sl × List MO)) (X : Cx) (f : Env → Option (R × Env)) (e : Expr) : Prop where
  pe : PE X e (tE X f)
  pt : nif e = true → PT X e (tT X (fTest f))
  pw : ∀ op vs p, e = .BoolOp op vs p → PW X e (tT X (fTest f))
theorem Good.of {f : Env → Option (R × Env)} {e : Expr} (h : PE X e (tE X f)) (he : ∀ whole, isTrue e X.env whole = (do let v ← whole; standAt e.pos; holding [v] (truthy v))) (nb : ∀ op vs p, e ≠ .BoolOp op vs p) : Good k Φ X f e :=
  ⟨h, fun _ => t_val h he, fun op vs p z => absurd z (nb op vs p)⟩
theorem stB_of {fn : Bool} {ns : Scp} {i : Nat} {x : Str} (s : SX k Φ X sc) (hf : ∀ x, fn = true ∨ ns.lookup x = some .cell → X.fn x = true) (h : stB k fn ns sc i x = true) :
    X.N[i]? = some x ∧ Loc X.env.scope x ∧ (X.fn x = true ∨ X.env.scope.names.lookup x = some .local) := by
  simp only [stB, Bool.and_eq_true, Bool.or_eq_true, decide_eq_true_eq] at h
  refine ⟨by rw [s.hN]; exact h.1, ?_⟩
  rcases h.2 with q | ⟨q, r⟩
  · rw [← s.hsc] at q; exact ⟨.inl q, .inr q⟩
  · rw [← s.hsc] at q; exact ⟨.inr q, .inl (hf x r)⟩
theorem stAll_pg {fn : Bool} {ns : Scp} (s : SX k Φ X sc) (hf : ∀ x, fn = true ∨ ns.lookup x = some .cell → X.fn x = true) : ∀ {is : List Nat} {es : List Expr}, stAll k fn ns sc is es = true →
    PGs X es (gSeq is) ∧ (assignEach es X.env).length = is.length ∧ (assignEach es X.env).findIdx? (·.1) = none ∧ es.length = is.length
  | [], [], _ => ⟨pgs_nil, rfl, rfl, rfl⟩
  | i :: is, .Name x p :: es, h => by
    simp only [stAll, Bool.and_eq_true] at h
    obtain ⟨h1, h2, h3⟩ := stB_of s hf h.1
    obtain ⟨a, b, c, d⟩ := stAll_pg s hf h.2
    refine ⟨pgs_cons (pg_name s.ctx.nd h1 h2 h3) a rfl, ?_, ?_, by simp [d]⟩
    · show ((false, assign (.Name x p) X.env) :: assignEach es X.env).length = _
      simp [b]
    · show ((false, assign (.Name x p) X.env) :: assignEach es X.env).findIdx? (·.1) = none
      rw [List.findIdx?_cons]
      simp [c]
  | [], _ :: _, h => by cases h
  | _ :: _, [], h => by cases h
theorem tg_pg {fn : Bool} {ns : Scp} (s : SX k Φ X sc) (hf : ∀ x, fn = true ∨ ns.lookup x = some .cell → X.fn x = true) {tg : Tg} {e : Expr} (h : tgB k fn ns sc tg e = true) : PG X e (gTg X.K tg) := by
  cases tg with
  | name i =>
    cases e with
    | Name x p =>
      obtain ⟨h1, h2, h3⟩ := stB_of s hf (show stB k fn ns sc i x = true from h)
      exact pg_name s.ctx.nd h1 h2 h3
    | _ => cases h
  | tup is =>
    cases e with
    | Tuple es kk p =>
      obtain ⟨a, b, c, d⟩ := stAll_pg s hf (show stAll k fn ns sc is es = true from h)
      exact pg_tup s.ctx.calm a b c
    | _ => cases h
/-- the block of a comprehension -/
theorem blk_of (s : SX k Φ X sc) {scope : Scope} {vs : List Nat} (h : blkB k sc scope vs = true) : BlkOk X.N X.env.scope scope (ownP k vs) ∧ (ownP k vs).map (·.2) = vs := by
  simp only [blkB, Bool.and_eq_true, decide_eq_true_eq, List.all_eq_true, Bool.or_eq_true, Bool.not_eq_true', decide_eq_false_iff_not] at h
  obtain ⟨⟨⟨⟨h1, h2⟩, h3⟩, h4⟩, h5⟩ := h
  have em : (ownP k vs).map (·.2) = vs := by simp [ownP, Function.comp_def]
  refine ⟨⟨h1, h2, fun p hp => ?_, fun y hy hf => ?_, fun y hy hl => ?_⟩, em⟩
  · obtain ⟨i, hi, rfl⟩ := List.mem_map.mp hp
    rw [s.hN]; exact h3 i hi
  · rw [s.hsc]
    rcases h4 y hy with (q | q) | q
    · exact absurd hf q
    · exact .inl q
    · exact .inr q
  · rw [s.hN]
    rcases h5 y hy with (q | q) | q
    · exact absurd hl (by simpa using q)
    · exact .inl q
    · exact .inr q
theorem blk_sx (s : SX k Φ X sc) {scope : Scope} {vs : List Nat} (h : blkB k sc scope vs = true) (s1 : Shared) (H : Hp) (C : Addr) (cl : List (Str × Addr)) (fp : List Addr) :
    SX k Φ (X.blk s1 H scope (compEnvC scope cl C X.env) fp) (relN sc scope.names) := by
  have hk : scope.kind = .function := (blk_of s h).1.kind
  refine ⟨⟨s.ctx.calm, s.ctx.grd, s.ctx.room, rfl, s.ctx.nd, s.ctx.sysm⟩, s.hN, ?_, hk, s.mg0, s.mgT, s.mgI, s.mgR, s.mgE, s.mgZ, s.con, s.call⟩
  show (relabel scope X.env).names = _
  unfold relabel relN
  have e : (X.env.scope.kind == ScopeKind.function) = true := by rw [s.kind]; rfl
  simp only [e, Bool.and_true, PySem.Env.kindOf, s.hsc]
theorem nset_ok {e : Expr} (h : nset e = true) {env : PySem.Env} : ∀ x, foldedSetIterable e env x = pure x := by
  intro x
  cases e <;> first | rfl | cases h
theorem PTsimp {es : List Expr} {t t' : TT} (h : PTs X es t) (i : ∀ σ H Q, t' σ H Q → t σ H Q) : PTs X es t' := ⟨fun pins s σ H Q I hw => h.run pins s σ H Q I (i σ H Q hw)⟩

theorem fTest_of {f : Env → Option (R × Env)} {e : Expr} (g : Good k Φ X f e) (n : nif e = true) : PT X e (tT X (fTest f)) := g.pt n
set_option maxRecDepth 1000000 in
mutual
theorem sndE : ∀ (c : E F) {X : Cx} {sc : Scp} (s : SX k Φ X sc) {e : Expr}, chkE k c sc e = true → Good k Φ X (evE Φ c) e
  | .loc i, X, sc, s, e, h => by
    cases e with
    | Name x p =>
      obtain ⟨h1, h2, h3, h4⟩ := loc_of s (show locB k sc i x = true from h)
      exact .of (e_loc h1 h2 h3 h4) (fun _ => rfl) fun _ _ _ => nofun
    | _ => cases h
  | .cst d, X, sc, s, e, h => by
    cases e with
    | Constant c j p => exact .of (cst_pe h) (fun _ => rfl) fun _ _ _ => nofun
    | _ => cases h
  | .glo d, X, sc, s, e, h => by
    cases e with
    | Name x p =>
      have h : ((match k.con.lookup x with | some d' => samD d d' | none => false) && glB sc x) = true := h
      rw [Bool.and_eq_true] at h
      obtain ⟨h1, h2⟩ := gl_of' s h.2
      cases hc : k.con.lookup x with
      | none => rw [hc] at h; exact absurd h.1 (by simp)
      | some d' =>
        rw [hc] at h
        have e1 := samD_eq h.1
        subst e1
        obtain ⟨v, u, m1, m2, m3⟩ := s.con x d hc
        exact .of (e_val (pe_glob h1 m1 m2 h2) m3) (fun _ => rfl) fun _ _ _ => nofun
    | _ => cases h
  | .bin op a b, X, sc, s, e, h => by
    cases e with
    | BinOp x op' y p =>
      have h : (decide (op = op') && chkE k a sc x && chkE k b sc y) = true := h
      simp only [Bool.and_eq_true, decide_eq_true_eq] at h
      obtain ⟨⟨rfl, h1⟩, h2⟩ := h
      exact .of (e_bin (sndE a s h1).pe (sndE b s h2).pe) (fun _ => rfl) fun _ _ _ => nofun
    | _ => cases h
  | .neg a, X, sc, s, e, h => by
    cases e with
    | UnaryOp op x p =>
      cases op with
      | USub => exact .of (e_neg (sndE a s h).pe) (fun _ => rfl) fun _ _ _ => nofun
      | _ => cases h
    | _ => cases h
  | .not a, X, sc, s, e, h => by
    cases e with
    | UnaryOp op x p =>
      cases op with
      | Not =>
        have h : (nif x && chkE k a sc x) = true := h
        rw [Bool.and_eq_true] at h
        have g := sndE a s h.2
        exact ⟨e_not g.pe, fun _ => t_not (g.pt h.1), fun _ _ _ => nofun⟩
      | _ => cases h
    | _ => cases h
  | .and a b, X, sc, s, e, h => by
    unfold chkE at h
    split at h
    · simp only [Bool.and_eq_true] at h
      have ga := sndE a s h.1.2
      have gb := sndE b s h.2
      have w := w_and (ga.pt h.1.1.1) (pw_and1 (pos := ‹Pos›) (gb.pt h.1.1.2))
      exact ⟨e_and ga.pe (pe_one gb.pe), fun _ => w.pt, fun op vs p z => by cases z; exact w⟩
    · simp only [Bool.and_eq_true] at h
      have ga := sndE a s h.1.2
      have gb := sndE b s h.2
      have w := w_and (ga.pt h.1.1) (gb.pw _ _ _ rfl)
      exact ⟨e_and ga.pe gb.pe, fun _ => w.pt, fun op vs p z => by cases z; exact w⟩
    · cases h
  | .or a b, X, sc, s, e, h => by
    unfold chkE at h
    split at h
    · simp only [Bool.and_eq_true] at h
      have ga := sndE a s h.1.2
      have gb := sndE b s h.2
      have w := w_or (ga.pt h.1.1.1) (pw_or1 (pos := ‹Pos›) (gb.pt h.1.1.2))
      exact ⟨e_or ga.pe (pe_one gb.pe), fun _ => w.pt, fun op vs p z => by cases z; exact w⟩
    · simp only [Bool.and_eq_true] at h
      have ga := sndE a s h.1.2
      have gb := sndE b s h.2
      have w := w_or (ga.pt h.1.1) (gb.pw _ _ _ rfl)
      exact ⟨e_or ga.pe gb.pe, fun _ => w.pt, fun op vs p z => by cases z; exact w⟩
    · cases h
  | .cmp op a b, X, sc, s, e, h => by
    unfold chkE at h
    split at h
    · simp only [Bool.and_eq_true, decide_eq_true_eq, Bool.not_eq_true'] at h
      obtain ⟨⟨⟨rfl, h1⟩, h2⟩, h3⟩ := h
      have ga := sndE a s h2
      have gb := sndE b s h3
      exact ⟨e_cmp s.ctx ga.pe gb.pe h1, fun _ => t_cmp s.ctx ga.pe gb.pe h1, fun _ _ _ => nofun⟩
    · cases h
  | .chain o1 o2 a b c, X, sc, s, e, h => by
    unfold chkE at h
    split at h
    · simp only [Bool.and_eq_true, decide_eq_true_eq, Bool.not_eq_true'] at h
      obtain ⟨⟨⟨⟨⟨rfl, rfl⟩, h1⟩, h2⟩, h3⟩, h4⟩ := h
      have ga := sndE a s h2
      have gb := sndE b s h3
      have gc := sndE c s h4
      exact ⟨e_chain s.ctx ga.pe gb.pe gc.pe h1, fun _ => t_chain s.ctx ga.pe gb.pe gc.pe h1, fun _ _ _ => nofun⟩
    · cases h
  | .ite c a b, X, sc, s, e, h => by
    unfold chkE at h
    split at h
    · simp only [Bool.and_eq_true] at h
      exact ⟨e_ite ((sndE c s h.1.1.2).pt h.1.1.1) (sndE a s h.1.2).pe (sndE b s h.2).pe, fun z => (by cases z), fun _ _ _ => nofun⟩
    · cases h
  | .call f as, X, sc, s, e, h => by
    unfold chkE at h
    split at h
    · simp only [Bool.and_eq_true, decide_eq_true_eq] at h
      obtain ⟨⟨⟨rfl, h1⟩, h2⟩, h3⟩ := h
      obtain ⟨g1, g2⟩ := gl_of' s h1
      obtain ⟨n, a, fd, ps, c1, c2, c3, c4, c5⟩ := s.call f
      exact .of (e_call c1 c2 s.ctx.grd c3 g1 c4 c5 g2 h2 (sndA as s h3)) (fun _ => rfl) fun _ _ _ => nofun
    · cases h
  | .blt b as, X, sc, s, e, h => by
    unfold chkE at h
    split at h
    · simp only [Bool.and_eq_true, decide_eq_true_eq] at h
      obtain ⟨⟨⟨⟨h0, rfl⟩, h1⟩, h2⟩, h3⟩ := h
      exact .of (e_blt s.ctx h0 rfl (gl_of' s h1).1 (s.mg0 b) h2 (sndEs as s h3)) (fun _ => rfl) fun _ _ _ => nofun
    · cases h
  | .isi many tys a, X, sc, s, e, h => by
    unfold chkE at h
    split at h
    · simp only [Bool.and_eq_true, decide_eq_true_eq, Bool.not_eq_true'] at h
      obtain ⟨⟨⟨⟨⟨rfl, h1⟩, h2⟩, h3⟩, h4⟩, h5⟩ := h
      split at h5
      · simp only [Bool.and_eq_true, decide_eq_true_eq] at h5
        exact .of (e_isi1 (gl_of' s h1).1 s.mgI (sndE a s h3).pe h2 h5.1 (gl_of' s h5.2).1 (by rw [h5.1]; exact s.mgT _)) (fun _ => rfl) fun _ _ _ => nofun
      · cases h5
    · simp only [Bool.and_eq_true, decide_eq_true_eq] at h
      obtain ⟨⟨⟨⟨⟨⟨rfl, h1⟩, h2⟩, h3⟩, h4⟩, h5⟩, h6⟩ := h
      exact .of (e_isiN (gl_of' s h1).1 s.mgI (sndE a s h3).pe h2 (by rw [s.hsc]; exact h5) s.mgT h6) (fun _ => rfl) fun _ _ _ => nofun
    · cases h
  | .rng tup a b, X, sc, s, e, h => by
    unfold chkE at h
    split at h
    · simp only [Bool.and_eq_true, decide_eq_true_eq] at h
      obtain ⟨⟨⟨⟨⟨⟨hx, h1⟩, rfl⟩, h2⟩, h3⟩, h4⟩, h5⟩ := h
      have hm : ∀ y : Str, y = Str.ofString (if tup = true then "tuple" else "list") → X.mg y = none := by
        rintro _ rfl
        cases tup
        · exact s.mg0 .list
        · exact s.mg0 .tuple
      split at h4
      · exact .of (e_rng1 s.ctx hx (gl_of' s h1).1 (hm _ hx) (gl_of' s h2).1 s.mgR (sndE b s h5).pe h3) (fun _ => rfl) fun _ _ _ => nofun
      · cases h4
    · simp only [Bool.and_eq_true, decide_eq_true_eq] at h
      obtain ⟨⟨⟨⟨⟨⟨⟨hx, h1⟩, rfl⟩, h2⟩, h3⟩, h4⟩, h5⟩, h6⟩ := h
      have hm : ∀ y : Str, y = Str.ofString (if tup = true then "tuple" else "list") → X.mg y = none := by
        rintro _ rfl
        cases tup
        · exact s.mg0 .list
        · exact s.mg0 .tuple
      exact .of (e_rng2 s.ctx hx (gl_of' s h1).1 (hm _ hx) (gl_of' s h2).1 s.mgR (sndE a s h5).pe (sndE b s h6).pe h3 h4) (fun _ => rfl) fun _ _ _ => nofun
    · cases h
  | .mth m o as, X, sc, s, e, h => by
    unfold chkE at h
    split at h
    · simp only [Bool.and_eq_true, decide_eq_true_eq] at h
      obtain ⟨⟨⟨⟨⟨⟨h1, h2⟩, h3⟩, h4⟩, h5⟩, h6⟩, h7⟩ := h
      cases m with
      | get =>
        have h1 := of_decide_eq_true h1
        subst h1
        exact .of (e_get s.ctx h2 h3 h4 h5 (sndE o s h6).pe (sndEs as s h7)) (fun _ => rfl) fun _ _ _ => nofun
      | _ => cases h1
    · cases h
  | .tup es, X, sc, s, e, h => by
    cases e with
    | Tuple l kk p => exact .of (e_tup (sndX es s h)) (fun _ => rfl) fun _ _ _ => nofun
    | _ => cases h
  | .lst es, X, sc, s, e, h => by
    cases e with
    | List l p => exact .of (e_lst (sndX es s h)) (fun _ => rfl) fun _ _ _ => nofun
    | _ => cases h
  | .dct0, X, sc, s, e, h => by
    unfold chkE at h
    split at h
    · exact .of e_dct0 (fun _ => rfl) fun _ _ _ => nofun
    · cases h
  | .dct1 a b, X, sc, s, e, h => by
    unfold chkE at h
    split at h
    · rw [Bool.and_eq_true] at h
      exact .of (e_dct1 (by have := s.ctx.room; omega) (sndE a s h.1).pe (sndE b s h.2).pe) (fun _ => rfl) fun _ _ _ => nofun
    · cases h
  | .idx a b, X, sc, s, e, h => by
    cases e with
    | Subscript x y p =>
      have h : (nsl y && chkE k a sc x && chkE k b sc y) = true := h
      simp only [Bool.and_eq_true] at h
      exact .of (e_idx s.ctx (sndE a s h.1.2).pe (sndE b s h.2).pe h.1.1) (fun _ => rfl) fun _ _ _ => nofun
    | _ => cases h
  | .slc a lo hi elo ehi, X, sc, s, e, h => by
    unfold chkE at h
    split at h
    · simp only [Bool.and_eq_true, decide_eq_true_eq] at h
      obtain ⟨⟨⟨⟨rfl, rfl⟩, h1⟩, h2⟩, h3⟩ := h
      exact .of (e_slc (sndE a s h1).pe (sndO elo s h2) (sndO ehi s h3)) (fun _ => rfl) fun _ _ _ => nofun
    · cases h
  | .rev a, X, sc, s, e, h => by
    unfold chkE at h
    split at h
    · exact .of (e_rev (sndE a s h).pe) (fun _ => rfl) fun _ _ _ => nofun
    · cases h
  | .comp elt tg it cond own, X, sc, s, e, h => by
    unfold chkE at h
    split at h
    · simp only [Bool.and_eq_true, List.all_eq_true, decide_eq_true_eq] at h
      obtain ⟨⟨⟨⟨⟨⟨h1, h2⟩, h3⟩, h4⟩, h5⟩, h6⟩, h7⟩ := h
      obtain ⟨b1, b2⟩ := blk_of s h3
      have q := pe_lc (pos := ‹Pos›) (wi := tI X (evI Φ it)) (g := gTg X.K tg) (tt := tT X (evC Φ cond)) (te := tE X (evE Φ elt)) s.ctx.calm s.ctx.nd (sndI it s h1) b1 (fun s1 H C cl fp => tg_pg (blk_sx s h3 s1 H C cl fp) (fun x z => z.elim (fun z => by cases z) fun z => by show (_ == _) = true; rw [z]; rfl) h5)
        (fun s1 H C cl fp => sndC cond (blk_sx s h3 s1 H C cl fp) h6) (fun s1 H C cl fp => (sndE elt (blk_sx s h3 s1 H C cl fp) h7).pe) (nset_ok h2)
      refine .of (PEimp q fun σ H Q hq => ?_) (fun _ => rfl) fun _ _ _ => nofun
      rw [b2]
      exact lc_go h4 hq
    · cases h
  | .dcomp ke ve tg it cond own, X, sc, s, e, h => by
    unfold chkE at h
    split at h
    · simp only [Bool.and_eq_true, List.all_eq_true, decide_eq_true_eq] at h
      obtain ⟨⟨⟨⟨⟨⟨⟨h1, h2⟩, h3⟩, h4⟩, h5⟩, h6⟩, h7⟩, h8⟩ := h
      obtain ⟨b1, b2⟩ := blk_of s h3
      have q := cr_dcA (pos := ‹Pos›) (wi := tI X (evI Φ it)) (tg := tg) (tt := tT X (evC Φ cond)) (tk := tE X (evE Φ ke)) (tv := tE X (evE Φ ve)) s.ctx.calm (by have := s.ctx.room; omega) s.ctx.nd (sndI it s h1) b1 (fun s1 H C cl fp => tg_pg (blk_sx s h3 s1 H C cl fp) (fun x z => z.elim (fun z => by cases z) fun z => by show (_ == _) = true; rw [z]; rfl) h5)
        (fun s1 H C cl fp => sndC cond (blk_sx s h3 s1 H C cl fp) h6) (fun s1 H C cl fp => (sndE ke (blk_sx s h3 s1 H C cl fp) h7).pe) (fun s1 H C cl fp => (sndE ve (blk_sx s h3 s1 H C cl fp) h8).pe) (nset_ok h2)
      refine .of (PEimp (q.pe (arm_eval_DictComp ..)) fun σ H Q hq => ?_) (fun _ => rfl) fun _ _ _ => nofun
      rw [b2]
      exact dc_go h4 hq
    · cases h
  | .comp2 elt tg it cond tg1 it1 cond1 own own1, X, sc, s, e, h => by
    unfold chkE at h
    split at h
    · simp only [Bool.and_eq_true, List.all_eq_true, decide_eq_true_eq] at h
      obtain ⟨⟨⟨⟨⟨⟨⟨⟨⟨⟨⟨⟨h1, h2⟩, h2'⟩, h3⟩, h4⟩, h4'⟩, hv⟩, h5⟩, h5'⟩, h6⟩, hi⟩, h6'⟩, h7⟩ := h
      obtain ⟨b1, b2⟩ := blk_of s h3
      have q := pe_lc2 (pos := ‹Pos›) (wi := tI X (evI Φ it)) (g := gTg X.K tg) (tt := tT X (evC Φ cond)) (wi1 := tI X (evI Φ it1)) (g1 := gTg X.K tg1) (tt1 := tT X (evC Φ cond1)) (te := tE X (evE Φ elt)) (vs1 := own1) s.ctx.calm s.ctx.nd (sndI it s h1) b1 (by rw [b2]; exact hv)
        (fun s1 H C cl fp => tg_pg (blk_sx s h3 s1 H C cl fp) (fun x z => z.elim (fun z => by cases z) fun z => by show (_ == _) = true; rw [z]; rfl) h5)
        (fun s1 H C cl fp => sndC cond (blk_sx s h3 s1 H C cl fp) h6) (fun s1 H C cl fp => sndI it1 (blk_sx s h3 s1 H C cl fp) hi)
        (fun s1 H C cl fp => tg_pg (blk_sx s h3 s1 H C cl fp) (fun x z => z.elim (fun z => by cases z) fun z => by show (_ == _) = true; rw [z]; rfl) h5')
        (fun s1 H C cl fp => sndC cond1 (blk_sx s h3 s1 H C cl fp) h6') (fun s1 H C cl fp => (sndE elt (blk_sx s h3 s1 H C cl fp) h7).pe) (nset_ok h2) (fun env => nset_ok h2')
      refine .of (PEimp q fun σ H Q hq => ?_) (fun _ => rfl) fun _ _ _ => nofun
      rw [b2]
      exact lc2_go h4 h4' hv hq
    · cases h
  | .dcomp2 ke ve tg it cond tg1 it1 cond1 own own1, X, sc, s, e, h => by
    unfold chkE at h
    split at h
    · simp only [Bool.and_eq_true, List.all_eq_true, decide_eq_true_eq] at h
      obtain ⟨⟨⟨⟨⟨⟨⟨⟨⟨⟨⟨⟨⟨h1, h2⟩, h2'⟩, h3⟩, h4⟩, h4'⟩, hv⟩, h5⟩, h5'⟩, h6⟩, hi⟩, h6'⟩, h7⟩, h8⟩ := h
      obtain ⟨b1, b2⟩ := blk_of s h3
      have q := cr_dc2A (pos := ‹Pos›) (wi := tI X (evI Φ it)) (tg := tg) (tt := tT X (evC Φ cond)) (wi1 := tI X (evI Φ it1)) (tg1 := tg1) (tt1 := tT X (evC Φ cond1)) (tk := tE X (evE Φ ke)) (tv := tE X (evE Φ ve)) (vs1 := own1) s.ctx.calm (by have := s.ctx.room; omega) s.ctx.nd (sndI it s h1) b1 (by rw [b2]; exact hv)
        (fun s1 H C cl fp => tg_pg (blk_sx s h3 s1 H C cl fp) (fun x z => z.elim (fun z => by cases z) fun z => by show (_ == _) = true; rw [z]; rfl) h5)
        (fun s1 H C cl fp => sndC cond (blk_sx s h3 s1 H C cl fp) h6) (fun s1 H C cl fp => sndI it1 (blk_sx s h3 s1 H C cl fp) hi)
        (fun s1 H C cl fp => tg_pg (blk_sx s h3 s1 H C cl fp) (fun x z => z.elim (fun z => by cases z) fun z => by show (_ == _) = true; rw [z]; rfl) h5')
        (fun s1 H C cl fp => sndC cond1 (blk_sx s h3 s1 H C cl fp) h6') (fun s1 H C cl fp => (sndE ke (blk_sx s h3 s1 H C cl fp) h7).pe) (fun s1 H C cl fp => (sndE ve (blk_sx s h3 s1 H C cl fp) h8).pe) (nset_ok h2) (fun env => nset_ok h2')
      refine .of (PEimp (q.pe (arm_eval_DictComp ..)) fun σ H Q hq => ?_) (fun _ => rfl) fun _ _ _ => nofun
      rw [b2]
      exact dc2_go h4 h4' hv hq
    · cases h
  | .compO elt tg i cond own, X, sc, s, e, h => by
    unfold chkE at h
    split at h
    · rename_i x t y py ifs scope pos
      simp only [Bool.and_eq_true, List.all_eq_true, decide_eq_true_eq] at h
      obtain ⟨⟨⟨⟨⟨h1, h3⟩, h4⟩, h5⟩, h6⟩, h7⟩ := h
      obtain ⟨b1, b2⟩ := blk_of s h3
      obtain ⟨l1, l2, l3, l4⟩ := loc_of s h1
      have q := pe_lc (pos := pos) (iter := .Name y py) (wi := iAny X.w X.K (tVar i)) (g := gTg X.K tg) (tt := tT X (evC Φ cond)) (te := tE X (evE Φ elt)) s.ctx.calm s.ctx.nd (pi_any (pe_var l1 l2 l3 l4)) b1 (fun s1 H C cl fp => tg_pg (blk_sx s h3 s1 H C cl fp) (fun x z => z.elim (fun z => by cases z) fun z => by show (_ == _) = true; rw [z]; rfl) h5)
        (fun s1 H C cl fp => sndC cond (blk_sx s h3 s1 H C cl fp) h6) (fun s1 H C cl fp => (sndE elt (blk_sx s h3 s1 H C cl fp) h7).pe)
      refine .of (PEimp q fun σ H Q hq => ?_) (fun _ => rfl) fun _ _ _ => nofun
      rw [b2]
      exact co_go h4 hq
    · cases h
  | .pop _ _, X, sc, s, e, h => by cases h
theorem sndEs : ∀ (c : Es F) {X : Cx} {sc : Scp} (s : SX k Φ X sc) {l : List Expr}, chkEs k c sc l = true → PA X l (tEs X (evEs Φ c))
  | .nil, X, sc, s, l, h => by
    cases l with
    | nil => exact es_nil
    | cons => cases h
  | .cons e es, X, sc, s, l, h => by
    cases l with
    | nil => cases h
    | cons x xs =>
      have h : (nst x && chkE k e sc x && chkEs k es sc xs) = true := h
      simp only [Bool.and_eq_true] at h
      exact es_cons (sndE e s h.1.2).pe (sndEs es s h.2) h.1.1
  | .ref _ _, X, sc, s, l, h => by cases h
theorem sndX : ∀ (c : Es F) {X : Cx} {sc : Scp} (s : SX k Φ X sc) {l : List Expr}, chkEs k c sc l = true → PA X l (tX X (evX Φ c))
  | .nil, X, sc, s, l, h => by
    cases l with
    | nil => exact x_nil
    | cons => cases h
  | .cons e es, X, sc, s, l, h => by
    cases l with
    | nil => cases h
    | cons x xs =>
      have h : (nst x && chkE k e sc x && chkEs k es sc xs) = true := h
      simp only [Bool.and_eq_true] at h
      exact x_cons (sndE e s h.1.2).pe (sndX es s h.2) h.1.1
  | .ref _ _, X, sc, s, l, h => by cases h
theorem sndA : ∀ (c : Es F) {X : Cx} {sc : Scp} (s : SX k Φ X sc) {l : List Expr}, chkA k c sc l = true → PA X l (tA X (evA Φ c))
  | .nil, X, sc, s, l, h => by
    cases l with
    | nil => exact a_nil
    | cons => cases h
  | .cons e es, X, sc, s, l, h => by
    cases l with
    | nil => cases h
    | cons x xs =>
      have h : (nst x && chkE k e sc x && chkA k es sc xs) = true := h
      simp only [Bool.and_eq_true] at h
      exact a_cons (sndE e s h.1.2).pe (sndA es s h.2) h.1.1
  | .ref i es, X, sc, s, l, h => by
    unfold chkA at h
    split at h
    · simp only [Bool.and_eq_true] at h
      obtain ⟨h1, h2, h3, h4⟩ := loc_of s h.1
      exact a_ref h1 h2 h3 h4 (sndA es s h.2)
    · cases h
theorem sndO : ∀ (c : Es F) {X : Cx} {sc : Scp} (s : SX k Φ X sc) {l : Option Expr}, chkO k c sc l = true → PO X l (tO X (evO Φ none c))
  | .nil, X, sc, s, l, h => by
    cases l with
    | none => exact o_none
    | some => cases h
  | .cons e es, X, sc, s, l, h => by
    cases l with
    | none => cases h
    | some x => exact o_some (sndE e s h).pe
  | .ref _ _, X, sc, s, l, h => by cases h
theorem sndC : ∀ (c : Es F) {X : Cx} {sc : Scp} (s : SX k Φ X sc) {l : List Expr}, chkC k c sc l = true → PTs X l (tT X (evC Φ c))
  | .nil, X, sc, s, l, h => by
    cases l with
    | nil =>
      refine PTsimp pts_nil fun σ H Q hq => ?_
      obtain ⟨F0, ρ, kk, ρ', S, ev, q⟩ := hq
      cases ev
      exact q H F0 (.refl S)
    | cons => cases h
  | .cons e es, X, sc, s, l, h => by
    unfold chkC at h
    split at h
    · simp only [Bool.and_eq_true] at h
      exact pts_one ((sndE e s h.2).pt h.1)
    · cases h
  | .ref _ _, X, sc, s, l, h => by cases h
theorem sndI : ∀ (c : I F) {X : Cx} {sc : Scp} (s : SX k Φ X sc) {t a : Expr}, chkI k c sc t a = true → PI X t a (tI X (evI Φ c))
  | .val e, X, sc, s, t, a, h => i_val (sndE e s h).pe
  | .rng1 b, X, sc, s, t, a, h => by
    unfold chkI at h
    split at h
    · simp only [Bool.and_eq_true, decide_eq_true_eq] at h
      obtain ⟨⟨⟨rfl, h1⟩, h2⟩, h3⟩ := h
      exact i_rng1 (gl_of' s h1).1 s.mgR h2 (sndE b s h3).pe
    · cases h
  | .rng2 c b, X, sc, s, t, a, h => by
    unfold chkI at h
    split at h
    · simp only [Bool.and_eq_true, decide_eq_true_eq] at h
      obtain ⟨⟨⟨⟨⟨rfl, h1⟩, h2⟩, h3⟩, h4⟩, h5⟩ := h
      exact i_rng2 (gl_of' s h1).1 s.mgR h2 h3 (sndE c s h4).pe (sndE b s h5).pe
    · cases h
  | .enum e, X, sc, s, t, a, h => by
    unfold chkI at h
    split at h
    · simp only [Bool.and_eq_true, decide_eq_true_eq] at h
      obtain ⟨⟨⟨⟨rfl, h1⟩, h2⟩, h3⟩, h4⟩ := h
      cases t with
      | Tuple es kk p => exact i_enum (gl_of' s h1).1 s.mgE h2 (sndE e s h4).pe
      | _ => cases h3
    · cases h
  | .zip c b, X, sc, s, t, a, h => by
    unfold chkI at h
    split at h
    · simp only [Bool.and_eq_true, decide_eq_true_eq] at h
      obtain ⟨⟨⟨⟨⟨⟨⟨rfl, h1⟩, h2⟩, h3⟩, h4⟩, hk⟩, h5⟩, h6⟩ := h
      cases t with
      | Tuple es kk p =>
        rcases zipKs_inv hk with rfl | ⟨cj, cp, kp, rfl⟩
        · exact i_zip (gl_of' s h1).1 s.mgZ h2 h3 (sndE c s h5).pe (sndE b s h6).pe
        · exact i_zipK (gl_of' s h1).1 s.mgZ h2 h3 (sndE c s h5).pe (sndE b s h6).pe
      | _ => cases h4
    · cases h
end
end
end SP

/-! SpSnd2: statements: the look, and what it holds. -/
namespace SP
open PySem PySem.W PyProof.Rows L2 PySem.SeqAt

section
variable {F : Type} (k : Ck F)
/-- a comprehension straight into a name: are the stores exchanged (none: not told) -/
def swB (sc : Scp) (x : Str) (px : Pos) : Expr → Option Bool
  | .ListComp _ _ scope p => if sc.lookup x = some .local then (if (px.line == p.line) && !(scope.names.any fun (n, kk) => n == x && (kk == .local || kk == .cell)) then some true else none) else some false
  | .DictComp _ _ _ scope p => if sc.lookup x = some .local then (if (px.line == p.line) && !(scope.names.any fun (n, kk) => n == x && (kk == .local || kk == .cell)) then some true else none) else some false
  | e => if ncmp e then some false else none
def linB (l : Nat) (sc : Scp) : List Expr → Bool
  | [] => true
  | .Name x p :: es => decide (sc.lookup x = some .local) && (p.line == l) && linB l sc es
  | _ => false
/-- names and values in one assignment: how the stores go (none: not told) -/
def parB (sc : Scp) (ns vs : List Expr) : Option Bool :=
  match ns with
  | [.Name x px, .Name y py] => if decide (sc.lookup x = some .local) && decide (sc.lookup y = some .local) && (py.line == px.line) && decide (x ≠ y) && decide (vs.length = 2) && vs.all nst && !(vs.all (foldedForSure 8)) && !(vs.all (constantsAlone 8)) then some true
      else if decide (sc.lookup x ≠ some .local) || decide (sc.lookup y ≠ some .local) then some false else none
  | [.Name x px, .Name y py, .Name z pz] => if decide (sc.lookup x = some .local) && decide (sc.lookup y = some .local) && decide (sc.lookup z = some .local) && (py.line == px.line) && (pz.line == px.line) && decide (x ≠ y) && decide (x ≠ z) && decide (y ≠ z) && decide (vs.length = 3) && vs.all nst && !(vs.all (foldedForSure 8)) && !(vs.all (constantsAlone 8)) then some true
      else if decide (sc.lookup x ≠ some .local) || decide (sc.lookup y ≠ some .local) || decide (sc.lookup z ≠ some .local) then some false else none
  | _ => if decide (ns.length ≠ 2) && decide (ns.length ≠ 3) then some false else none
mutual
def chkS (Z : List Nat) (sc : Scp) : C F → Stmt → Bool
  | .expr e, st => match st with
    | .Expr a _ => ncmp a && chkE k e sc a
    | _ => false
  | .set i e, st => match st with
    | .Assign [.Name x px] a _ => stB k true [] sc i x && decide (i ∉ Z) && chkE k e sc a && (swB sc x px a).isSome
    | _ => false
  | .setO i e, st => match st with
    | .Assign [.Name x px] a _ => stB k true [] sc i x && decide (i ∉ Z) && chkE k e sc a && (swB sc x px a).isSome
    | _ => false
  | .par ts es, st => match st with
    | .Assign [.Tuple ns _ _] (.Tuple vs _ _) _ => stAll k true [] sc (ts.map (·.1)) ns && ts.all (fun t => decide (t.1 ∉ Z)) && chkEs k es sc vs && decide (ts.length ≤ 20) && (parB sc ns vs).isSome
    | _ => false
  | .unp is e, st => match st with
    | .Assign [.Tuple ns _ _] a _ => stAll k true [] sc is ns && is.all (fun i => decide (i ∉ Z)) && chkE k e sc a && ncmp a && !isTup a
    | _ => false
  | .app i e, st => match st with
    | .Expr (.Call (.Attribute (.Name x _) m ap) [a] [] cp) _ => decide (m = "append") && locB k sc i x && nst a && chkE k e sc a && (ap.endLine == cp.line)
    | _ => false
  | .sto i ke e, st => match st with
    | .Assign [.Subscript (.Name x _) y _] a _ => locB k sc i x && nsl y && chkE k ke sc y && chkE k e sc a && ncmp a
    | _ => false
  | .clr i, st => match st with
    | .Expr (.Call (.Attribute (.Name x _) m ap) [] [] cp) _ => decide (m = "clear") && locB k sc i x && (ap.endLine == cp.line)
    | _ => false
  | .aug i e, st => match st with
    | .AugAssign (.Name x _) .Add a _ => stB k true [] sc i x && decide (i ∉ Z) && chkE k e sc a
    | _ => false
  | .ite c a b, st => match st with
    | .If x y z _ => nif x && chkE k c sc x && chkB Z sc a y && chkB Z sc b z
    | _ => false
  | .whl c b, st => match st with
    | .While x y [] _ => nif x && chkE k c sc x && chkB Z sc b y
    | _ => false
  | .for tg it b, st => match st with
    | .For t a y [] _ => tgB k true [] sc tg t && tg.ix.all (fun i => decide (i ∉ Z)) && chkI k it sc t a && nset a && chkB Z sc b y
    | _ => false
  | .ret e, st => match st with
    | .Return (some a) _ => chkE k e sc a
    | _ => false
  | .cont, st => match st with
    | .Continue _ => true
    | _ => false
def chkB (Z : List Nat) (sc : Scp) : Cs F → List Stmt → Bool
  | .nil, l => l.isEmpty
  | .cons c cs, l => match l with
    | s :: ss => chkS Z sc c s && chkB Z sc cs ss
    | [] => false
end
end

section
variable {F : Type} {k : Ck F} {Φ : F → List Sl → Option (Sl × List MO)} {X : Cx} {sc : Scp} {Z : List Nat} {W : Nat}
theorem sw_go {e : Expr} {x : Str} {px p : Pos} {l : Nat} {scope : Scope} (s : SX k Φ X sc) (he : swapsWith e (some (.Name x px)) l X.env = (pure (X.env.blockKind == .function && X.env.kindOf x == some .local && px.line == p.line && !(scope.names.any fun (n, kk) => n == x && (kk == .local || kk == .cell))) : Sem Bool)) {b : Bool}
    (h : (if sc.lookup x = some .local then (if (px.line == p.line) && !(scope.names.any fun (n, kk) => n == x && (kk == .local || kk == .cell)) then some true else none) else some false) = some b) :
    swapsWith e (some (.Name x px)) l X.env = pure b ∧ (b = true → X.env.scope.names.lookup x = some .local) := by
  rw [he]
  split at h
  · rename_i hl
    split at h
    · rename_i hc
      cases h
      rw [Bool.and_eq_true] at hc
      have hk : (X.env.kindOf x == some NameKind.local) = true := by
        show (X.env.scope.names.lookup x == _) = true
        rw [s.hsc, hl]; rfl
      have hb : (X.env.blockKind == ScopeKind.function) = true := by
        unfold PySem.Env.blockKind
        rw [s.kind]
        rfl
      rw [hk, hb, hc.1, hc.2]
      exact ⟨rfl, fun _ => by rw [s.hsc]; exact hl⟩
    · cases h
  · rename_i hl
    cases h
    have e1 : (X.env.kindOf x == some NameKind.local) = false := by
      show (X.env.scope.names.lookup x == _) = false
      rw [s.hsc]
      cases q : sc.lookup x with
      | none => rfl
      | some kk =>
        rw [q] at hl
        cases kk <;> first | rfl | exact absurd rfl hl
    rw [e1]
    exact ⟨by simp, fun z => by cases z⟩
theorem sw_of {e : Expr} {x : Str} {px : Pos} {l : Nat} {b : Bool} (s : SX k Φ X sc) (h : swB sc x px e = some b) : swapsWith e (some (.Name x px)) l X.env = pure b ∧ (b = true → X.env.scope.names.lookup x = some .local ∧ ncmp e = false) := by
  unfold swB at h
  split at h
  · rename_i elt gs scope p
    obtain ⟨a, c⟩ := sw_go (e := .ListComp elt gs scope p) (l := l) s rfl h
    exact ⟨a, fun z => ⟨c z, rfl⟩⟩
  · rename_i kx vx gs scope p
    obtain ⟨a, c⟩ := sw_go (e := .DictComp kx vx gs scope p) (l := l) s rfl h
    exact ⟨a, fun z => ⟨c z, rfl⟩⟩
  · split at h
    · cases h; exact ⟨swaps_no ‹_›, fun z => by cases z⟩
    · cases h
theorem fnT (s : SX k Φ X sc) (hf : ∀ x, X.fn x = true) : ∀ x, true = true ∨ ([] : Scp).lookup x = some .cell → X.fn x = true := fun x _ => hf x
/-- a value given to a name -/
theorem s_set (s : SX k Φ X sc) (hf : ∀ x, X.fn x = true) {i : Nat} {o : Bool} {e : E F} {x : Str} {px pos : Pos} {a : Expr} (h1 : stB k true [] sc i x = true) (h2 : i ∉ Z) (h3 : chkE k e sc a = true) (h4 : (swB sc x px a).isSome = true) :
    PS X (.Assign [.Name x px] a pos) (tS X Z (fSet i o (evE Φ e))) := by
  obtain ⟨g1, g2, g3⟩ := stB_of s (fnT s hf) h1
  cases hb : swB sc x px a with
  | none => rw [hb] at h4; cases h4
  | some b =>
    cases b with
    | false => exact PSimp (ps_set s.ctx.nd g1 g2 (sndE e s h3).pe (sw_of s hb).1 g3) fun D σ H q => set_go h2 q
    | true =>
      obtain ⟨hsw, hlc⟩ := sw_of (l := pos.line) s hb
      obtain ⟨hl, hcm⟩ := hlc rfl
      have tgp : ∀ {tg : Tg} {t : Expr} {scope : Scope} {vs : List Nat} (c3 : blkB k sc scope vs = true), tgB k false scope.names (relN sc scope.names) tg t = true → ∀ (s1 : Shared) (H : Hp) (C : Addr) (cl : List (Str × Addr)) (fp : List Addr), PG (X.blk s1 H scope (compEnvC scope cl C X.env) fp) t (gTg X.K tg) :=
        fun c3 c5 s1 H C cl fp => tg_pg (blk_sx s c3 s1 H C cl fp) (fun x z => z.elim (fun z => by cases z) fun z => by show (_ == _) = true; rw [z]; rfl) c5
      cases e with
      | comp elt tg it cond own =>
        unfold chkE at h3
        split at h3
        · simp only [Bool.and_eq_true, List.all_eq_true, decide_eq_true_eq] at h3
          obtain ⟨⟨⟨⟨⟨⟨c1, c2⟩, c3⟩, c4⟩, c5⟩, c6⟩, c7⟩ := h3
          obtain ⟨b1, b2⟩ := blk_of s c3
          have q := ps_setLc (wi := tI X (evI Φ it)) (g := gTg X.K tg) (tt := tT X (evC Φ cond)) (te := tE X (evE Φ elt)) s.ctx.calm s.ctx.nd g1 hl hsw (sndI it s c1) b1 (tgp c3 c5)
            (fun s1 H C cl fp => sndC cond (blk_sx s c3 s1 H C cl fp) c6) (fun s1 H C cl fp => (sndE elt (blk_sx s c3 s1 H C cl fp) c7).pe) (nset_ok c2)
          refine PSimp q fun D σ H q => ?_
          rw [b2]
          exact lc_go c4 (set_go h2 q)
        · cases h3
      | compO elt tg j cond own =>
        unfold chkE at h3
        split at h3
        · rename_i x' t' y' py' ifs' scope' pos'
          simp only [Bool.and_eq_true, List.all_eq_true, decide_eq_true_eq] at h3
          obtain ⟨⟨⟨⟨⟨c1, c3⟩, c4⟩, c5⟩, c6⟩, c7⟩ := h3
          obtain ⟨b1, b2⟩ := blk_of s c3
          obtain ⟨l1, l2, l3, l4⟩ := loc_of s c1
          have q := ps_setLc (iter := .Name y' py') (wi := iAny X.w X.K (tVar j)) (g := gTg X.K tg) (tt := tT X (evC Φ cond)) (te := tE X (evE Φ elt)) s.ctx.calm s.ctx.nd g1 hl hsw (pi_any (pe_var l1 l2 l3 l4)) b1 (tgp c3 c5)
            (fun s1 H C cl fp => sndC cond (blk_sx s c3 s1 H C cl fp) c6) (fun s1 H C cl fp => (sndE elt (blk_sx s c3 s1 H C cl fp) c7).pe)
          refine PSimp q fun D σ H q => ?_
          rw [b2]
          exact co_go c4 (set_go h2 q)
        · cases h3
      | comp2 elt tg it cond tg1 it1 cond1 own own1 =>
        unfold chkE at h3
        split at h3
        · simp only [Bool.and_eq_true, List.all_eq_true, decide_eq_true_eq] at h3
          obtain ⟨⟨⟨⟨⟨⟨⟨⟨⟨⟨⟨⟨c1, c2⟩, c2'⟩, c3⟩, c4⟩, c4'⟩, hv⟩, c5⟩, c5'⟩, c6⟩, ci⟩, c6'⟩, c7⟩ := h3
          obtain ⟨b1, b2⟩ := blk_of s c3
          have q := ps_setLc2 (wi := tI X (evI Φ it)) (g := gTg X.K tg) (tt := tT X (evC Φ cond)) (wi1 := tI X (evI Φ it1)) (g1 := gTg X.K tg1) (tt1 := tT X (evC Φ cond1)) (te := tE X (evE Φ elt)) (vs1 := own1) s.ctx.calm s.ctx.nd g1 hl hsw (sndI it s c1) b1 (by rw [b2]; exact hv) (tgp c3 c5)
            (fun s1 H C cl fp => sndC cond (blk_sx s c3 s1 H C cl fp) c6) (fun s1 H C cl fp => sndI it1 (blk_sx s c3 s1 H C cl fp) ci) (tgp c3 c5')
            (fun s1 H C cl fp => sndC cond1 (blk_sx s c3 s1 H C cl fp) c6') (fun s1 H C cl fp => (sndE elt (blk_sx s c3 s1 H C cl fp) c7).pe) (nset_ok c2) (fun env => nset_ok c2')
          refine PSimp q fun D σ H q => ?_
          rw [b2]
          exact lc2_go c4 c4' hv (set_go h2 q)
        · cases h3
      | dcomp ke ve tg it cond own =>
        unfold chkE at h3
        split at h3
        · simp only [Bool.and_eq_true, List.all_eq_true, decide_eq_true_eq] at h3
          obtain ⟨⟨⟨⟨⟨⟨⟨c1, c2⟩, c3⟩, c4⟩, c5⟩, c6⟩, c7⟩, c8⟩ := h3
          obtain ⟨b1, b2⟩ := blk_of s c3
          have q := cr_dcA (pos := ‹Pos›) (wi := tI X (evI Φ it)) (tg := tg) (tt := tT X (evC Φ cond)) (tk := tE X (evE Φ ke)) (tv := tE X (evE Φ ve)) s.ctx.calm (by have := s.ctx.room; omega) s.ctx.nd (sndI it s c1) b1 (tgp c3 c5)
            (fun s1 H C cl fp => sndC cond (blk_sx s c3 s1 H C cl fp) c6) (fun s1 H C cl fp => (sndE ke (blk_sx s c3 s1 H C cl fp) c7).pe) (fun s1 H C cl fp => (sndE ve (blk_sx s c3 s1 H C cl fp) c8).pe) (nset_ok c2)
          refine PSimp (q.ps s.ctx.nd g1 hl hsw fun u => rfl) fun D σ H q => ?_
          rw [b2]
          exact dc_go c4 (set_go h2 q)
        · cases h3
      | dcomp2 ke ve tg it cond tg1 it1 cond1 own own1 =>
        unfold chkE at h3
        split at h3
        · simp only [Bool.and_eq_true, List.all_eq_true, decide_eq_true_eq] at h3
          obtain ⟨⟨⟨⟨⟨⟨⟨⟨⟨⟨⟨⟨⟨c1, c2⟩, c2'⟩, c3⟩, c4⟩, c4'⟩, hv⟩, c5⟩, c5'⟩, c6⟩, ci⟩, c6'⟩, c7⟩, c8⟩ := h3
          obtain ⟨b1, b2⟩ := blk_of s c3
          have q := cr_dc2A (pos := ‹Pos›) (wi := tI X (evI Φ it)) (tg := tg) (tt := tT X (evC Φ cond)) (wi1 := tI X (evI Φ it1)) (tg1 := tg1) (tt1 := tT X (evC Φ cond1)) (tk := tE X (evE Φ ke)) (tv := tE X (evE Φ ve)) (vs1 := own1) s.ctx.calm (by have := s.ctx.room; omega) s.ctx.nd (sndI it s c1) b1 (by rw [b2]; exact hv) (tgp c3 c5)
            (fun s1 H C cl fp => sndC cond (blk_sx s c3 s1 H C cl fp) c6) (fun s1 H C cl fp => sndI it1 (blk_sx s c3 s1 H C cl fp) ci) (tgp c3 c5')
            (fun s1 H C cl fp => sndC cond1 (blk_sx s c3 s1 H C cl fp) c6') (fun s1 H C cl fp => (sndE ke (blk_sx s c3 s1 H C cl fp) c7).pe) (fun s1 H C cl fp => (sndE ve (blk_sx s c3 s1 H C cl fp) c8).pe) (nset_ok c2) (fun env => nset_ok c2')
          refine PSimp (q.ps s.ctx.nd g1 hl hsw fun u => rfl) fun D σ H q => ?_
          rw [b2]
          exact dc2_go c4 c4' hv (set_go h2 q)
        · cases h3
      | _ =>
        exfalso
        unfold chkE at h3
        first
          | cases h3
          | (split at h3 <;> first | cases hcm | cases h3)
theorem m_pa : ∀ (c : Es F) {X : Cx} {sc : Scp} (s : SX k Φ X sc) {l : List Expr}, chkEs k c sc l = true → PA X l (tM X (evM Φ c))
  | .nil, X, sc, s, l, h => by
    cases l with
    | nil => exact m_nil
    | cons => cases h
  | .cons e es, X, sc, s, l, h => by
    cases l with
    | nil => cases h
    | cons x xs =>
      have h : (nst x && chkE k e sc x && chkEs k es sc xs) = true := h
      simp only [Bool.and_eq_true] at h
      exact m_cons (sndE e s h.1.2).pe (m_pa es s h.2) h.1.1
  | .ref _ _, X, sc, s, l, h => by cases h
theorem bk (s : SX k Φ X sc) : X.env.blockKind = .function := by
  unfold PySem.Env.blockKind
  rw [s.kind]
  rfl
theorem kindL (s : SX k Φ X sc) {x : Str} (h : sc.lookup x = some .local) : (X.env.kindOf x == some NameKind.local) = true := by
  show (X.env.scope.names.lookup x == _) = true
  rw [s.hsc, h]; rfl
theorem kindN (s : SX k Φ X sc) {x : Str} (h : sc.lookup x ≠ some .local) : (X.env.kindOf x == some NameKind.local) = false := by
  show (X.env.scope.names.lookup x == _) = false
  rw [s.hsc]
  cases q : sc.lookup x with
  | none => rfl
  | some kk =>
    rw [q] at h
    cases kk <;> first | rfl | exact absurd rfl h
theorem nst_any {vs : List Expr} (h : vs.all nst = true) {f : Expr → Bool} (hf : ∀ e, nst e = true → f e = false) : vs.any f = false := by
  induction vs with
  | nil => rfl
  | cons e es ih =>
    simp only [List.all_cons, Bool.and_eq_true] at h
    rw [List.any_cons, ih h.2, hf e h.1]
    rfl
theorem sw2 (s : SX k Φ X sc) {x y : Str} {px py pt p2 : Pos} {kt k2 : Nat} {vs : List Expr} (hx : sc.lookup x = some .local) (hy : sc.lookup y = some .local) (hl : (py.line == px.line) = true) (hne : x ≠ y) (hv : vs.length = 2) (hs : vs.all nst = true)
    (h1 : vs.all (foldedForSure 8) = false) (h2 : vs.all (constantsAlone 8) = false) : swappedStores [.Tuple [.Name x px, .Name y py] kt pt] (.Tuple vs k2 p2) X.env = pure (some [x, y]) := by
  unfold swappedStores
  dsimp only
  rw [nst_any hs fun e he => by cases e <;> first | rfl | cases he]
  have e1 := kindL s hx
  have e2 := kindL s hy
  have e4 : (y == x) = false := by simpa using fun z => hne z.symm
  have hl' : py.line = px.line := by simpa using hl
  have q1 : (Expr.Name x px).pos.line = px.line := rfl
  have q2 : (Expr.Name y py).pos.line = py.line := rfl
  simp [bk s, hv, e1, e2, q1, q2, hl', h1, h2, List.filterMap, List.eraseDups, List.eraseDupsBy, List.eraseDupsBy.loop, e4]
theorem sw3 (s : SX k Φ X sc) {x y z : Str} {px py pz pt p2 : Pos} {kt k2 : Nat} {vs : List Expr} (hx : sc.lookup x = some .local) (hy : sc.lookup y = some .local) (hz : sc.lookup z = some .local) (hl : (py.line == px.line) = true) (hl2 : (pz.line == px.line) = true) (hne : x ≠ y) (hne2 : x ≠ z) (hne3 : y ≠ z) (hv : vs.length = 3) (hs : vs.all nst = true)
    (h1 : vs.all (foldedForSure 8) = false) (h2 : vs.all (constantsAlone 8) = false) : swappedStores [.Tuple [.Name x px, .Name y py, .Name z pz] kt pt] (.Tuple vs k2 p2) X.env = pure (some [x, y, z]) := by
  unfold swappedStores
  dsimp only
  rw [nst_any hs fun e he => by cases e <;> first | rfl | cases he]
  have e1 := kindL s hx
  have e2 := kindL s hy
  have e5 := kindL s hz
  have e4 : (y == x) = false := by simpa using fun z => hne z.symm
  have e6 : (z == x) = false := by simpa using fun z => hne2 z.symm
  have e7 : (z == y) = false := by simpa using fun z => hne3 z.symm
  have hl' : py.line = px.line := by simpa using hl
  have hl2' : pz.line = px.line := by simpa using hl2
  have q1 : (Expr.Name x px).pos.line = px.line := rfl
  simp [bk s, hv, e1, e2, e5, q1, hl', hl2', h1, h2, List.filterMap, List.eraseDups, List.eraseDupsBy, List.eraseDupsBy.loop, e4, e6, e7]
theorem sw_len {ns vs : List Expr} {kt k2 : Nat} {pt p2 : Pos} {env : PySem.Env} (h2 : ns.length ≠ 2) (h3 : ns.length ≠ 3) : swappedStores [.Tuple ns kt pt] (.Tuple vs k2 p2) env = pure none := by
  unfold swappedStores
  simp [h2, h3]
theorem filt_lt {ns : List Expr} {f : Expr → Option Str} {e : Expr} (h : e ∈ ns) (hf : f e = none) : (ns.filterMap f).length ≠ ns.length := by
  have key : ∀ {l : List Expr}, (l.filterMap f).length ≤ l.length := fun {l} => List.length_filterMap_le f l
  induction ns with
  | nil => cases h
  | cons a r ih =>
    rcases List.mem_cons.mp h with rfl | h
    · rw [List.filterMap_cons_none hf]
      have := key (l := r)
      simp only [List.length_cons]
      omega
    · have h1 := ih h
      have h2 := key (l := r)
      cases q : f a with
      | none => rw [List.filterMap_cons_none q]; simp only [List.length_cons]; omega
      | some b => rw [List.filterMap_cons_some q]; simp only [List.length_cons]; omega
theorem sw_cell (s : SX k Φ X sc) {ns vs : List Expr} {x : Str} {px pt p2 : Pos} {kt k2 : Nat} (hm : .Name x px ∈ ns) (h : sc.lookup x ≠ some .local) : swappedStores [.Tuple ns kt pt] (.Tuple vs k2 p2) X.env = pure none := by
  unfold swappedStores
  dsimp only
  split
  · rfl
  split
  · rfl
  rw [if_pos]
  rw [Bool.or_eq_true, bne_iff_ne]
  refine .inl (filt_lt hm ?_)
  dsimp only
  rw [kindN s h]
  rfl

theorem setsV2 (σ : L2.St) (i j : Nat) (v w : V) : setsV σ [i, j] [v, w] = (σ.set i (some v)).set j (some w) := rfl
theorem par_len {ts : List (Nat × Bool)} {f : Env → Option (List R × Env)} {D : Ends} {σ : L2.St} {H : Hp} (hz : ∀ t ∈ ts, t.1 ∉ Z) (h : tS X Z (fPar ts f) D σ H) : tM X f σ H fun vs H1 => vs.length = ts.length ∧ D.nx (setsV σ (ts.map (·.1)) vs) H1 := by
  obtain ⟨F0, ρ, oo, S, e, k⟩ := h
  obtain ⟨⟨rs, ρ1⟩, e1, e⟩ := Option.bind_eq_some_iff.mp e
  obtain ⟨ρ2, e2, e⟩ := Option.map_eq_some_iff.mp e
  cases e
  refine ⟨F0, ρ, rs, ρ1, S, e1, fun vs H1 F1 st t => ⟨(mt_len t).trans (setPar_len e2), ?_⟩⟩
  obtain ⟨q1, q2, q3, q4⟩ := par_step (F1 := F0) st.sr st.sub (fun a f => S.ft a f) t e2 hz
  exact k _ _ ⟨q1, st.keep, fun a z => (q2 a z).elim (fun z => .inl (st.osub a z)) .inr, q3⟩
theorem tM_mono {f : Env → Option (List R × Env)} {σ : L2.St} {H : Hp} {P Q : List V → Hp → Prop} (h : tM X f σ H P) (i : ∀ vs H, P vs H → Q vs H) : tM X f σ H Q := by
  obtain ⟨F0, ρ, rs, ρ', S, ev, q⟩ := h
  exact ⟨F0, ρ, rs, ρ', S, ev, fun vs H' F' a b => i _ _ (q vs H' F' a b)⟩
theorem s_par_tup (s : SX k Φ X sc) (hf : ∀ x, X.fn x = true) {ts : List (Nat × Bool)} {es : Es F} {ns vs : List Expr} {kt k2 : Nat} {pt p2 pos : Pos} (h1 : stAll k true [] sc (ts.map (·.1)) ns = true) (h2 : ∀ t ∈ ts, t.1 ∉ Z) (h3 : chkEs k es sc vs = true) (h4 : ts.length ≤ 20)
    (hw : swappedStores [.Tuple ns kt pt] (.Tuple vs k2 p2) X.env = pure none) : PS X (.Assign [.Tuple ns kt pt] (.Tuple vs k2 p2) pos) (tS X Z (fPar ts (evM Φ es))) := by
  obtain ⟨a, b, c, d⟩ := stAll_pg s (fnT s hf) h1
  have g : PG X (.Tuple ns kt pt) (gTup X.K ts.length (gSeq (ts.map (·.1)))) := by
    have := pg_tup (k := kt) (pos := pt) s.ctx.calm a b c
    rw [List.length_map] at this
    exact this
  exact PSimp (ps_asg (pe_tup (m_pa es s h3)) g rfl hw rfl) fun D σ H q => par_tup h2 h4 q
theorem s_par (s : SX k Φ X sc) (hf : ∀ x, X.fn x = true) {ts : List (Nat × Bool)} {es : Es F} {ns vs : List Expr} {kt k2 : Nat} {pt p2 pos : Pos} (h1 : stAll k true [] sc (ts.map (·.1)) ns = true) (h2 : ∀ t ∈ ts, t.1 ∉ Z) (h3 : chkEs k es sc vs = true) (h4 : ts.length ≤ 20) (h5 : (parB sc ns vs).isSome = true) :
    PS X (.Assign [.Tuple ns kt pt] (.Tuple vs k2 p2) pos) (tS X Z (fPar ts (evM Φ es))) := by
  have hl := (stAll_pg s (fnT s hf) h1).2.2.2
  rw [List.length_map] at hl
  unfold parB at h5
  split at h5
  · rename_i x px y py
    split at h5
    · rename_i hc
      simp only [Bool.and_eq_true, decide_eq_true_eq, Bool.not_eq_true'] at hc
      obtain ⟨⟨⟨⟨⟨⟨⟨c1, c2⟩, c3⟩, c4⟩, c5⟩, c6⟩, c7⟩, c8⟩ := hc
      match vs, c5 with
      | [a, b], _ =>
        match ts, hl with
        | [(i, o1), (j, o2)], _ =>
          simp only [List.map_cons, List.map_nil, stAll, Bool.and_eq_true] at h1
          obtain ⟨i1, i2, i3⟩ := stB_of s (fnT s hf) h1.1
          obtain ⟨j1, j2, j3⟩ := stB_of s (fnT s hf) h1.2.1
          have hij : i ≠ j := fun z => by
            subst z
            rw [i1] at j1
            exact c4 (Option.some.inj j1)
          refine PSimp (ps_par s.ctx.calm s.ctx.nd i1 j1 hij (by rw [s.hsc]; exact c1) (by rw [s.hsc]; exact c2) (m_pa es s h3) (sw2 s c1 c2 c3 c4 rfl c6 c7 c8) rfl) fun D σ H q => ?_
          refine tM_mono (par_len h2 q) fun us H1 z => ?_
          obtain ⟨z1, z2⟩ := z
          match us, z1 with
          | [u, v], _ => exact ⟨u, v, rfl, z2⟩
    · split at h5
      · rename_i hc
        simp only [Bool.or_eq_true, decide_eq_true_eq] at hc
        refine s_par_tup s hf h1 h2 h3 h4 ?_
        rcases hc with hc | hc
        · exact sw_cell s (List.mem_cons_self ..) hc
        · exact sw_cell s (List.mem_cons_of_mem _ (List.mem_cons_self ..)) hc
      · cases h5
  · rename_i x px y py z pz
    split at h5
    · rename_i hc
      simp only [Bool.and_eq_true, decide_eq_true_eq, Bool.not_eq_true'] at hc
      obtain ⟨⟨⟨⟨⟨⟨⟨⟨⟨⟨⟨c1, c2⟩, c3⟩, c4⟩, c5⟩, c6⟩, c7⟩, c8⟩, c9⟩, c10⟩, c11⟩, c12⟩ := hc
      match vs, c9 with
      | [a, b, c], _ =>
        match ts, hl with
        | [(i, o1), (j, o2), (l, o3)], _ =>
          simp only [List.map_cons, List.map_nil, stAll, Bool.and_eq_true] at h1
          obtain ⟨i1, i2, i3⟩ := stB_of s (fnT s hf) h1.1
          obtain ⟨j1, j2, j3⟩ := stB_of s (fnT s hf) h1.2.1
          obtain ⟨l1, l2, l3⟩ := stB_of s (fnT s hf) h1.2.2.1
          have hij : i ≠ j := fun z => by
            subst z
            rw [i1] at j1
            exact c6 (Option.some.inj j1)
          have hil : i ≠ l := fun z => by
            subst z
            rw [i1] at l1
            exact c7 (Option.some.inj l1)
          have hjl : j ≠ l := fun z => by
            subst z
            rw [j1] at l1
            exact c8 (Option.some.inj l1)
          refine PSimp (ps_par3 s.ctx.calm s.ctx.nd i1 j1 l1 hij hil hjl (by rw [s.hsc]; exact c1) (by rw [s.hsc]; exact c2) (by rw [s.hsc]; exact c3) (m_pa es s h3) (sw3 s c1 c2 c3 c4 c5 c6 c7 c8 rfl c10 c11 c12) rfl) fun D σ H q => ?_
          refine tM_mono (par_len h2 q) fun us H1 z => ?_
          obtain ⟨z1, z2⟩ := z
          match us, z1 with
          | [u, v, w], _ => exact ⟨u, v, w, rfl, z2⟩
    · split at h5
      · rename_i hc
        simp only [Bool.or_eq_true, decide_eq_true_eq] at hc
        refine s_par_tup s hf h1 h2 h3 h4 ?_
        rcases hc with (hc | hc) | hc
        · exact sw_cell s (List.mem_cons_self ..) hc
        · exact sw_cell s (List.mem_cons_of_mem _ (List.mem_cons_self ..)) hc
        · exact sw_cell s (List.mem_cons_of_mem _ (List.mem_cons_of_mem _ (List.mem_cons_self ..))) hc
      · cases h5
  · split at h5
    · rename_i hc
      simp only [Bool.and_eq_true, decide_eq_true_eq] at hc
      exact s_par_tup s hf h1 h2 h3 h4 (sw_len hc.1 hc.2)
    · cases h5
theorem sw_unp {ns : List Expr} {a : Expr} {kt : Nat} {pt : Pos} {env : PySem.Env} (h : isTup a = false) : swappedStores [.Tuple ns kt pt] a env = pure none := by
  cases a <;> first | rfl | cases h
theorem sw_sub {o i a : Expr} {p : Pos} {env : PySem.Env} : swappedStores [.Subscript o i p] a env = pure none := by
  cases a <;> rfl
theorem assign_sub {o i : Expr} {pos : Pos} {env : PySem.Env} (h : nsl i = true) : ∀ v, assign (.Subscript o i pos) env v = (do let ov ← holding [v] (eval o env); let iv ← holding [v, ov] (eval i env); standAt pos; holding [v, ov, iv] (setItem ov iv v); release [v, ov, iv] []) := by
  intro v
  cases i <;> first | rfl | cases h
theorem few1 {a : Expr} {env : PySem.Env} {cp : Pos} (n : nst a = true) : ((backTo cp (starEach [a] env)).all (fun x => !x.1) && (backToKw cp (keywordEach [] env)).all (fun x => x.1.isSome) && decide (([a] : List Expr).length + ([] : List Keyword).length + (if ([] : List Keyword).isEmpty then 0 else 1) < 30)) = true := by
  rw [starEach_cons n]; rfl

theorem s_unp (s : SX k Φ X sc) (hf : ∀ x, X.fn x = true) {is : List Nat} {e : E F} {ns : List Expr} {kt : Nat} {pt pos : Pos} {a : Expr} (h1 : stAll k true [] sc is ns = true) (h2 : ∀ i ∈ is, i ∉ Z) (h3 : chkE k e sc a = true) (h4 : ncmp a = true) (h5 : isTup a = false) :
    PS X (.Assign [.Tuple ns kt pt] a pos) (tS X Z (fUnp is (evE Φ e))) := by
  obtain ⟨b1, b, c, d⟩ := stAll_pg s (fnT s hf) h1
  exact PSimp (ps_asg (sndE e s h3).pe (pg_tl s.ctx.calm b1 b c) (by unfold swapsWithSole; exact swaps_no h4) (sw_unp h5) rfl) fun D σ H q => unp_go h2 q
theorem s_app (s : SX k Φ X sc) {i : Nat} {e : E F} {x : Str} {px ap cp pos : Pos} {a : Expr} (h1 : locB k sc i x = true) (h2 : nst a = true) (h3 : chkE k e sc a = true) (h4 : (ap.endLine == cp.line) = true) :
    PS X (.Expr (.Call (.Attribute (.Name x px) "append" ap) [a] [] cp) pos) (tS X Z (fApp i (evE Φ e))) := by
  obtain ⟨l1, l2, l3, l4⟩ := loc_of s h1
  exact PSimp (ps_expr (pe_bm PySem.F.plainAttrs_list PySem.F.slot_list_append PySem.F.type_list_append mt_append (pe_var l1 l2 l3 l4) (pa_cons (sndE e s h3).pe pa_nil (starEach_cons h2)) rfl (few1 h2) h4 (starEach_cons h2) rfl) rfl) fun D σ H q => app_go q
theorem s_sto (s : SX k Φ X sc) {i : Nat} {ke e : E F} {x : Str} {px p pos : Pos} {y a : Expr} (h1 : locB k sc i x = true) (h2 : nsl y = true) (h3 : chkE k ke sc y = true) (h4 : chkE k e sc a = true) (h5 : ncmp a = true) :
    PS X (.Assign [.Subscript (.Name x px) y p] a pos) (tS X Z (fSto i (evE Φ ke) (evE Φ e))) := by
  obtain ⟨l1, l2, l3, l4⟩ := loc_of s h1
  exact PSimp (ps_asg (sndE e s h4).pe (pg_sub (pe_var l1 l2 l3 l4) (sndE ke s h3).pe (set_any (by have := s.ctx.room; omega)) (assign_sub h2)) (by unfold swapsWithSole; exact swaps_no h5) sw_sub rfl) fun D σ H q => sto_go q
theorem s_clr (s : SX k Φ X sc) {i : Nat} {x : Str} {px ap cp pos : Pos} (h1 : locB k sc i x = true) (h4 : (ap.endLine == cp.line) = true) :
    PS X (.Expr (.Call (.Attribute (.Name x px) "clear" ap) [] [] cp) pos) (tS X Z (fClr i)) := by
  obtain ⟨l1, l2, l3, l4⟩ := loc_of s h1
  exact PSimp (ps_expr (e_clr l1 l2 l3 l4 h4) rfl) fun D σ H q => clr_go q
theorem s_aug (s : SX k Φ X sc) (hf : ∀ x, X.fn x = true) {i : Nat} {e : E F} {x : Str} {px pos : Pos} {a : Expr} (h1 : stB k true [] sc i x = true) (h2 : i ∉ Z) (h3 : chkE k e sc a = true) : PS X (.AugAssign (.Name x px) .Add a pos) (tS X Z (fAug i (evE Φ e))) := by
  obtain ⟨g1, g2, g3⟩ := stB_of s (fnT s hf) h1
  exact PSimp (ps_aug s.ctx.nd g1 g2 (sndE e s h3).pe ip_add g3) fun D σ H q => aug_go h2 q
theorem s_whl (s : SX k Φ X sc) {c : E F} {x : Expr} {y : List Stmt} {pos : Pos} {f : Env → Option Out} (h1 : nif x = true) (h2 : chkE k c sc x = true) (hb : PSs X y (tS X Z f)) : PS X (.While x y [] pos) (tS X Z (whlL (fun ρ => evTest Φ c ρ) f W)) :=
  PSimp (ps_while (by rw [s.ctx.xe]; exact PassesOwn.never) ((sndE c s h2).pt h1) hb) fun D σ H q => whl_go q
theorem s_for (s : SX k Φ X sc) (hf : ∀ x, X.fn x = true) {tg : Tg} {it : I F} {t a : Expr} {y : List Stmt} {pos : Pos} {f : Env → Option Out} (h1 : tgB k true [] sc tg t = true) (h2 : ∀ i ∈ tg.ix, i ∉ Z) (h3 : chkI k it sc t a = true) (h4 : nset a = true) (hb : PSs X y (tS X Z f)) : PS X (.For t a y [] pos) (tS X Z (fFor tg (evI Φ it) f)) :=
  PSimp (ps_for (by rw [s.ctx.xe]; exact PassesOwn.never) s.ctx.calm (sndI it s h3) (tg_pg s (fnT s hf) h1) hb (nset_ok h4)) fun D σ H q => for_go h2 q
theorem s_cont {pos : Pos} : PS X (.Continue pos) (tS X Z fun ρ => some (.ct ρ)) := by
  refine PSimp ps_continue fun D σ H q => ?_
  obtain ⟨F0, ρ, o, S, e, kk⟩ := q
  cases e
  exact kk σ H (.refl S)
set_option maxRecDepth 1000000 in
mutual
theorem sndS : ∀ (c : C F) (s : SX k Φ X sc) (hf : ∀ x, X.fn x = true) {st : Stmt}, chkS k Z sc c st = true → PS X st (tS X Z (evS Φ W c))
  | .expr e, s, hf, st, h => by
    cases st with
    | Expr a p =>
      have h : (ncmp a && chkE k e sc a) = true := h
      rw [Bool.and_eq_true] at h
      exact s_expr (sndE e s h.2).pe h.1
    | _ => cases h
  | .set i e, s, hf, st, h => by
    unfold chkS at h
    split at h
    · simp only [Bool.and_eq_true, decide_eq_true_eq] at h
      exact s_set s hf h.1.1.1 h.1.1.2 h.1.2 h.2
    · cases h
  | .setO i e, s, hf, st, h => by
    unfold chkS at h
    split at h
    · simp only [Bool.and_eq_true, decide_eq_true_eq] at h
      exact s_set s hf h.1.1.1 h.1.1.2 h.1.2 h.2
    · cases h
  | .par ts es, s, hf, st, h => by
    unfold chkS at h
    split at h
    · simp only [Bool.and_eq_true, decide_eq_true_eq, List.all_eq_true] at h
      exact s_par s hf h.1.1.1.1 h.1.1.1.2 h.1.1.2 h.1.2 h.2
    · cases h
  | .unp is e, s, hf, st, h => by
    unfold chkS at h
    split at h
    · simp only [Bool.and_eq_true, decide_eq_true_eq, List.all_eq_true, Bool.not_eq_true'] at h
      exact s_unp s hf h.1.1.1.1 h.1.1.1.2 h.1.1.2 h.1.2 h.2
    · cases h
  | .app i e, s, hf, st, h => by
    unfold chkS at h
    split at h
    · simp only [Bool.and_eq_true, decide_eq_true_eq] at h
      obtain ⟨⟨⟨⟨rfl, h1⟩, h2⟩, h3⟩, h4⟩ := h
      exact s_app s h1 h2 h3 h4
    · cases h
  | .sto i ke e, s, hf, st, h => by
    unfold chkS at h
    split at h
    · simp only [Bool.and_eq_true, decide_eq_true_eq] at h
      obtain ⟨⟨⟨⟨h1, h2⟩, h3⟩, h4⟩, h5⟩ := h
      exact s_sto s h1 h2 h3 h4 h5
    · cases h
  | .clr i, s, hf, st, h => by
    unfold chkS at h
    split at h
    · simp only [Bool.and_eq_true, decide_eq_true_eq] at h
      obtain ⟨⟨rfl, h1⟩, h2⟩ := h
      exact s_clr s h1 h2
    · cases h
  | .aug i e, s, hf, st, h => by
    unfold chkS at h
    split at h
    · simp only [Bool.and_eq_true, decide_eq_true_eq] at h
      obtain ⟨⟨h1, h2⟩, h3⟩ := h
      exact s_aug s hf h1 h2 h3
    · cases h
  | .ite c a b, s, hf, st, h => by
    unfold chkS at h
    split at h
    · simp only [Bool.and_eq_true] at h
      obtain ⟨⟨⟨h1, h2⟩, h3⟩, h4⟩ := h
      exact PSimp (ps_if ((sndE c s h2).pt h1) (sndB a s hf h3) (sndB b s hf h4)) fun D σ H q => if_go q
    · cases h
  | .whl c b, s, hf, st, h => by
    unfold chkS at h
    split at h
    · simp only [Bool.and_eq_true] at h
      obtain ⟨⟨h1, h2⟩, h3⟩ := h
      exact s_whl s h1 h2 (sndB b s hf h3)
    · cases h
  | .for tg it b, s, hf, st, h => by
    unfold chkS at h
    split at h
    · simp only [Bool.and_eq_true, List.all_eq_true, decide_eq_true_eq] at h
      obtain ⟨⟨⟨⟨h1, h2⟩, h3⟩, h4⟩, h5⟩ := h
      exact s_for s hf h1 h2 h3 h4 (sndB b s hf h5)
    · cases h
  | .ret e, s, hf, st, h => by
    unfold chkS at h
    split at h
    · exact PSimp (ps_ret (sndE e s h).pe) fun D σ H q => ret_go q
    · cases h
  | .cont, s, hf, st, h => by
    unfold chkS at h
    split at h
    · exact s_cont
    · cases h
theorem sndB : ∀ (c : Cs F) (s : SX k Φ X sc) (hf : ∀ x, X.fn x = true) {l : List Stmt}, chkB k Z sc c l = true → PSs X l (tS X Z (evB Φ W c))
  | .nil, s, hf, l, h => by
    cases l with
    | nil => exact b_nil
    | cons => cases h
  | .cons c cs, s, hf, l, h => by
    cases l with
    | nil => cases h
    | cons x xs =>
      have h : (chkS k Z sc c x && chkB k Z sc cs xs) = true := h
      rw [Bool.and_eq_true] at h
      exact b_cons (sndS c s hf h.1) (sndB cs s hf h.2)
end
end
end SP

/-! SpFin: defs, levels, the law. -/
namespace SP
open PySem PySem.W PyProof.Rows L2 PySem.SeqAt

/-! ### the slots of a body -/
theorem slot_app {a b : Env} {j : Nat} {s : Sl} (hb : ∀ i, slot b i = none) (h : slot (a ++ b) j = some s) : slot a j = some s := by
  unfold slot at h ⊢
  by_cases hj : j < a.length
  · rw [List.getElem?_append_left hj] at h; exact h
  · rw [List.getElem?_append_right (by omega)] at h
    exact absurd h (by have := hb (j - a.length); unfold slot at this; rw [this]; simp)
theorem slot_app' {a b : Env} {j : Nat} {s : Sl} (h : slot a j = some s) : slot (a ++ b) j = some s := by
  have hj := slot_lt h
  unfold slot at h ⊢
  rw [List.getElem?_append_left hj]; exact h
theorem slot_rep (n : Nat) (i : Nat) : slot (List.replicate n none) i = none := by
  unfold slot
  rw [List.getElem?_replicate]
  split <;> rfl
section
variable {w : World} {K : Frag} {F F' : ASet} {H H' : Hp}
theorem pad_at {σ : L2.St} {τ : L2.St} {j : Nat} (hj : j < σ.length) : (σ ++ τ)[j]? = σ[j]? := List.getElem?_append_left hj
theorem own_pad {ρ : Env} {σ τ : L2.St} {n : Nat} (hl : ρ.length = σ.length) {a : Addr} : Own (ρ ++ List.replicate n none) (σ ++ τ) a ↔ Own ρ σ a := by
  constructor
  · rintro ⟨j, m, h, e⟩
    have h' := slot_app (slot_rep n) h
    rw [pad_at (by rw [← hl]; exact slot_lt h')] at e
    exact ⟨j, m, h', e⟩
  · rintro ⟨j, m, h, e⟩
    exact ⟨j, m, slot_app' h, by rw [pad_at (by rw [← hl]; exact slot_lt h)]; exact e⟩
theorem SR.pad {ρ : Env} {σ τ : L2.St} {n : Nat} (S : SR w K F ρ σ H) (ht : τ.length = n) : SR w K F (ρ ++ List.replicate n none) (σ ++ τ) H := by
  have sb : ∀ a, Bar F (ρ ++ List.replicate n none) (σ ++ τ) a → H a ≠ none → Bar F ρ σ a := fun a z _ => z.elim .inl fun z => .inr ((own_pad S.len).mp z)
  refine ⟨by simp [S.len, ht], S.ft, fun j d h => ?_, fun j m h => ?_, fun i j m n' a h1 h2 e1 e2 => ?_⟩
  · have h' := slot_app (slot_rep n) h
    obtain ⟨v, e, r⟩ := S.dat j d h'
    exact ⟨v, by rw [pad_at (by rw [← S.len]; exact slot_lt h')]; exact e, r.bar sb⟩
  · have h' := slot_app (slot_rep n) h
    obtain ⟨a, e, nf, c⟩ := S.own j m h'
    exact ⟨a, by rw [pad_at (by rw [← S.len]; exact slot_lt h')]; exact e, nf, c.bar sb⟩
  · have h1' := slot_app (slot_rep n) h1
    have h2' := slot_app (slot_rep n) h2
    rw [pad_at (by rw [← S.len]; exact slot_lt h1')] at e1
    rw [pad_at (by rw [← S.len]; exact slot_lt h2')] at e2
    exact S.inj i j m n' a h1' h2' e1 e2
theorem outs_at {ρ : Env} : ∀ {ss : List Sl} {i : Nat} {ms : List MO}, outs ρ i ss = some ms → ∀ (j : Nat) (t : Sl), (back ss ms)[j]? = some t →
    (∀ d, t = .dat d → ss[j]? = some (.dat d)) ∧ ∀ m', t = .own m' → (∃ m, ss[j]? = some (.own m)) ∧ slot ρ (i + j) = some (.own m')
  | [], i, ms, h, j, t, e => by simp [back] at e
  | .dat d :: ss, i, ms, h, j, t, e => by
    cases j with
    | zero =>
      simp [back] at e; subst e
      exact ⟨fun d' z => (by cases z; rfl), fun m' z => (by cases z)⟩
    | succ j =>
      obtain ⟨a, b⟩ := outs_at (ss := ss) (i := i + 1) h j t (by simpa [back] using e)
      exact ⟨fun d z => by simpa using a d z, fun m' z => by
        obtain ⟨q1, q2⟩ := b m' z
        rw [show i + (j + 1) = i + 1 + j by omega]
        exact ⟨by simpa using q1, q2⟩⟩
  | .own m0 :: ss, i, ms, h, j, t, e => by
    simp only [outs] at h
    split at h
    · rename_i m hs
      obtain ⟨ms', h', rfl⟩ := Option.map_eq_some_iff.mp h
      cases j with
      | zero =>
        simp [back] at e; subst e
        exact ⟨fun d' z => (by cases z), fun m' z => (by cases z; exact ⟨⟨m0, rfl⟩, hs⟩)⟩
      | succ j =>
        obtain ⟨a, b⟩ := outs_at (ss := ss) (i := i + 1) h' j t (by simpa [back] using e)
        exact ⟨fun d z => by simpa using a d z, fun m' z => by
          obtain ⟨q1, q2⟩ := b m' z
          rw [show i + (j + 1) = i + 1 + j by omega]
          exact ⟨by simpa using q1, q2⟩⟩
    · cases h
theorem outs_own {ρ : Env} {ss : List Sl} {ms : List MO} (h : outs ρ 0 ss = some ms) {j : Nat} {m : MO} (e : ss[j]? = some (.own m)) : ∃ m', (back ss ms)[j]? = some (.own m') ∧ slot ρ j = some (.own m') := by
  have hl : j < (back ss ms).length := by rw [back_len]; exact (List.getElem?_eq_some_iff.mp e).1
  obtain ⟨a, b⟩ := outs_at h j _ (List.getElem?_eq_getElem hl)
  cases q : (back ss ms)[j] with
  | dat d =>
    have := a d q
    rw [e] at this; cases this
  | own m' =>
    obtain ⟨_, z⟩ := b m' q
    rw [Nat.zero_add] at z
    exact ⟨m', by rw [List.getElem?_eq_getElem hl, q], z⟩
/-- behind the body: what the caller gets -/
theorem fin_post {Z : List Nat} {ss : List Sl} {vs : List V} {n : Nat} {τ : L2.St} {s : Sl} {ms : List MO} {σ' : L2.St} {ρ' : Env} {v : V} (S : SR w K F (ss.map some) (vs.map some) H) (ht : τ.length = n) (hz : ∀ (j : Nat) (m : MO), ss[j]? = some (.own m) → j ∈ Z)
    (P : RStep w K Z F (vs.map some ++ τ) (ss.map some ++ List.replicate n none) H s σ' ρ' H' F' v) (ho : outs ρ' 0 ss = some ms) : EPost w K (vs.map some) F (ss.map some) H s.res ((back ss ms).map some) v H' F' := by
  have hl : ss.length = vs.length := by simpa using S.len
  have op : ∀ {a : Addr}, Own (ss.map some ++ List.replicate n none) (vs.map some ++ τ) a ↔ Own (ss.map some) (vs.map some) a := fun {a} => own_pad S.len
  -- an owned parameter keeps its object
  have at' : ∀ {j : Nat} {m : MO}, ss[j]? = some (.own m) → σ'[j]? = (vs.map some)[j]? := fun {j m} e => by
    rw [P.fix j (hz j m e), pad_at (by rw [List.length_map, ← hl]; exact (List.getElem?_eq_some_iff.mp e).1)]
  have bo : ∀ x, Own ((back ss ms).map some) (vs.map some) x → Own ρ' σ' x ∧ Own (ss.map some) (vs.map some) x := fun x ⟨j, m', h, e⟩ => by
    obtain ⟨⟨m, q1⟩, q2⟩ := (outs_at ho j _ (sl_map h)).2 m' rfl
    rw [Nat.zero_add] at q2
    exact ⟨⟨j, m', q2, by rw [at' q1]; exact e⟩, ⟨j, m, sl_map' q1, e⟩⟩
  have ob : ∀ x, Own (ss.map some) (vs.map some) x → Own ρ' σ' x := fun x ⟨j, m, h, e⟩ => by
    obtain ⟨m', q1, q2⟩ := outs_own ho (sl_map h)
    exact ⟨j, m', q2, by rw [at' (sl_map h)]; exact e⟩
  have nF : ∀ x, Own (ss.map some) (vs.map some) x → ¬ F' x := fun x o => (P.sr.own_some (ob x o)).2
  have sbE : ∀ x, Bar F' ((back ss ms).map some) (vs.map some) x → H' x ≠ none → Bar F' ρ' σ' x := fun x z _ => z.elim .inl fun z => .inr (bo x z).1
  have kp : Keep (Own (ss.map some) (vs.map some)) H H' := P.keep.mono fun x z => op.mp z
  have new' : ∀ x, F' x → F x ∨ H x = none := fun x z => by
    rcases P.new x z with q | q | q
    · exact .inl q
    · exact absurd z (nF x (op.mp q))
    · exact .inr q
  have sb0 : ∀ x, (Bar F' ((back ss ms).map some) (vs.map some) x ∨ Own (ss.map some) (vs.map some) x) → H x ≠ none → Bar F (ss.map some) (vs.map some) x := fun x z n => by
    rcases z with (z | z) | z
    · rcases new' x z with q | q
      · exact .inl q
      · exact absurd q n
    · exact .inr (bo x z).2
    · exact .inr z
  have S' : SR w K F' ((back ss ms).map some) (vs.map some) H' := by
    refine ⟨by simp [back_len, hl], P.sr.ft, fun j d h => ?_, fun j m h => ?_, fun i j m m2 a h1 h2 e1 e2 => ?_⟩
    · have q := (outs_at ho j _ (sl_map h)).1 d rfl
      obtain ⟨u, e, r⟩ := S.dat j d (sl_map' q)
      exact ⟨u, e, keepR kp sb0 r⟩
    · obtain ⟨⟨m0, q1⟩, q2⟩ := (outs_at ho j _ (sl_map h)).2 m rfl
      rw [Nat.zero_add] at q2
      obtain ⟨a, e, nf, c⟩ := P.sr.own j m q2
      rw [at' q1] at e
      exact ⟨a, e, nf, c.bar sbE⟩
    · obtain ⟨⟨m0, q1⟩, _⟩ := (outs_at ho i _ (sl_map h1)).2 m rfl
      obtain ⟨⟨m1, q2⟩, _⟩ := (outs_at ho j _ (sl_map h2)).2 m2 rfl
      exact S.inj i j m0 m1 a (sl_map' q1) (sl_map' q2) e1 e2
  refine ⟨⟨P.sub, new', S', kp, fun x z => (bo x z).2⟩, ?_, fun m e => ?_⟩
  · cases s with
    | dat d => exact (show Rep w K _ H' v d from P.tmp).bar sbE
    | own m =>
      obtain ⟨a, e, fa, c⟩ := (show Tmp w K _ _ _ _ v (.new m) from P.tmp)
      exact ⟨a, e, fa, c.bar sbE⟩
  · cases s with
    | dat d => cases e
    | own m' =>
      obtain ⟨a, e1, fa, c⟩ := (show Tmp w K _ _ _ _ v (.new m') from P.tmp)
      obtain ⟨b, e2, q⟩ := P.fresh m' rfl
      rw [e1] at e2; cases e2
      rcases q with q | q
      · exact absurd fa (nF a (op.mp q))
      · exact ⟨a, e1, q⟩
end

/-! ### a def -/
section
variable {F : Type} {P : Program} {w : World} {K : Frag} {mg : Str → Option Value} {base : Heap}
/-- what a def's text is looked at for -/
def chkD (k : Ck F) (d : Def F) (ps : List Str) (st : Stmt) : Bool :=
  decide (d.ps = ps.length) && decide (d.ns = k.N.length) && C8.scC k.N ps (C8.fnScope st) && chkB k d.refs (C8.fnScope st).names d.body (C8.fnBody st)
structure Mgs (k : Ck F) (w : World) (K : Frag) (mg : Str → Option Value) : Prop where
  mg0 : ∀ b : Blt, mg b.nm = none
  mgT : ∀ t : Ty, mg t.nm = none
  mgI : mg "isinstance" = none
  mgR : mg "range" = none
  mgE : mg "enumerate" = none
  mgZ : mg "zip" = none
  con : ∀ x d, k.con.lookup x = some d → ∃ v u, mg x = some u ∧ RelV v u ∧ ∀ G H, Rep w K G H v d
theorem runD_len {Φ : F → List Sl → Option (Sl × List MO)} {d : Def F} {ss : List Sl} {r : Sl × List MO} (h : runD Φ d ss = some r) : ss.length = d.ps ∧ d.ps ≤ d.ns ∧ ∀ (j : Nat) (m : MO), ss[j]? = some (.own m) → j ∈ d.refs := by
  unfold runD at h
  split at h
  · rename_i hc
    refine ⟨hc.1, hc.2.1, fun j m e => hc.2.2 j (List.mem_range.mpr (List.getElem?_eq_some_iff.mp e).1) (by rw [e]; rfl)⟩
  · cases h
theorem g_def {k : Ck F} {Φ : F → List Sl → Option (Sl × List MO)} {n : Nat} {x : Str} {st : Stmt} {f : Addr} {fd : FuncData} {ps : List Str} {d : Def F} (Fn : C8.Fun K x x st f fd) (hd : chkD k d ps st = true) (M : Mgs k w K mg) (hs : ∃ o, base.get? sysModules = some o)
    (call : ∀ f, ∃ (a : Addr) (fd : FuncData) (ps : List Str), FnG P w K mg base n (Φ f) a fd ps ∧ Binds K fd ps [] ∧ mg (k.nm f) = some (.ref a) ∧ keepIn K (.ref a) = true) : FnG P w K mg base (n + 1) (runD Φ d) f fd ps := by
  simp only [chkD, Bool.and_eq_true, decide_eq_true_eq] at hd
  obtain ⟨⟨⟨h1, h2⟩, h3⟩, h4⟩ := hd
  have S := C8.fnScope_by h3
  refine g_of Fn S (fun ss r h => (runD_len h).1.trans h1) fun cdv A outer s H vs Q hr hg hl hp => ?_
  let X := (cxOf C8.CX0 P w K mg base k.N x (C8.fnScope st) f cdv A outer s H C8.E0).nox
  have sx : SX k Φ X (C8.fnScope st).names := ⟨⟨rfl, hg, by have := hr.un; show (A.deeper _).units + 200 < cLine; omega, rfl, S.nd, hs⟩, rfl, rfl, S.kind, M.mg0, M.mgT, M.mgI, M.mgR, M.mgE, M.mgZ, M.con, fun f' => by
    obtain ⟨a, fd', ps', g1, g2, g3, g4⟩ := call f'
    exact ⟨n, a, fd', ps', g1, hr, g2, g3, g4⟩⟩
  refine ⟨_, sndB (W := wMax) d.body sx (fun _ => rfl) h4, ?_⟩
  obtain ⟨F0, ss, sr, ms, SS, e, q⟩ := hp
  obtain ⟨e1, e2, e3⟩ := runD_len e
  unfold runD at e
  split at e
  · obtain ⟨o, eo, e⟩ := Option.bind_eq_some_iff.mp e
    have hlen : ss.length = vs.length := by simpa using SS.len
    have hn : k.N.length - vs.length = d.ns - d.ps := by rw [← h2, ← hlen, e1]
    have ht : (List.replicate (k.N.length - vs.length) (none : Option V)).length = d.ns - d.ps := by rw [List.length_replicate, hn]
    refine ⟨F0, _, o, SS.pad ht, eo, ?_⟩
    cases o with
    | nx ρ' =>
      obtain ⟨ms', hm, e⟩ := Option.map_eq_some_iff.mp e
      cases e
      intro σ' H' a
      refine q .non H' F0 (fin_post (Z := d.refs) SS ht e3 ⟨a.sr, fun _ z => z, fun x z => .inl z, a.keep, a.own, a.fix, .non, nofun⟩ hm)
    | ct ρ' => cases e
    | rt s' ρ' =>
      obtain ⟨ms', hm, e⟩ := Option.map_eq_some_iff.mp e
      cases e
      intro v σ' H' F' a
      exact q v H' F' (fin_post (Z := d.refs) SS ht e3 a hm)
  · cases e
/-- a def of the module -/
structure AtD (K : Frag) (mg : Str → Option Value) (x : Str) (st : Stmt) (ps : List Str) (a : Addr) (fd : FuncData) : Prop where
  fn : C8.Fun K x x st a fd
  mgf : mg x = some (.ref a)
  kp : keepIn K (.ref a) = true
  bn : Binds K fd ps []
theorem all_g {k : F → Ck F} {T : F → Def F} {st : F → Stmt} {ps : F → List Str} {nm : F → Str} {con : List (Str × D)} (hk : ∀ f, (k f).nm = nm ∧ (k f).con = con) (hd : ∀ f, chkD (k f) (T f) (ps f) (st f) = true) (M : ∀ f, Mgs (k f) w K mg) (hs : ∃ o, base.get? sysModules = some o)
    (at_ : ∀ f, ∃ a fd, AtD K mg (nm f) (st f) (ps f) a fd) : ∀ n f, ∃ a fd, AtD K mg (nm f) (st f) (ps f) a fd ∧ FnG P w K mg base n (evF T n f) a fd (ps f)
  | 0, f => by
    obtain ⟨a, fd, h⟩ := at_ f
    refine ⟨a, fd, h, fun ss r z => (by cases z), fun A outer s H args us vs Q hr hg e0 hb r hp => ?_⟩
    obtain ⟨F0, ss, sr, ms, _, e, _⟩ := hp
    cases e
  | n + 1, f => by
    obtain ⟨a, fd, h⟩ := at_ f
    refine ⟨a, fd, h, g_def (k := k f) h.fn (hd f) (M f) hs fun f' => ?_⟩
    obtain ⟨a', fd', h', g⟩ := all_g hk hd M hs at_ n f'
    exact ⟨a', fd', ps f', g, h'.bn, by rw [(hk f).1]; exact h'.mgf, h'.kp⟩
end
end SP

/-! SpEnd: the head of a law. -/
namespace SP
open PySem PySem.W PyProof.Rows L2 PySem.SeqAt

/-- the module holds no list of its own -/
def noList (K : Frag) : Bool := K.all fun p => match p.2.cls with
  | .type n => !(n == "list")
  | _ => true
theorem noList_at {K : Frag} (h : noList K = true) {a : Addr} {o : Obj} (e : K.lookup a = some o) : o.cls ≠ .type "list" := by
  intro z
  have hm : (a, o) ∈ K := by
    induction K with
    | nil => cases e
    | cons p r ih =>
      obtain ⟨b, x⟩ := p
      simp only [List.lookup] at e
      split at e
      · rename_i q
        cases e
        rw [beq_iff_eq.mp q]; exact List.mem_cons_self ..
      · exact List.mem_cons_of_mem _ (ih (by simp only [noList, List.all_cons, Bool.and_eq_true] at h; exact h.2) e)
  have := List.all_eq_true.mp h _ hm
  rw [z] at this
  simp at this
theorem rep_ints {w : World} {K : Frag} {G : ASet} {H : Hp} : ∀ ns : List Int, RepL w K G H (ns.map V.int) (ns.map PyData.int)
  | [] => .nil
  | n :: r => .cons (.int n) (rep_ints r)
theorem law_callS {P : Program} {w : World} {K : Frag} {mg mb : Str → Option Value} {k : Nat} {fa a : Addr} {fd : FuncData} {x : Str} {fn : List Sl → Option (Sl × List MO)} {s₁ : Shared} {vs : List Value} {ns : List Int}
    (KX : K.In s₁.heap) (hns : s₁.heap.Ns mainGlobals mg) (hb : s₁.heap.Ns builtinsNs mb) (hbb : ∀ x : Str, x ≠ "__name__" → mb x = bootBuiltins x) (hlim : s₁.heap.NoLimit) (hseer : s₁.heap.NoSeer) (hg : s₁.gens = #[])
    (ha : s₁.heap.get? a = some { cls := .type "list", data := .seq vs.toArray }) (hi : IntsAre vs ns) (hl : ns.length ≤ sizeLine) (hr : Room k callerA) (hK : noList K = true)
    (F : ∀ base : Heap, K.In base → base.Ns mainGlobals mg → (∃ o, base.get? sysModules = some o) → FnG P w K mg base k fn fa fd [x]) (hbind : Binds K fd [x] [])
    (hlaw : ∃ ms, fn [.dat (.list (ns.map .int))] = some (.dat (.bool true), ms)) :
    codeAny (model P w) callerA (.call (.ref fa) ⟨[.ref a], []⟩) (fun r s' => r = .ok (.ret (.bool true)) ∧ OldK s₁.heap s'.heap ∧ s'.os = s₁.os ∧ AllBare s'.gens) s₁ := by
  have rv := vals_ints hi
  have hKa : K.lookup a = none := by
    cases q : K.lookup a with
    | none => rfl
    | some o =>
      have e := KX a o q
      rw [ha] at e
      cases e
      exact absurd rfl (noList_at hK q)
  let H : Hp := fun b => if b = a then some (.frz { cls := .type "list", data := .seq vs.toArray } (.lst (ns.map V.int))) else none
  have hHa : H a = some (.frz { cls := .type "list", data := .seq vs.toArray } (.lst (ns.map V.int))) := if_pos rfl
  have hHn : ∀ b, b ≠ a → H b = none := fun b q => if_neg q
  have hok : HOk P w H s₁.heap := fun b u z => by
    by_cases hb : b = a
    · subst hb
      rw [hHa] at z
      cases z
      exact ⟨ha, by rw [List.length_map]; exact hl, vs, _, rv, ha⟩
    · rw [hHn b hb] at z; cases z
  have noA : ∀ {b : Addr} {o : Obj} {es : Array DictEntry} {ep : Nat}, s₁.heap.get? b = some o → o.data = .dict es ep → H b = none := fun {b o es ep} e d => by
    by_cases hb : b = a
    · subst hb
      rw [ha] at e; cases e
      have d' : Data.seq vs.toArray _ = Data.dict es ep := d
      cases d'
    · exact hHn b hb
  have nsK : ∀ {b : Addr} {m : Str → Option Value}, s₁.heap.Ns b m → (hidT s₁.heap H).Ns b m := fun {b m} ⟨o, es, ep, e, d, r⟩ => ⟨o, es, ep, hidT_get e (noA e d), d, r⟩
  have hKb : K.In (hidT s₁.heap H) := fun b o e => hidT_get (KX b o e) (by
    by_cases hb : b = a
    · subst hb; rw [hKa] at e; cases e
    · exact hHn b hb)
  have hM : Mod K mg (hidT s₁.heap H) := ⟨hKb, nsK hns, ⟨mb, nsK hb, hbb⟩, let ⟨mc, h1, h2⟩ := hlim; ⟨mc, nsK h1, h2⟩⟩
  have hsys : ∃ o, (hidT s₁.heap H).get? sysModules = some o := by
    obtain ⟨mm, ns, _⟩ := hseer.mods
    obtain ⟨o, es, ep, e, _⟩ := nsK ns
    exact ⟨o, e⟩
  have e0 : Env0 P w K mg (hidT s₁.heap H) callerA [] s₁ H := ⟨rfl, hM, fun b o e => of_hidT e, Nat.le_of_eq (hidT_size _ _), trivial, fun b hb => absurd (show b ∈ ([] : List Addr) from hb) (by simp), hok, .of_eq hg⟩
  have hp : pr w K fn [.ref a] H (fun v _ => v = .bl true) := by
    obtain ⟨ms, e⟩ := hlaw
    refine ⟨fun _ => False, [.dat (.list (ns.map .int))], _, ms, ⟨rfl, fun _ z => z.elim, fun i d h => ?_, fun i m h => ?_, fun i j m n b h1 => ?_⟩, e, fun v H' F' P => ?_⟩
    · have h' := sl_map h
      cases i with
      | zero =>
        simp at h'; subst h'
        refine ⟨_, rfl, .list (fun z => ?_) (.inr ⟨_, hHa⟩) (rep_ints ns)⟩
        rcases z with z | ⟨j, m, h, _⟩
        · exact z
        · have h2 := sl_map h
          cases j with
          | zero => simp at h2
          | succ j => simp at h2
      | succ i => simp at h'
    · have h' := sl_map h
      cases i with
      | zero => simp at h'
      | succ i => simp at h'
    · have h' := sl_map h1
      cases i with
      | zero => simp at h'
      | succ i => simp at h'
    · exact (Top.rep P.tmp).bool_inv
  refine codeAny_mono ((F _ hKb (nsK hns) hsys).run callerA [] s₁ H ⟨[.ref a], []⟩ [.ref a] [.ref a] _ hr rfl e0 (hbind s₁ [.ref a] KX rfl) (.cons rfl .nil) hp) fun r s' h => ?_
  cases r with
  | error e => exact False.elim h
  | ok fl =>
    cases fl with
    | next => exact False.elim h
    | brk => exact False.elim h
    | cont => exact False.elim h
    | ret u =>
      obtain ⟨v, H', os, bare, un, hok', r', q⟩ := h
      have q' : v = .bl true := q
      subst q'
      obtain rfl : u = Value.bool true := r'
      refine ⟨rfl, OldK.of_keep fun b o e => ?_, os, bare⟩
      by_cases hb : b = a
      · subst hb
        have z2 := un.frzs b _ _ hHa
        obtain ⟨e1, _⟩ := hok b _ hHa
        obtain ⟨e2, _⟩ := hok' b _ z2
        rw [e] at e1; cases e1
        exact e2
      · exact un.keep b o e (hHn b hb) (by intro z; exact absurd (show b ∈ ([] : List Addr) from z) (by simp)) (by simp)
theorem walk_ofS {l : OpenLaw} {n k : Nat} {q : Program} {loose : List Str} {XP : (Str → Option Value) → Heap → Prop} {YP : World → Heap → Prop} {d : DefRec} {K : Params → Frag} {x : Str} {fn : List Sl → Option (Sl × List MO)}
    (hn : l.most = some n) (hn2 : n ≤ sizeLine) (hdf : d.params.defaults = []) (hr : Room k callerA) (hi : importsNone q = true)
    (hY : ∀ (w : World) (h : Heap), YP w h → (K w.params).In h) (hK : ∀ w : World, noList (K w.params) = true)
    (F : ∀ (w : World) (mg : Str → Option Value) (fa : Addr) (h : Heap), (K w.params).In h → h.Ns mainGlobals mg → mg d.name = some (.ref fa) →
      ∃ fd : FuncData, Binds (K w.params) fd [x] [] ∧
        ∀ base : Heap, (K w.params).In base → base.Ns mainGlobals mg → (∃ o, base.get? sysModules = some o) → FnG l.prog w (K w.params) mg base k fn fa fd [x])
    (hlaw : ∀ ns : List Int, ns.length ≤ n → ∃ ms, fn [.dat (.list (ns.map .int))] = some (.dat (.bool true), ms)) :
    WalkO q loose XP YP l.row.toRowW d [] (fun f vs => PySem.call f vs) := by
  refine Att.attach_call hn hdf fun w s₀ s₁ mg mb fa o pm cd doc a vs ns G Y ho hd hcd hmg hobj hints hlen hg => ?_
  have KX := hY w _ Y
  obtain ⟨fd, hb, hF⟩ := F w mg fa _ KX G.T.g hmg
  exact law_callS KX G.T.g G.T.b G.T.builtins G.T.nolimit (G.T.seer hi) hg hobj hints (Nat.le_trans hlen hn2) hr (hK w) hF hb (hlaw ns hlen)

theorem at_mk {K : Frag} {h : Heap} {mg : Str → Option Value} (X : K.In h) (G : h.Ns mainGlobals mg) {x : Str} {st : Stmt} {ps : List Str} {f : Addr} {od an : Option Addr} {sl : Array (Option Value)} {oc kV dc pm cd ct : Value}
    (hb : ∀ (kV doc pm : Value) (an : Option Addr) (cdv ct : Value) (us : List Value), us.length = ps.length → bindArgs (PySem.W.fnOf x x (C8.fnArgs st) (C8.fnBody st) (C8.fnScope st) .none kV doc pm an cdv ct) ⟨us, []⟩ = pure (ps.zip us))
    (a1 : nsIn K mainGlobals x = some (some (.ref f))) (l1 : K.lookup f = some ⟨oc, od, .func (fnOf x x (C8.fnArgs st) (C8.fnBody st) (C8.fnScope st) .none kV dc pm an cd ct), sl⟩) (c1 : codeIn K cd x = true) (k1 : keepIn K (.ref f) = true) :
    ∃ a fd, AtD K mg x st ps a fd :=
  ⟨f, _, ⟨⟨oc, od, .none, kV, dc, pm, an, cd, ct, sl, rfl, l1, c1⟩, mg_of X G a1, k1, .all (hb kV dc pm an cd ct)⟩⟩
/-- the built-ins' names, none of them the module's -/
def bltNames : List Str := ["len", "int", "repr", "tuple", "list", "sorted", "min", "max", "sum", "all", "any", "dict", "set", "bool", "str", "isinstance", "range", "enumerate", "zip"]
theorem mgs_mk {F : Type} {k : Ck F} {w : World} {K : Frag} {h : Heap} {mg : Str → Option Value} (X : K.In h) (G : h.Ns mainGlobals mg) (z : ∀ x ∈ bltNames, nsIn K mainGlobals x = some none)
    (con : ∀ x d, k.con.lookup x = some d → ∃ v u, mg x = some u ∧ RelV v u ∧ ∀ G H, Rep w K G H v d) : Mgs k w K mg := by
  have n : ∀ x ∈ bltNames, mg x = none := fun x hx => mg_none_of X G (z x hx)
  refine ⟨fun b => n _ ?_, fun t => n _ ?_, n _ ?_, n _ ?_, n _ ?_, n _ ?_, con⟩
  · cases b <;> simp [bltNames, Blt.nm]
  · cases t <;> simp [bltNames, Ty.nm]
  all_goals simp [bltNames]

theorem zs_mk {K : Frag} (z1 : nsIn K mainGlobals "len" = some none) (z2 : nsIn K mainGlobals "int" = some none) (z3 : nsIn K mainGlobals "repr" = some none) (z4 : nsIn K mainGlobals "tuple" = some none) (z5 : nsIn K mainGlobals "list" = some none) (z6 : nsIn K mainGlobals "sorted" = some none) (z7 : nsIn K mainGlobals "min" = some none)
    (z8 : nsIn K mainGlobals "max" = some none) (z9 : nsIn K mainGlobals "sum" = some none) (z10 : nsIn K mainGlobals "all" = some none) (z11 : nsIn K mainGlobals "any" = some none) (z12 : nsIn K mainGlobals "dict" = some none) (z13 : nsIn K mainGlobals "set" = some none) (z14 : nsIn K mainGlobals "bool" = some none)
    (z15 : nsIn K mainGlobals "str" = some none) (z16 : nsIn K mainGlobals "isinstance" = some none) (z17 : nsIn K mainGlobals "range" = some none) (z18 : nsIn K mainGlobals "enumerate" = some none) (z19 : nsIn K mainGlobals "zip" = some none) : ∀ x ∈ bltNames, nsIn K mainGlobals x = some none := by
  intro x hx
  simp only [bltNames, List.mem_cons, List.not_mem_nil, or_false] at hx
  rcases hx with rfl | rfl | rfl | rfl | rfl | rfl | rfl | rfl | rfl | rfl | rfl | rfl | rfl | rfl | rfl | rfl | rfl | rfl | rfl <;> assumption
def ConOk (w : World) (K : Frag) (mg : Str → Option Value) (con : List (Str × D)) : Prop := ∀ x d, con.lookup x = some d → ∃ v u, mg x = some u ∧ RelV v u ∧ ∀ G H, Rep w K G H v d
theorem con_nil {w : World} {K : Frag} {mg : Str → Option Value} : ConOk w K mg [] := fun x d h => by cases h
theorem con_cons {w : World} {K : Frag} {mg : Str → Option Value} {h : Heap} (X : K.In h) (G : h.Ns mainGlobals mg) {y : Str} {e : D} {con : List (Str × D)} {v : V} {u : Value} (c : ConOk w K mg con) (r : RelV v u) (q : ∀ G H, Rep w K G H v e) (a : nsIn K mainGlobals y = some (some u)) : ConOk w K mg ((y, e) :: con) := fun x d hx => by
  rw [List.lookup_cons] at hx
  split at hx
  · rename_i hb
    cases hx
    rw [beq_iff_eq.mp hb]
    exact ⟨v, u, mg_of X G a, r, q⟩
  · exact c x d hx

theorem con_int {w : World} {K : Frag} {mg : Str → Option Value} {h : Heap} (X : K.In h) (G : h.Ns mainGlobals mg) {y : Str} {i : Int} {t : Tok} {con : List (Str × D)} (c : ConOk w K mg con) (a : nsIn K mainGlobals y = some (some (.int i t))) : ConOk w K mg ((y, .int i) :: con) :=
  con_cons (v := .int i) X G c ⟨t, rfl⟩ (fun _ _ => .int i) a
theorem con_str {w : World} {K : Frag} {mg : Str → Option Value} {h : Heap} (X : K.In h) (G : h.Ns mainGlobals mg) {y : Str} {i : Str} {t : Tok} {con : List (Str × D)} (c : ConOk w K mg con) (a : nsIn K mainGlobals y = some (some (.str i t))) : ConOk w K mg ((y, .str i) :: con) :=
  con_cons (v := .str i) X G c ⟨t, rfl⟩ (fun _ _ => .str i) a
end SP

/-! SpEv: the evaluator's rows, for simp. -/
namespace SP
open PySem
/-- loops, their parts as terms -/
def turnsE {F : Type} (Φ : F → List Sl → Option (Sl × List MO)) (elt : E F) (cond : Es F) (tg : Tg) (own : List Nat) (ds : List D) (ρ : Env) : Option (List D × Env) := turns (fun ρ => evE Φ elt ρ) (fun ρ => evC Φ cond ρ) tg own ds ρ
def dcompE {F : Type} (Φ : F → List Sl → Option (Sl × List MO)) (ke ve : E F) (cond : Es F) (tg : Tg) (own : List Nat) (ds : List D) (m : MO) (ρ : Env) : Option (MO × Env) := turnsM (elD (fun ρ => evE Φ ke ρ) (fun ρ => evE Φ ve ρ)) (fun ρ => evC Φ cond ρ) tg own ds m ρ
def lcompE {F : Type} (Φ : F → List Sl → Option (Sl × List MO)) (elt : E F) (cond : Es F) (tg : Tg) (own : List Nat) (ds : List D) (m : MO) (ρ : Env) : Option (MO × Env) := turnsM (elL (fun ρ => evE Φ elt ρ)) (fun ρ => evC Φ cond ρ) tg own ds m ρ
def comp2E {F : Type} (Φ : F → List Sl → Option (Sl × List MO)) (elt : E F) (cond : Es F) (tg : Tg) (it1 : I F) (cond1 : Es F) (tg1 : Tg) (own own1 : List Nat) (ds : List D) (m : MO) (ρ : Env) : Option (MO × Env) :=
  turnsM (el2 (fun ρ => evI Φ it1 ρ) (elL (fun ρ => evE Φ elt ρ)) (fun ρ => evC Φ cond1 ρ) tg1 own1) (fun ρ => evC Φ cond ρ) tg own ds m ρ
def dcomp2E {F : Type} (Φ : F → List Sl → Option (Sl × List MO)) (ke ve : E F) (cond : Es F) (tg : Tg) (it1 : I F) (cond1 : Es F) (tg1 : Tg) (own own1 : List Nat) (ds : List D) (m : MO) (ρ : Env) : Option (MO × Env) :=
  turnsM (el2 (fun ρ => evI Φ it1 ρ) (elD (fun ρ => evE Φ ke ρ) (fun ρ => evE Φ ve ρ)) (fun ρ => evC Φ cond1 ρ) tg1 own1) (fun ρ => evC Φ cond ρ) tg own ds m ρ
def forE {F : Type} (Φ : F → List Sl → Option (Sl × List MO)) (W : Nat) (tg : Tg) (b : Cs F) (ds : List D) (ρ : Env) : Option Out := forL tg (fun ρ => evB Φ W b ρ) ds ρ
def whlE {F : Type} (Φ : F → List Sl → Option (Sl × List MO)) (W : Nat) (c : E F) (b : Cs F) (n : Nat) (ρ : Env) : Option Out := whlL (fun ρ => evTest Φ c ρ) (fun ρ => evB Φ W b ρ) n ρ
section
variable {F : Type} {Φ : F → List Sl → Option (Sl × List MO)} {ρ : Env} {W : Nat}
@[simp] theorem v_loc {i : Nat} : evE Φ (.loc i) ρ = match slot ρ i with | some (.dat d) => some (.dat d, ρ) | some (.own _) => some (.loc i, ρ) | none => none := (rfl)
@[simp] theorem v_cst {d : D} : evE Φ (.cst d) ρ = some (.dat d, ρ) := (rfl)
@[simp] theorem v_glo {d : D} : evE Φ (.glo d) ρ = some (.dat d, ρ) := (rfl)
@[simp] theorem v_bin {op : Operator} {a b : E F} : evE Φ (.bin op a b) ρ = (evE Φ a ρ).bind fun p => (evE Φ b p.2).bind fun q => (res q.2 p.1).bind fun x => (res q.2 q.1).bind fun y => (binD op x y).map fun s => (s.res, q.2) := (rfl)
@[simp] theorem v_neg {a : E F} : evE Φ (.neg a) ρ = (evE Φ a ρ).bind fun p => (res p.2 p.1).bind fun x => (intOf x).map fun i => (.dat (.int (-i)), p.2) := (rfl)
@[simp] theorem v_not {a : E F} : evE Φ (.not a) ρ = (evE Φ a ρ).bind fun p => (res p.2 p.1).bind fun x => (boolOf x).map fun b => (.dat (.bool (!b)), p.2) := (rfl)
@[simp] theorem v_and {a b : E F} : evE Φ (.and a b) ρ = (evE Φ a ρ).bind fun p => (res p.2 p.1).bind fun x => (boolOf x).bind fun k => match k with
      | true => (evE Φ b p.2).bind fun q => (res q.2 q.1).bind fun y => (boolOf y).map fun k2 => (.dat (.bool k2), q.2)
      | false => some (.dat (.bool false), p.2) := (rfl)
@[simp] theorem v_or {a b : E F} : evE Φ (.or a b) ρ = (evE Φ a ρ).bind fun p => (res p.2 p.1).bind fun x => (boolOf x).bind fun k => match k with
      | false => (evE Φ b p.2).bind fun q => (res q.2 q.1).bind fun y => (boolOf y).map fun k2 => (.dat (.bool k2), q.2)
      | true => some (.dat (.bool true), p.2) := (rfl)
@[simp] theorem v_cmp {op : CmpOp} {a b : E F} : evE Φ (.cmp op a b) ρ = (evE Φ a ρ).bind fun p => (evE Φ b p.2).bind fun q => (res q.2 p.1).bind fun x => (res q.2 q.1).bind fun y => (cmpD op x y).map fun k => (.dat (.bool k), q.2) := (rfl)
@[simp] theorem v_chain {op op' : CmpOp} {a b c : E F} : evE Φ (.chain op op' a b c) ρ = (evE Φ a ρ).bind fun p => (evE Φ b p.2).bind fun q => (res q.2 p.1).bind fun x => (res q.2 q.1).bind fun y => (cmpD op x y).bind fun k => match k with
        | false => some (.dat (.bool false), q.2)
        | true => (evE Φ c q.2).bind fun t => (res t.2 q.1).bind fun y => (res t.2 t.1).bind fun z => (cmpD op' y z).map fun k => (.dat (.bool k), t.2) := (rfl)
@[simp] theorem v_ite {c a b : E F} : evE Φ (.ite c a b) ρ = (evE Φ c ρ).bind fun p => (res p.2 p.1).bind fun x => (boolOf x).bind fun k => match k with | true => evE Φ a p.2 | false => evE Φ b p.2 := (rfl)
@[simp] theorem v_call {f : F} {as : Es F} : evE Φ (.call f as) ρ = (evA Φ as ρ).bind fun p => callE Φ f p.1 p.2 := (rfl)
@[simp] theorem v_blt {b : Blt} {as : Es F} : evE Φ (.blt b as) ρ = (evEs Φ as ρ).bind fun p => (ress p.2 p.1).bind fun ds => (bltD b ds).map fun s => (s.res, p.2) := (rfl)
@[simp] theorem v_isi {m : Bool} {tys : List Ty} {e : E F} : evE Φ (.isi m tys e) ρ = (evE Φ e ρ).bind fun p => (res p.2 p.1).map fun x => (.dat (.bool (tys.any (isTy x))), p.2) := (rfl)
@[simp] theorem v_rng {tup : Bool} {a b : E F} : evE Φ (.rng tup a b) ρ = (evE Φ a ρ).bind fun p => (evE Φ b p.2).bind fun q => (res q.2 p.1).bind fun x => (res q.2 q.1).bind fun y => (intOf x).bind fun i => (intOf y).bind fun j =>
        if okRng i j ∧ j - i ≤ szMax then some (if tup then .dat (.tuple (rngL i j)) else .new (.lst (rngL i j)), q.2) else none := (rfl)
@[simp] theorem v_mth {m : Mth} {o : E F} {as : Es F} : evE Φ (.mth m o as) ρ = (evE Φ o ρ).bind fun p => (res p.2 p.1).bind fun x0 => if mthOk m x0 then (evEs Φ as p.2).bind fun q => (res q.2 p.1).bind fun x => (ress q.2 q.1).bind fun ds => (mthD m x ds).map fun d => (.dat d, q.2) else none := (rfl)
@[simp] theorem v_tup {es : Es F} : evE Φ (.tup es) ρ = (evX Φ es ρ).bind fun p => if p.1.length ≤ szMax then some (.dat (.tuple p.1), p.2) else none := (rfl)
@[simp] theorem v_lst {es : Es F} : evE Φ (.lst es) ρ = (evX Φ es ρ).bind fun p => if p.1.length ≤ szMax then some (.new (.lst p.1), p.2) else none := (rfl)
@[simp] theorem v_idx {a b : E F} : evE Φ (.idx a b) ρ = (evE Φ a ρ).bind fun p => (evE Φ b p.2).bind fun q => (res q.2 p.1).bind fun x => (res q.2 q.1).bind fun y => (idxD x y).map fun d => (.dat d, q.2) := (rfl)
@[simp] theorem v_slc {a : E F} {lo hi : Option Int} {elo ehi : Es F} : evE Φ (.slc a lo hi elo ehi) ρ = (evE Φ a ρ).bind fun p => (evO Φ lo elo p.2).bind fun l => (evO Φ hi ehi l.2).bind fun h => (res h.2 p.1).bind fun x => (slcD x l.1 h.1).map fun s => (s.res, h.2) := (rfl)
@[simp] theorem v_rev {a : E F} : evE Φ (.rev a) ρ = (evE Φ a ρ).bind fun p => (res p.2 p.1).bind fun x => (revD x).map fun s => (s.res, p.2) := (rfl)
@[simp] theorem v_comp {elt : E F} {tg : Tg} {it : I F} {cond : Es F} {own : List Nat} : evE Φ (.comp elt tg it cond own) ρ = (evI Φ it ρ).bind fun p =>
      if own.all (fun v => !isOwn (slot p.2 v) && decide (v < p.2.length)) then
        (turnsE Φ elt cond tg own p.1 (wipeE p.2 own)).bind fun q => if q.1.length ≤ szMax then some (.new (.lst q.1), backE p.2 q.2 own) else none
      else none := (rfl)
@[simp] theorem v_dct0 : evE Φ .dct0 ρ = some (.new (.dct []), ρ) := (rfl)
@[simp] theorem v_dct1 {a b : E F} : evE Φ (.dct1 a b) ρ = (evE Φ a ρ).bind fun p => (esc p).bind fun x => (evE Φ b x.2).bind fun q => (esc q).bind fun y => (putF [] x.1 y.1).map fun kvs => (.new (.dct kvs), y.2) := (rfl)
@[simp] theorem v_dcomp {ke ve : E F} {tg : Tg} {it : I F} {cond : Es F} {own : List Nat} : evE Φ (.dcomp ke ve tg it cond own) ρ = (evI Φ it ρ).bind fun p =>
      if own.all (fun v => !isOwn (slot p.2 v) && decide (v < p.2.length)) then (dcompE Φ ke ve cond tg own p.1 (.dct []) (wipeE p.2 own)).map fun q => (.new q.1, backE p.2 q.2 own) else none := (rfl)
@[simp] theorem v_comp2 {elt : E F} {tg : Tg} {it : I F} {cond : Es F} {tg1 : Tg} {it1 : I F} {cond1 : Es F} {own own1 : List Nat} : evE Φ (.comp2 elt tg it cond tg1 it1 cond1 own own1) ρ = (evI Φ it ρ).bind fun p =>
      if own.all (fun v => !isOwn (slot p.2 v) && decide (v < p.2.length)) then (comp2E Φ elt cond tg it1 cond1 tg1 own own1 p.1 (.lst []) (wipeE p.2 own)).map fun q => (.new q.1, backE p.2 q.2 own) else none := (rfl)
@[simp] theorem v_dcomp2 {ke ve : E F} {tg : Tg} {it : I F} {cond : Es F} {tg1 : Tg} {it1 : I F} {cond1 : Es F} {own own1 : List Nat} : evE Φ (.dcomp2 ke ve tg it cond tg1 it1 cond1 own own1) ρ = (evI Φ it ρ).bind fun p =>
      if own.all (fun v => !isOwn (slot p.2 v) && decide (v < p.2.length)) then (dcomp2E Φ ke ve cond tg it1 cond1 tg1 own own1 p.1 (.dct []) (wipeE p.2 own)).map fun q => (.new q.1, backE p.2 q.2 own) else none := (rfl)
theorem v_compO {elt : E F} {tg : Tg} {i : Nat} {cond : Es F} {own : List Nat} {ds : List D} (h : slot ρ i = some (.own (.lst ds))) : evE Φ (.compO elt tg i cond own) ρ =
    (if own.all (fun v => !isOwn (slot (ρ.set i none) v) && decide (v < (ρ.set i none).length)) then (lcompE Φ elt cond tg own ds (.lst []) (wipeE (ρ.set i none) own)).map fun q => (.new q.1, (backE (ρ.set i none) q.2 own).set i (some (.own (.lst ds)))) else none) := by
  show compOwn _ _ tg i own ρ = _
  unfold compOwn
  rw [h]
  unfold compM
  dsimp only [Option.bind_some]
  by_cases hc : own.all (fun v => !isOwn (slot (ρ.set i none) v) && decide (v < (ρ.set i none).length)) = true
  · rw [if_pos hc, if_pos hc, Option.map_map]; rfl
  · rw [if_neg hc, if_neg hc]; rfl
@[simp] theorem v_es0 : evEs Φ .nil ρ = some ([], ρ) := (rfl)
@[simp] theorem v_es1 {e : E F} {es : Es F} : evEs Φ (.cons e es) ρ = (evE Φ e ρ).bind fun p => (evEs Φ es p.2).map fun q => (p.1 :: q.1, q.2) := (rfl)
@[simp] theorem v_a0 : evA Φ .nil ρ = some ([], ρ) := (rfl)
@[simp] theorem v_a1 {e : E F} {es : Es F} : evA Φ (.cons e es) ρ = (evE Φ e ρ).bind fun p => (evA Φ es p.2).map fun q => (.val p.1 :: q.1, q.2) := (rfl)
@[simp] theorem v_a2 {i : Nat} {es : Es F} : evA Φ (.ref i es) ρ = if isOwn (slot ρ i) = true then (evA Φ es ρ).map fun q => (.ref i :: q.1, q.2) else none := (rfl)
@[simp] theorem v_x0 : evX Φ .nil ρ = some ([], ρ) := (rfl)
@[simp] theorem v_x1 {e : E F} {es : Es F} : evX Φ (.cons e es) ρ = (evE Φ e ρ).bind fun p => (esc p).bind fun d => (evX Φ es d.2).map fun q => (d.1 :: q.1, q.2) := (rfl)
@[simp] theorem v_o0 {lo : Option Int} : evO Φ lo .nil ρ = some (lo, ρ) := (rfl)
@[simp] theorem v_o1 {lo : Option Int} {e : E F} {es : Es F} : evO Φ lo (.cons e es) ρ = (evE Φ e ρ).bind fun p => (res p.2 p.1).bind fun x => (intOf x).map fun i => (some i, p.2) := (rfl)
@[simp] theorem v_c0 : evC Φ .nil ρ = some (true, ρ) := (rfl)
@[simp] theorem v_c1 {e : E F} {es : Es F} : evC Φ (.cons e es) ρ = (evE Φ e ρ).bind fun p => (res p.2 p.1).bind fun x => (boolOf x).map fun k => (k, p.2) := (rfl)
@[simp] theorem v_ival {e : E F} : evI Φ (.val e) ρ = (evE Φ e ρ).bind fun p => (esc p).bind fun d => (itemsD d.1).map fun ds => (ds, d.2) := (rfl)
@[simp] theorem v_irng1 {b : E F} : evI Φ (.rng1 b) ρ = (evE Φ b ρ).bind fun p => (res p.2 p.1).bind fun y => (intOf y).bind fun j => if okRng 0 j then some (rngL 0 j, p.2) else none := (rfl)
@[simp] theorem v_irng2 {a b : E F} : evI Φ (.rng2 a b) ρ = (evE Φ a ρ).bind fun p => (evE Φ b p.2).bind fun q => (res q.2 p.1).bind fun x => (res q.2 q.1).bind fun y => (intOf x).bind fun i => (intOf y).bind fun j => if okRng i j then some (rngL i j, q.2) else none := (rfl)
@[simp] theorem v_ienum {e : E F} : evI Φ (.enum e) ρ = (evE Φ e ρ).bind fun p => (esc p).bind fun d => (seqD d.1).map fun ds => (ds.zipIdx.map fun (x, i) => .tuple [.int (i : Nat), x], d.2) := (rfl)
@[simp] theorem v_izip {a b : E F} : evI Φ (.zip a b) ρ = (evE Φ a ρ).bind fun p => (esc p).bind fun x => (evE Φ b x.2).bind fun q => (esc q).bind fun y => (zipD x.1 y.1).map fun zs => (zs, y.2) := (rfl)
@[simp] theorem v_test {e : E F} : evTest Φ e ρ = (evE Φ e ρ).bind fun p => (res p.2 p.1).bind fun x => (boolOf x).map fun k => (k, p.2) := (rfl)
@[simp] theorem v_m0 : evM Φ .nil ρ = some ([], ρ) := (rfl)
@[simp] theorem v_m1 {e : E F} {es : Es F} : evM Φ (.cons e es) ρ = (evE Φ e ρ).bind fun p => match p.1 with
    | .loc i => (freeze p.2 i).bind fun d => (evM Φ es d.2).map fun q => (.dat d.1 :: q.1, q.2)
    | r => (evM Φ es p.2).map fun q => (r :: q.1, q.2) := (rfl)
@[simp] theorem v_sexpr {e : E F} : evS Φ W (.expr e) ρ = (evE Φ e ρ).map fun p => .nx p.2 := (rfl)
@[simp] theorem v_sset {i : Nat} {e : E F} : evS Φ W (.set i e) ρ = (evE Φ e ρ).bind fun p => (setT p.2 i false p.1).map .nx := (rfl)
@[simp] theorem v_ssetO {i : Nat} {e : E F} : evS Φ W (.setO i e) ρ = (evE Φ e ρ).bind fun p => (setT p.2 i true p.1).map .nx := (rfl)
@[simp] theorem v_spar {ts : List (Nat × Bool)} {es : Es F} : evS Φ W (.par ts es) ρ = (evM Φ es ρ).bind fun p => (setPar ts p.1 p.2).map .nx := (rfl)
@[simp] theorem v_sunp {is : List Nat} {e : E F} : evS Φ W (.unp is e) ρ = (evE Φ e ρ).bind fun p => (esc p).bind fun d => (unpOf d.1).bind fun ds => (setAll d.2 is ds).map .nx := (rfl)
@[simp] theorem v_sapp {i : Nat} {e : E F} : evS Φ W (.app i e) ρ = match slot ρ i with
      | some (.own (.lst _)) => (evE Φ e ρ).bind fun p => (esc p).bind fun d => match slot d.2 i with
        | some (.own (.lst ds)) => if ds.length < szMax then some (.nx (d.2.set i (some (.own (.lst (ds ++ [d.1])))))) else none
        | _ => none
      | _ => none := (rfl)
@[simp] theorem v_ssto {i : Nat} {k e : E F} : evS Φ W (.sto i k e) ρ = (evE Φ e ρ).bind fun p => (esc p).bind fun d => if isOwn (slot d.2 i) = true then (evE Φ k d.2).bind fun q => (res q.2 q.1).bind fun y => match slot q.2 i with
      | some (.own m) => (stoM m y d.1).map fun m' => .nx (q.2.set i (some (.own m')))
      | _ => none
      else none := (rfl)
@[simp] theorem v_sclr {i : Nat} : evS Φ W (.clr i : C F) ρ = match slot ρ i with
      | some (.own (.lst _)) => some (.nx (ρ.set i (some (.own (.lst [])))))
      | some (.own (.dct _)) => some (.nx (ρ.set i (some (.own (.dct [])))))
      | _ => none := (rfl)
@[simp] theorem v_saug {i : Nat} {e : E F} : evS Φ W (.aug i e) ρ = match slot ρ i with
      | some (.dat (.int a)) => (evE Φ e ρ).bind fun p => (res p.2 p.1).bind fun y => (intOf y).map fun b => .nx (p.2.set i (some (.dat (.int (a + b)))))
      | _ => none := (rfl)
@[simp] theorem v_site {c : E F} {a b : Cs F} : evS Φ W (.ite c a b) ρ = (evTest Φ c ρ).bind fun p => match p.1 with
      | true => evB Φ W a p.2
      | false => evB Φ W b p.2 := (rfl)
@[simp] theorem v_swhl {c : E F} {b : Cs F} : evS Φ W (.whl c b) ρ = whlE Φ W c b W ρ := (rfl)
@[simp] theorem v_sfor {tg : Tg} {it : I F} {b : Cs F} : evS Φ W (.for tg it b) ρ = (evI Φ it ρ).bind fun p => forE Φ W tg b p.1 p.2 := (rfl)
@[simp] theorem v_sret {e : E F} : evS Φ W (.ret e) ρ = (evE Φ e ρ).bind fun p => match p.1 with
      | .dat d => some (.rt (.dat d) p.2)
      | .new m => some (.rt (.own m) p.2)
      | .loc i => match slot p.2 i with
        | some s => some (.rt s (p.2.set i none))
        | none => none := (rfl)
@[simp] theorem v_scont : evS Φ W (.cont : C F) ρ = some (.ct ρ) := (rfl)
@[simp] theorem v_b0 : evB Φ W .nil ρ = some (.nx ρ) := (rfl)
@[simp] theorem v_b1 {c : C F} {cs : Cs F} : evB Φ W (.cons c cs) ρ = (evS Φ W c ρ).bind fun o => match o with
      | .nx ρ1 => evB Φ W cs ρ1
      | o => some o := (rfl)
theorem v_fn {T : F → Def F} {k : Nat} {f : F} {ss : List Sl} : evF T (k + 1) f ss = runD (evF T k) (T f) ss := (rfl)
def ownIn (refs : List Nat) : Nat → List Sl → Bool
  | _, [] => true
  | i, .dat _ :: ss => ownIn refs (i + 1) ss
  | i, .own _ :: ss => refs.contains i && ownIn refs (i + 1) ss
theorem ownIn_at {refs : List Nat} : ∀ {ss : List Sl} {i j : Nat}, ownIn refs i ss = true → isOwn (ss[j]?) = true → i + j ∈ refs
  | [], _, _, _, h => by simp [isOwn] at h
  | .dat _ :: ss, i, 0, _, h => by simp [isOwn] at h
  | .own _ :: ss, i, 0, h, _ => by
    simp only [ownIn, Bool.and_eq_true, List.contains_iff_mem] at h
    exact h.1
  | .dat _ :: ss, i, j + 1, h, h' => by
    rw [show i + (j + 1) = i + 1 + j by omega]
    exact ownIn_at (ss := ss) h (by simpa using h')
  | .own _ :: ss, i, j + 1, h, h' => by
    simp only [ownIn, Bool.and_eq_true] at h
    rw [show i + (j + 1) = i + 1 + j by omega]
    exact ownIn_at (ss := ss) h.2 (by simpa using h')
theorem wv {P : Prop} (h : ∀ W : Nat, W = wMax → P) : P := h wMax rfl
theorem v_run {d : Def F} {ss : List Sl} {W : Nat} (hW : W = wMax) (h1 : ss.length = d.ps) (h2 : d.ps ≤ d.ns) (h3 : ownIn d.refs 0 ss = true) : runD Φ d ss = (evB Φ W d.body (ss.map some ++ List.replicate (d.ns - d.ps) none)).bind fun o => match o with
      | .nx ρ => (outs ρ 0 ss).map fun ms => (.dat .none, ms)
      | .rt s ρ => (outs ρ 0 ss).map fun ms => (s, ms)
      | .ct _ => none := by
  subst hW
  unfold runD
  rw [if_pos ⟨h1, h2, fun i _ h => by have := ownIn_at h3 h; rwa [Nat.zero_add] at this⟩]
  first | done | rfl
/-! ### slots -/
@[simp] theorem v_sl0 {s : Option Sl} {l : Env} : slot (s :: l) 0 = s := by cases s <;> rfl
@[simp] theorem v_sl1 {s : Option Sl} {l : Env} {i : Nat} : slot (s :: l) (i + 1) = slot l i := (rfl)
@[simp] theorem v_own1 {m : MO} : isOwn (some (.own m)) = true := (rfl)
@[simp] theorem v_own2 {d : D} : isOwn (some (.dat d)) = false := (rfl)
@[simp] theorem v_own3 : isOwn none = false := (rfl)
@[simp] theorem v_res1 {d : D} : res ρ (.dat d) = some d := (rfl)
@[simp] theorem v_res2 {m : MO} : res ρ (.new m) = some m.data := (rfl)
@[simp] theorem v_res3 {i : Nat} : res ρ (.loc i) = (slot ρ i).map Sl.data := (rfl)
@[simp] theorem v_rs0 : ress ρ [] = some [] := (rfl)
@[simp] theorem v_rs1 {r : R} {rs : List R} : ress ρ (r :: rs) = match res ρ r, ress ρ rs with | some d, some ds => some (d :: ds) | _, _ => none := (rfl)
@[simp] theorem v_esc1 {d : D} : esc (.dat d, ρ) = some (d, ρ) := (rfl)
@[simp] theorem v_esc2 {m : MO} : esc (.new m, ρ) = some (m.data, ρ) := (rfl)
@[simp] theorem v_esc3 {i : Nat} : esc (.loc i, ρ) = freeze ρ i := (rfl)
@[simp] theorem v_frz {i : Nat} : freeze ρ i = match slot ρ i with | some s => some (s.data, ρ.set i (some (.dat s.data))) | none => none := (rfl)
@[simp] theorem v_sd1 {d : D} : Sl.data (.dat d) = d := (rfl)
@[simp] theorem v_sd2 {m : MO} : Sl.data (.own m) = m.data := (rfl)
@[simp] theorem v_md1 {ds : List D} : MO.data (.lst ds) = .list ds := (rfl)
@[simp] theorem v_md2 {kvs : List (D × D)} : MO.data (.dct kvs) = .dict kvs := (rfl)
@[simp] theorem v_sr1 {d : D} : Sl.res (.dat d) = .dat d := (rfl)
@[simp] theorem v_sr2 {m : MO} : Sl.res (.own m) = .new m := (rfl)
@[simp] theorem v_set1 {i : Nat} {o : Bool} {d : D} : setT ρ i o (.dat d) = some (ρ.set i (some (.dat d))) := (rfl)
@[simp] theorem v_set2 {i : Nat} {m : MO} : setT ρ i false (.new m) = some (ρ.set i (some (.dat m.data))) := (rfl)
@[simp] theorem v_set3 {i : Nat} {m : MO} : setT ρ i true (.new m) = some (ρ.set i (some (.own m))) := (rfl)
@[simp] theorem v_set4 {i j : Nat} {o : Bool} : setT ρ i o (.loc j) = (freeze ρ j).map fun p => p.2.set i (some (.dat p.1)) := by cases o <;> rfl
@[simp] theorem v_par0 : setPar [] [] ρ = some ρ := (rfl)
@[simp] theorem v_par1 {i : Nat} {o : Bool} {ts : List (Nat × Bool)} {d : D} {rs : List R} : setPar ((i, o) :: ts) (.dat d :: rs) ρ = setPar ts rs (ρ.set i (some (.dat d))) := (rfl)
@[simp] theorem v_par2 {i : Nat} {ts : List (Nat × Bool)} {m : MO} {rs : List R} : setPar ((i, true) :: ts) (.new m :: rs) ρ = setPar ts rs (ρ.set i (some (.own m))) := (rfl)
@[simp] theorem v_par3 {i : Nat} {ts : List (Nat × Bool)} {m : MO} {rs : List R} : setPar ((i, false) :: ts) (.new m :: rs) ρ = setPar ts rs (ρ.set i (some (.dat m.data))) := (rfl)
@[simp] theorem v_all0 : setAll ρ [] [] = some ρ := (rfl)
@[simp] theorem v_all1 {i : Nat} {is : List Nat} {d : D} {ds : List D} : setAll ρ (i :: is) (d :: ds) = setAll (ρ.set i (some (.dat d))) is ds := (rfl)
@[simp] theorem v_asg1 {i : Nat} {d : D} : assignT ρ (.name i) d = some (ρ.set i (some (.dat d))) := (rfl)
@[simp] theorem v_asg2 {i j : Nat} {d e : D} : assignT ρ (.tup [i, j]) (.tuple [d, e]) = some ((ρ.set i (some (.dat d))).set j (some (.dat e))) := (rfl)
@[simp] theorem v_asg3 {i j l : Nat} {d e f : D} : assignT ρ (.tup [i, j, l]) (.tuple [d, e, f]) = some (((ρ.set i (some (.dat d))).set j (some (.dat e))).set l (some (.dat f))) := (rfl)
@[simp] theorem v_as1 {r : R} : argSl ρ (.val r) = (res ρ r).map .dat := (rfl)
@[simp] theorem v_as2 {i : Nat} : argSl ρ (.ref i) = slot ρ i := (rfl)
@[simp] theorem v_ass0 : argSls ρ [] = some [] := (rfl)
@[simp] theorem v_ass1 {a : Arg} {as : List Arg} : argSls ρ (a :: as) = match argSl ρ a, argSls ρ as with | some s, some ss => some (s :: ss) | _, _ => none := (rfl)
@[simp] theorem v_rf0 : refsOf [] = [] := (rfl)
@[simp] theorem v_rf1 {i : Nat} {as : List Arg} : refsOf (.ref i :: as) = i :: refsOf as := (rfl)
@[simp] theorem v_rf2 {r : R} {as : List Arg} : refsOf (.val r :: as) = refsOf as := (rfl)
@[simp] theorem v_lt0 : lentOf [] = [] := (rfl)
@[simp] theorem v_lt1 {i : Nat} {as : List Arg} : lentOf (.ref i :: as) = lentOf as := (rfl)
@[simp] theorem v_lt2 {i : Nat} {as : List Arg} : lentOf (.val (.loc i) :: as) = i :: lentOf as := (rfl)
@[simp] theorem v_lt3 {d : D} {as : List Arg} : lentOf (.val (.dat d) :: as) = lentOf as := (rfl)
@[simp] theorem v_lt4 {m : MO} {as : List Arg} : lentOf (.val (.new m) :: as) = lentOf as := (rfl)
@[simp] theorem v_fz0 : freezeAll ρ [] = some ρ := (rfl)
@[simp] theorem v_fz1 {i : Nat} {is : List Nat} : freezeAll ρ (i :: is) = (freeze ρ i).bind fun p => freezeAll p.2 is := (rfl)
@[simp] theorem v_pb0 : putBack ρ [] [] = some ρ := (rfl)
@[simp] theorem v_pb1 {i : Nat} {is : List Nat} {m : MO} {ms : List MO} : putBack ρ (i :: is) (m :: ms) = putBack (ρ.set i (some (.own m))) is ms := (rfl)
@[simp] theorem v_ou0 {i : Nat} : outs ρ i [] = some [] := (rfl)
@[simp] theorem v_ou1 {i : Nat} {d : D} {ss : List Sl} : outs ρ i (.dat d :: ss) = outs ρ (i + 1) ss := (rfl)
@[simp] theorem v_ou2 {i : Nat} {m : MO} {ss : List Sl} : outs ρ i (.own m :: ss) = match slot ρ i with | some (.own m) => (outs ρ (i + 1) ss).map (m :: ·) | _ => none := (rfl)
@[simp] theorem v_wi0 : wipeE ρ [] = ρ := (rfl)
@[simp] theorem v_wi1 {v : Nat} {vs : List Nat} : wipeE ρ (v :: vs) = (wipeE ρ vs).set v none := (rfl)
@[simp] theorem v_bk0 {ρ' : Env} : backE ρ ρ' [] = ρ' := (rfl)
@[simp] theorem v_bk1 {ρ' : Env} {v : Nat} {vs : List Nat} : backE ρ ρ' (v :: vs) = (backE ρ ρ' vs).set v (slot ρ v) := (rfl)
@[simp] theorem v_io {i : Int} : intOf (.int i) = some i := (rfl)
@[simp] theorem v_bo {b : Bool} : boolOf (.bool b) = some b := (rfl)
@[simp] theorem v_uo1 {ds : List D} : unpOf (.tuple ds) = some ds := (rfl)
@[simp] theorem v_uo2 {ds : List D} : unpOf (.list ds) = some ds := (rfl)
@[simp] theorem v_to {ds : List D} : tupOf (.tuple ds) = some ds := (rfl)
@[simp] theorem v_it1 {ds : List D} : itemsD (.tuple ds) = some ds := (rfl)
@[simp] theorem v_it2 {ds : List D} : itemsD (.list ds) = some ds := (rfl)
@[simp] theorem v_sq1 {ds : List D} : seqD (.tuple ds) = some ds := (rfl)
@[simp] theorem v_sq2 {ds : List D} : seqD (.list ds) = some ds := (rfl)
/-- a call, as rows -/
theorem v_callE {f : F} {as : List Arg} {ss : List Sl} {s : Sl} {ms : List MO} {ρ1 ρ2 : Env} (h1 : argSls ρ as = some ss) (h2 : (refsOf as).Nodup) (h3 : ∀ i ∈ refsOf as, isOwn (slot ρ i) = true) (h4 : ∀ i ∈ lentOf as, i ∉ refsOf as) (h5 : Φ f ss = some (s, ms))
    (h6 : (if (refsOf as).isEmpty && cleanS s then some ρ else freezeAll ρ (lentOf as)) = some ρ1) (h7 : putBack ρ1 (refsOf as) ms = some ρ2) : callE Φ f as ρ = some (s.res, ρ2) := by
  unfold callE
  rw [h1]
  simp only
  rw [if_pos ⟨h2, h3, h4⟩, h5]
  simp only
  rw [h6]
  simp only [h7, Option.map_some]
/-- no object handed on, none lent -/
theorem v_call0 {f : F} {as : List Arg} (h2 : refsOf as = []) (h4 : lentOf as = []) : callE Φ f as ρ = (argSls ρ as).bind fun ss => (Φ f ss).bind fun p => (putBack ρ [] p.2).map fun ρ2 => (p.1.res, ρ2) := by
  unfold callE
  rw [h2, h4]
  cases argSls ρ as with
  | none => rfl
  | some ss =>
    simp only [List.nodup_nil, List.not_mem_nil, false_implies, implies_true, and_self, if_true, Option.bind_some, List.isEmpty_nil, Bool.true_and, freezeAll]
    cases Φ f ss with
    | none => rfl
    | some p => simp
@[simp] theorem v_cd1 {f : F} {a1 : D} : callE Φ f [.val (.dat a1)] ρ = (Φ f [.dat a1]).bind fun p => (putBack ρ [] p.2).map fun ρ2 => (p.1.res, ρ2) := v_call0 rfl rfl
@[simp] theorem v_cd2 {f : F} {a1 a2 : D} : callE Φ f [.val (.dat a1), .val (.dat a2)] ρ = (Φ f [.dat a1, .dat a2]).bind fun p => (putBack ρ [] p.2).map fun ρ2 => (p.1.res, ρ2) := v_call0 rfl rfl
@[simp] theorem v_cd3 {f : F} {a1 a2 a3 : D} : callE Φ f [.val (.dat a1), .val (.dat a2), .val (.dat a3)] ρ = (Φ f [.dat a1, .dat a2, .dat a3]).bind fun p => (putBack ρ [] p.2).map fun ρ2 => (p.1.res, ρ2) := v_call0 rfl rfl
@[simp] theorem v_cd4 {f : F} {a1 a2 a3 a4 : D} : callE Φ f [.val (.dat a1), .val (.dat a2), .val (.dat a3), .val (.dat a4)] ρ = (Φ f [.dat a1, .dat a2, .dat a3, .dat a4]).bind fun p => (putBack ρ [] p.2).map fun ρ2 => (p.1.res, ρ2) := v_call0 rfl rfl
@[simp] theorem v_cd5 {f : F} {a1 a2 a3 a4 a5 : D} : callE Φ f [.val (.dat a1), .val (.dat a2), .val (.dat a3), .val (.dat a4), .val (.dat a5)] ρ = (Φ f [.dat a1, .dat a2, .dat a3, .dat a4, .dat a5]).bind fun p => (putBack ρ [] p.2).map fun ρ2 => (p.1.res, ρ2) := v_call0 rfl rfl
@[simp] theorem v_cd6 {f : F} {a1 a2 a3 a4 a5 a6 : D} : callE Φ f [.val (.dat a1), .val (.dat a2), .val (.dat a3), .val (.dat a4), .val (.dat a5), .val (.dat a6)] ρ = (Φ f [.dat a1, .dat a2, .dat a3, .dat a4, .dat a5, .dat a6]).bind fun p => (putBack ρ [] p.2).map fun ρ2 => (p.1.res, ρ2) := v_call0 rfl rfl
@[simp] theorem v_cd7 {f : F} {a1 a2 a3 a4 a5 a6 a7 : D} : callE Φ f [.val (.dat a1), .val (.dat a2), .val (.dat a3), .val (.dat a4), .val (.dat a5), .val (.dat a6), .val (.dat a7)] ρ = (Φ f [.dat a1, .dat a2, .dat a3, .dat a4, .dat a5, .dat a6, .dat a7]).bind fun p => (putBack ρ [] p.2).map fun ρ2 => (p.1.res, ρ2) := v_call0 rfl rfl
/-- an object handed on in the first place -/
theorem v_callr {f : F} {i : Nat} {m : MO} {ds : List D} (h : slot ρ i = some (.own m)) : callE Φ f (.ref i :: ds.map fun d => .val (.dat d)) ρ = (Φ f (.own m :: ds.map .dat)).bind fun p => (putBack ρ [i] p.2).map fun ρ2 => (p.1.res, ρ2) := by
  have e1 : argSls ρ (ds.map fun d => Arg.val (.dat d)) = some (ds.map .dat) := by
    induction ds with
    | nil => rfl
    | cons d r ih => rw [List.map_cons, v_ass1, ih]; rfl
  have e2 : refsOf (ds.map fun d => Arg.val (.dat d)) = [] := by
    clear e1
    induction ds with
    | nil => rfl
    | cons d r ih => exact ih
  have e3 : lentOf (ds.map fun d => Arg.val (.dat d)) = [] := by
    clear e1 e2
    induction ds with
    | nil => rfl
    | cons d r ih => exact ih
  unfold callE
  rw [v_ass1, v_as2, h, e1]
  simp only [v_rf1, e2, v_lt1, e3, List.nodup_cons, List.not_mem_nil, not_false_eq_true, List.nodup_nil, and_self, List.mem_cons, or_false, forall_eq, h, v_own1, false_implies, implies_true, if_true, List.isEmpty_cons, Bool.false_and, Bool.false_eq_true, if_false, freezeAll]
  cases Φ f (.own m :: ds.map .dat) with
  | none => rfl
  | some p => simp
theorem v_cr0 {f : F} {i : Nat} {m : MO} (h : slot ρ i = some (.own m)) : callE Φ f [.ref i] ρ = (Φ f [.own m]).bind fun p => (putBack ρ [i] p.2).map fun ρ2 => (p.1.res, ρ2) := v_callr (ds := []) h
@[simp] theorem v_cs0 {f : F} {m : MO} {l : Env} : callE Φ f [.ref 0] (some (.own m) :: l) = (Φ f [.own m]).bind fun p => (putBack (some (.own m) :: l) [0] p.2).map fun ρ2 => (p.1.res, ρ2) := v_cr0 rfl
@[simp] theorem v_ct0 {f : F} {m : MO} {s0 : Option Sl} {l : Env} : callE Φ f [.ref 1] (s0 :: some (.own m) :: l) = (Φ f [.own m]).bind fun p => (putBack (s0 :: some (.own m) :: l) [1] p.2).map fun ρ2 => (p.1.res, ρ2) := v_cr0 rfl
theorem v_cr1 {f : F} {i : Nat} {m : MO} {a1 : D} (h : slot ρ i = some (.own m)) : callE Φ f [.ref i, .val (.dat a1)] ρ = (Φ f [.own m, .dat a1]).bind fun p => (putBack ρ [i] p.2).map fun ρ2 => (p.1.res, ρ2) := v_callr (ds := [a1]) h
@[simp] theorem v_cs1 {f : F} {m : MO} {a1 : D} {l : Env} : callE Φ f [.ref 0, .val (.dat a1)] (some (.own m) :: l) = (Φ f [.own m, .dat a1]).bind fun p => (putBack (some (.own m) :: l) [0] p.2).map fun ρ2 => (p.1.res, ρ2) := v_cr1 rfl
@[simp] theorem v_ct1 {f : F} {m : MO} {a1 : D} {s0 : Option Sl} {l : Env} : callE Φ f [.ref 1, .val (.dat a1)] (s0 :: some (.own m) :: l) = (Φ f [.own m, .dat a1]).bind fun p => (putBack (s0 :: some (.own m) :: l) [1] p.2).map fun ρ2 => (p.1.res, ρ2) := v_cr1 rfl
theorem v_cr2 {f : F} {i : Nat} {m : MO} {a1 a2 : D} (h : slot ρ i = some (.own m)) : callE Φ f [.ref i, .val (.dat a1), .val (.dat a2)] ρ = (Φ f [.own m, .dat a1, .dat a2]).bind fun p => (putBack ρ [i] p.2).map fun ρ2 => (p.1.res, ρ2) := v_callr (ds := [a1, a2]) h
@[simp] theorem v_cs2 {f : F} {m : MO} {a1 a2 : D} {l : Env} : callE Φ f [.ref 0, .val (.dat a1), .val (.dat a2)] (some (.own m) :: l) = (Φ f [.own m, .dat a1, .dat a2]).bind fun p => (putBack (some (.own m) :: l) [0] p.2).map fun ρ2 => (p.1.res, ρ2) := v_cr2 rfl
@[simp] theorem v_ct2 {f : F} {m : MO} {a1 a2 : D} {s0 : Option Sl} {l : Env} : callE Φ f [.ref 1, .val (.dat a1), .val (.dat a2)] (s0 :: some (.own m) :: l) = (Φ f [.own m, .dat a1, .dat a2]).bind fun p => (putBack (s0 :: some (.own m) :: l) [1] p.2).map fun ρ2 => (p.1.res, ρ2) := v_cr2 rfl
theorem v_cr3 {f : F} {i : Nat} {m : MO} {a1 a2 a3 : D} (h : slot ρ i = some (.own m)) : callE Φ f [.ref i, .val (.dat a1), .val (.dat a2), .val (.dat a3)] ρ = (Φ f [.own m, .dat a1, .dat a2, .dat a3]).bind fun p => (putBack ρ [i] p.2).map fun ρ2 => (p.1.res, ρ2) := v_callr (ds := [a1, a2, a3]) h
@[simp] theorem v_cs3 {f : F} {m : MO} {a1 a2 a3 : D} {l : Env} : callE Φ f [.ref 0, .val (.dat a1), .val (.dat a2), .val (.dat a3)] (some (.own m) :: l) = (Φ f [.own m, .dat a1, .dat a2, .dat a3]).bind fun p => (putBack (some (.own m) :: l) [0] p.2).map fun ρ2 => (p.1.res, ρ2) := v_cr3 rfl
@[simp] theorem v_ct3 {f : F} {m : MO} {a1 a2 a3 : D} {s0 : Option Sl} {l : Env} : callE Φ f [.ref 1, .val (.dat a1), .val (.dat a2), .val (.dat a3)] (s0 :: some (.own m) :: l) = (Φ f [.own m, .dat a1, .dat a2, .dat a3]).bind fun p => (putBack (s0 :: some (.own m) :: l) [1] p.2).map fun ρ2 => (p.1.res, ρ2) := v_cr3 rfl
theorem v_cr4 {f : F} {i : Nat} {m : MO} {a1 a2 a3 a4 : D} (h : slot ρ i = some (.own m)) : callE Φ f [.ref i, .val (.dat a1), .val (.dat a2), .val (.dat a3), .val (.dat a4)] ρ = (Φ f [.own m, .dat a1, .dat a2, .dat a3, .dat a4]).bind fun p => (putBack ρ [i] p.2).map fun ρ2 => (p.1.res, ρ2) := v_callr (ds := [a1, a2, a3, a4]) h
@[simp] theorem v_cs4 {f : F} {m : MO} {a1 a2 a3 a4 : D} {l : Env} : callE Φ f [.ref 0, .val (.dat a1), .val (.dat a2), .val (.dat a3), .val (.dat a4)] (some (.own m) :: l) = (Φ f [.own m, .dat a1, .dat a2, .dat a3, .dat a4]).bind fun p => (putBack (some (.own m) :: l) [0] p.2).map fun ρ2 => (p.1.res, ρ2) := v_cr4 rfl
@[simp] theorem v_ct4 {f : F} {m : MO} {a1 a2 a3 a4 : D} {s0 : Option Sl} {l : Env} : callE Φ f [.ref 1, .val (.dat a1), .val (.dat a2), .val (.dat a3), .val (.dat a4)] (s0 :: some (.own m) :: l) = (Φ f [.own m, .dat a1, .dat a2, .dat a3, .dat a4]).bind fun p => (putBack (s0 :: some (.own m) :: l) [1] p.2).map fun ρ2 => (p.1.res, ρ2) := v_cr4 rfl
theorem v_cr5 {f : F} {i : Nat} {m : MO} {a1 a2 a3 a4 a5 : D} (h : slot ρ i = some (.own m)) : callE Φ f [.ref i, .val (.dat a1), .val (.dat a2), .val (.dat a3), .val (.dat a4), .val (.dat a5)] ρ = (Φ f [.own m, .dat a1, .dat a2, .dat a3, .dat a4, .dat a5]).bind fun p => (putBack ρ [i] p.2).map fun ρ2 => (p.1.res, ρ2) := v_callr (ds := [a1, a2, a3, a4, a5]) h
@[simp] theorem v_cs5 {f : F} {m : MO} {a1 a2 a3 a4 a5 : D} {l : Env} : callE Φ f [.ref 0, .val (.dat a1), .val (.dat a2), .val (.dat a3), .val (.dat a4), .val (.dat a5)] (some (.own m) :: l) = (Φ f [.own m, .dat a1, .dat a2, .dat a3, .dat a4, .dat a5]).bind fun p => (putBack (some (.own m) :: l) [0] p.2).map fun ρ2 => (p.1.res, ρ2) := v_cr5 rfl
@[simp] theorem v_ct5 {f : F} {m : MO} {a1 a2 a3 a4 a5 : D} {s0 : Option Sl} {l : Env} : callE Φ f [.ref 1, .val (.dat a1), .val (.dat a2), .val (.dat a3), .val (.dat a4), .val (.dat a5)] (s0 :: some (.own m) :: l) = (Φ f [.own m, .dat a1, .dat a2, .dat a3, .dat a4, .dat a5]).bind fun p => (putBack (s0 :: some (.own m) :: l) [1] p.2).map fun ρ2 => (p.1.res, ρ2) := v_cr5 rfl

end
end SP

/-! SpPy: data operations and loops, for simp and by induction. -/
namespace SP
open PySem PySem.W
/-! ### operations -/
@[simp] theorem y_add {i j : Int} : binD .Add (.int i) (.int j) = some (.dat (.int (i + j))) := (rfl)
@[simp] theorem y_sub {i j : Int} : binD .Sub (.int i) (.int j) = some (.dat (.int (i - j))) := (rfl)
theorem y_mul {i j : Int} (h : (-(2 ^ 64) < i ∧ i < 2 ^ 64) ∨ (-(2 ^ 64) < j ∧ j < 2 ^ 64)) : binD .Mult (.int i) (.int j) = some (.dat (.int (i * j))) := if_pos h
theorem y_mod {i j : Int} (h : 0 < j) : binD .Mod (.int i) (.int j) = some (.dat (.int (i % j))) := if_pos h
theorem y_fdiv {i j : Int} (h : 0 < j) (h2 : j < 1073741824) : binD .FloorDiv (.int i) (.int j) = some (.dat (.int (i / j))) := if_pos ⟨h, h2⟩
theorem y_pow {i j : Int} (h : 0 ≤ j) (h1 : j ≤ 1000000) (h2 : i.natAbs < 2 ^ 64) : binD .Pow (.int i) (.int j) = some (.dat (.int (i ^ j.toNat))) := if_pos ⟨h, h1, h2⟩
theorem sortedD_list {l : List PyData} : sortedD [.list l] = (if okSort l then some (.own (.lst (sortD l))) else none) := (rfl)
theorem sortedD_tup {l : List PyData} : sortedD [.tuple l] = (if okSort l then some (.own (.lst (sortD l))) else none) := (rfl)
theorem sortedD_dct {l : List (PyData × PyData)} : sortedD [.dict l] = (if okSort (l.map (·.1)) then some (.own (.lst (sortD (l.map (·.1))))) else none) := (rfl)
theorem y_cat {a b : List PyData} (h : a.length + b.length ≤ szMax) : binD .Add (.list a) (.list b) = some (.own (.lst (a ++ b))) := if_pos h
theorem y_catT {a b : List PyData} (h : a.length + b.length ≤ szMax) : binD .Add (.tuple a) (.tuple b) = some (.dat (.tuple (a ++ b))) := if_pos h
theorem y_repT {a : List PyData} {n : Int} (h : a.length ≤ 1000 ∧ -1000 ≤ n ∧ n ≤ 1000) : binD .Mult (.tuple a) (.int n) = some (.dat (.tuple (List.replicate n.toNat a).flatten)) := if_pos h
theorem y_repL {a : List PyData} {n : Int} (h : a.length ≤ 1000 ∧ -1000 ≤ n ∧ n ≤ 1000) : binD .Mult (.list a) (.int n) = some (.own (.lst (List.replicate n.toNat a).flatten)) := if_pos h
theorem sm_int {n : Nat} {i : Int} : sm n (.int i) = true := by cases n <;> rfl
theorem dl_int {i j : Int} : dataLt (.int i) (.int j) = decide (i < j) := dataLt_int i j
theorem ord_int {i j : Int} : ordD (.int i) (.int j) = true := by simp [ordD, sm_int, alike, notNone]
@[simp] theorem y_lt {i j : Int} : cmpD .Lt (.int i) (.int j) = some (decide (i < j)) := by
  simp only [cmpD, ltD, ord_int, dl_int, if_true]
@[simp] theorem y_gt {i j : Int} : cmpD .Gt (.int i) (.int j) = some (decide (j < i)) := by
  simp only [cmpD, ord_int, dl_int, if_true]
@[simp] theorem y_le {i j : Int} : cmpD .LtE (.int i) (.int j) = some (decide (i ≤ j)) := by
  simp only [cmpD, ord_int, dl_int, if_true]
  by_cases h : i ≤ j
  · have : ¬ j < i := by omega
    simp [h, this]
  · have : j < i := by omega
    simp [h, this]
@[simp] theorem y_ge {i j : Int} : cmpD .GtE (.int i) (.int j) = some (decide (j ≤ i)) := by
  simp only [cmpD, ltD, ord_int, dl_int, if_true, Option.map_some]
  by_cases h : j ≤ i
  · have : ¬ i < j := by omega
    simp [h, this]
  · have : i < j := by omega
    simp [h, this]
@[simp] theorem y_eq {i j : Int} : cmpD .Eq (.int i) (.int j) = some (decide (i = j)) := by
  show some (PyData.eqv (.int i) (.int j)) = _
  rfl
@[simp] theorem y_ne {i j : Int} : cmpD .NotEq (.int i) (.int j) = some (!decide (i = j)) := by
  show some (!PyData.eqv (.int i) (.int j)) = _
  rfl
@[simp] theorem y_isn {x : PyData} : cmpD .Is x .none = some (isNoneD x) := (rfl)
@[simp] theorem y_isnn {x : PyData} : cmpD .IsNot x .none = some (!isNoneD x) := (rfl)
@[simp] theorem y_n1 : isNoneD .none = true := (rfl)
@[simp] theorem y_n2 {i : Int} : isNoneD (.int i) = false := (rfl)
@[simp] theorem y_n3 {l : List PyData} : isNoneD (.tuple l) = false := (rfl)
@[simp] theorem y_n4 {l : List PyData} : isNoneD (.list l) = false := (rfl)
@[simp] theorem y_n5 {b : Bool} : isNoneD (.bool b) = false := (rfl)
@[simp] theorem y_int1 {i : Int} : bltD .int [.int i] = some (.dat (.int i)) := (rfl)
@[simp] theorem y_int2 {b : Bool} : bltD .int [.bool b] = some (.dat (.int (if b then 1 else 0))) := (rfl)
@[simp] theorem y_len1 {l : List PyData} : bltD .len [.list l] = some (.dat (.int l.length)) := (rfl)
@[simp] theorem y_len2 {l : List PyData} : bltD .len [.tuple l] = some (.dat (.int l.length)) := (rfl)
@[simp] theorem y_tup1 {l : List PyData} : bltD .tuple [.list l] = some (.dat (.tuple l)) := (rfl)
@[simp] theorem y_tup2 {l : List PyData} : bltD .tuple [.tuple l] = some (.dat (.tuple l)) := (rfl)
@[simp] theorem y_lst1 {l : List PyData} : bltD .list [.list l] = some (.own (.lst l)) := (rfl)
@[simp] theorem y_lst2 {l : List PyData} : bltD .list [.tuple l] = some (.own (.lst l)) := (rfl)
@[simp] theorem y_min {i j : Int} : bltD .min [.int i, .int j] = some (.dat (.int (if j < i then j else i))) := (rfl)
@[simp] theorem y_max {i j : Int} : bltD .max [.int i, .int j] = some (.dat (.int (if j > i then j else i))) := (rfl)
theorem ix_nat {n k : Nat} (h : k < n) : ixOf n ((k : Nat) : Int) = some k := by
  unfold ixOf
  rw [if_pos (by omega), if_pos (by omega)]
  simp
theorem y_ixT {xs : List PyData} {k : Nat} {d : PyData} (h : xs[k]? = some d) : idxD (.tuple xs) (.int ((k : Nat) : Int)) = some d := by
  show (ixOf xs.length _).bind _ = _
  rw [ix_nat (List.getElem?_eq_some_iff.mp h).1]
  exact h
theorem y_ixL {xs : List PyData} {k : Nat} {d : PyData} (h : xs[k]? = some d) : idxD (.list xs) (.int ((k : Nat) : Int)) = some d := by
  show (ixOf xs.length _).bind _ = _
  rw [ix_nat (List.getElem?_eq_some_iff.mp h).1]
  exact h
@[simp] theorem y_ix0 {a : PyData} {l : List PyData} : idxD (.tuple (a :: l)) (.int 0) = some a := y_ixT (k := 0) rfl
@[simp] theorem y_ix1 {a b : PyData} {l : List PyData} : idxD (.tuple (a :: b :: l)) (.int 1) = some b := y_ixT (k := 1) rfl
@[simp] theorem y_ix2 {a b c : PyData} {l : List PyData} : idxD (.tuple (a :: b :: c :: l)) (.int 2) = some c := y_ixT (k := 2) rfl
@[simp] theorem y_ix3 {a b c d : PyData} {l : List PyData} : idxD (.tuple (a :: b :: c :: d :: l)) (.int 3) = some d := y_ixT (k := 3) rfl
@[simp] theorem y_lx0 {a : PyData} {l : List PyData} : idxD (.list (a :: l)) (.int 0) = some a := y_ixL (k := 0) rfl
@[simp] theorem y_lx1 {a b : PyData} {l : List PyData} : idxD (.list (a :: b :: l)) (.int 1) = some b := y_ixL (k := 1) rfl
@[simp] theorem y_lx2 {a b c : PyData} {l : List PyData} : idxD (.list (a :: b :: c :: l)) (.int 2) = some c := y_ixL (k := 2) rfl
@[simp] theorem y_st1 {a b c d : PyData} : stoM (.lst [a, b, c]) (.int 1) d = some (.lst [a, d, c]) := (rfl)
@[simp] theorem y_st2 {a b c d : PyData} : stoM (.lst [a, b, c]) (.int 2) d = some (.lst [a, b, d]) := (rfl)
theorem y_st {ds : List PyData} {k : Nat} {d : PyData} (h : k < ds.length) : stoM (.lst ds) (.int ((k : Nat) : Int)) d = some (.lst (ds.set k d)) := by
  show (ixOf ds.length _).map _ = _
  rw [ix_nat h]; rfl
@[simp] theorem y_isd {x : PyData} {b : Bool} : isTy x .bool = (match x with | .bool _ => true | _ => false) := by cases x <;> rfl
/-! ### loops -/
theorem rngL_len {a b : Int} : (rngL a b).length = (b - a).toNat := by simp [rngL]
theorem rngL_mem {a b : Int} {d : PyData} (h : d ∈ rngL a b) : ∃ i : Int, d = .int i ∧ a ≤ i ∧ i < b := by
  unfold rngL at h
  obtain ⟨k, hk, rfl⟩ := List.mem_map.mp h
  rw [List.mem_range] at hk
  exact ⟨_, rfl, by omega, by omega⟩
/-- a walk whose body comes to its end at each turn -/
theorem forL_inv0 {tg : Tg} {b : Env → Option Out} (I : Nat → Env → Prop) : ∀ {ds : List PyData} {i : Nat} {ρ : Env}, (∀ (j : Nat) (d : PyData) (ρ : Env), ds[j]? = some d → I (i + j) ρ → ∃ ρ1 o ρ2, assignT ρ tg d = some ρ1 ∧ b ρ1 = some o ∧ (o = .nx ρ2 ∨ o = .ct ρ2) ∧ I (i + j + 1) ρ2) → I i ρ → ∃ ρ', forL tg b ds ρ = some (.nx ρ') ∧ I (i + ds.length) ρ'
  | [], i, ρ, _, h => ⟨ρ, rfl, h⟩
  | d :: ds, i, ρ, hs, h => by
    obtain ⟨ρ1, o, ρ2, e1, e2, e3, h2⟩ := hs 0 d ρ rfl h
    obtain ⟨ρ', e4, h4⟩ := forL_inv0 I (ds := ds) (i := i + 1) (ρ := ρ2) (fun j d ρ e hj => by
      obtain ⟨a1, a2, a3, b1, b2, b3, b4⟩ := hs (j + 1) d ρ (by simpa using e) (by rw [show i + (j + 1) = i + 1 + j by omega]; exact hj)
      exact ⟨a1, a2, a3, b1, b2, b3, by rw [show i + 1 + j + 1 = i + (j + 1) + 1 by omega]; exact b4⟩) h2
    refine ⟨ρ', ?_, by rw [List.length_cons, show i + (ds.length + 1) = i + 1 + ds.length by omega]; exact h4⟩
    unfold forL
    rw [e1]
    simp only [Option.bind_some, e2]
    rcases e3 with rfl | rfl
    · exact e4
    · exact e4
/-- a comprehension: something holds of the slots and of each item -/
theorem turns_inv0 {fE : Env → Option (R × Env)} {fC : Env → Option (Bool × Env)} {tg : Tg} {own : List Nat} (I : Nat → Env → Prop) (G : PyData → Prop) : ∀ {ds : List PyData} {i : Nat} {ρ : Env},
    (∀ (j : Nat) (d : PyData) (ρ : Env), ds[j]? = some d → I (i + j) ρ → ∃ ρ1 k ρ2, assignT ρ tg d = some ρ1 ∧ fC ρ1 = some (k, ρ2) ∧ match k with
      | true => ∃ p y ρ3, fE ρ2 = some p ∧ esc p = some (y, ρ3) ∧ G y ∧ I (i + j + 1) (wipeE ρ3 own)
      | false => I (i + j + 1) (wipeE ρ2 own)) → I i ρ → ∃ ys ρ', turns fE fC tg own ds ρ = some (ys, ρ') ∧ I (i + ds.length) ρ' ∧ (∀ y ∈ ys, G y) ∧ ys.length ≤ ds.length ∧ ((∀ ρ, ∃ ρ', fC ρ = some (true, ρ')) → ys.length = ds.length)
  | [], i, ρ, _, h => ⟨[], ρ, rfl, h, (fun _ z => by cases z), Nat.le_refl _, fun _ => rfl⟩
  | d :: ds, i, ρ, hs, h => by
    obtain ⟨ρ1, k, ρ2, e1, e2, h2⟩ := hs 0 d ρ rfl h
    have step : ∀ {ρ4 : Env}, I (i + 1) ρ4 → ∃ ys ρ', turns fE fC tg own ds ρ4 = some (ys, ρ') ∧ I (i + 1 + ds.length) ρ' ∧ (∀ y ∈ ys, G y) ∧ ys.length ≤ ds.length ∧ ((∀ ρ, ∃ ρ', fC ρ = some (true, ρ')) → ys.length = ds.length) := fun {ρ4} h4 => turns_inv0 I G (ds := ds) (i := i + 1) (ρ := ρ4) (fun j d ρ e hj => by
      obtain ⟨a1, a2, a3, b1, b2, b3⟩ := hs (j + 1) d ρ (by simpa using e) (by rw [show i + (j + 1) = i + 1 + j by omega]; exact hj)
      refine ⟨a1, a2, a3, b1, b2, ?_⟩
      rw [show i + 1 + j + 1 = i + (j + 1) + 1 by omega]
      exact b3) h4
    unfold turns
    rw [e1]
    simp only [Option.bind_some, e2]
    cases k with
    | true =>
      obtain ⟨p, y, ρ3, q1, q2, q3, q4⟩ := h2
      obtain ⟨ys, ρ', r1, r2, r3, r4, r5⟩ := step q4
      refine ⟨y :: ys, ρ', ?_, by rw [List.length_cons, show i + (ds.length + 1) = i + 1 + ds.length by omega]; exact r2, fun z hz => ?_, by simp; omega, fun hc => by simp [r5 hc]⟩
      · simp only [q1, q2, Option.bind_some, r1, Option.map_some]
      · rcases List.mem_cons.mp hz with rfl | hz
        · exact q3
        · exact r3 z hz
    | false =>
      obtain ⟨ys, ρ', r1, r2, r3, r4, r5⟩ := step h2
      refine ⟨ys, ρ', r1, by rw [List.length_cons, show i + (ds.length + 1) = i + 1 + ds.length by omega]; exact r2, r3, by simp; omega, fun hc => ?_⟩
      obtain ⟨ρ', q⟩ := hc ρ1
      rw [e2] at q; cases q
/-- a comprehension that changes nothing: each item's value -/
theorem turns_map0 {fE : Env → Option (R × Env)} {fC : Env → Option (Bool × Env)} {tg : Tg} {own : List Nat} {ρ : Env} (g : PyData → PyData) : ∀ {ds : List PyData},
    (∀ d ∈ ds, ∃ ρ1 p ρ3, assignT ρ tg d = some ρ1 ∧ fC ρ1 = some (true, ρ1) ∧ fE ρ1 = some p ∧ esc p = some (g d, ρ3) ∧ wipeE ρ3 own = ρ) → turns fE fC tg own ds ρ = some (ds.map g, ρ)
  | [], _ => rfl
  | d :: ds, hs => by
    obtain ⟨ρ1, p, ρ3, e1, e2, e3, e4, e5⟩ := hs d (List.mem_cons_self ..)
    have ih := turns_map0 g (ds := ds) fun d h => hs d (List.mem_cons_of_mem _ h)
    unfold turns
    rw [e1]
    simp only [Option.bind_some, e2, e3, e4, e5, ih, Option.map_some, List.map_cons]
/-- with a test -/
theorem turns_filter0 {fE : Env → Option (R × Env)} {fC : Env → Option (Bool × Env)} {tg : Tg} {own : List Nat} {ρ : Env} (g : PyData → PyData) (c : PyData → Bool) : ∀ {ds : List PyData},
    (∀ d ∈ ds, ∃ ρ1, assignT ρ tg d = some ρ1 ∧ fC ρ1 = some (c d, ρ1) ∧ wipeE ρ1 own = ρ ∧ (c d = true → ∃ p ρ3, fE ρ1 = some p ∧ esc p = some (g d, ρ3) ∧ wipeE ρ3 own = ρ)) → turns fE fC tg own ds ρ = some ((ds.filter c).map g, ρ)
  | [], _ => rfl
  | d :: ds, hs => by
    obtain ⟨ρ1, e1, e2, e3, e4⟩ := hs d (List.mem_cons_self ..)
    have ih := turns_filter0 g c (ds := ds) fun d h => hs d (List.mem_cons_of_mem _ h)
    unfold turns
    rw [e1]
    simp only [Option.bind_some, e2]
    cases hc : c d with
    | true =>
      obtain ⟨p, ρ3, q1, q2, q3⟩ := e4 hc
      simp only [q1, q2, q3, ih, Option.bind_some, Option.map_some, List.filter_cons, hc, if_true, List.map_cons]
    | false =>
      simp only [e3, ih, List.filter_cons, hc, Bool.false_eq_true, if_false]

section
variable {F : Type} {Φ : F → List Sl → Option (Sl × List MO)} {W : Nat} {tg : Tg}
theorem for_inv {b : Cs F} (I : Nat → Env → Prop) {ds : List PyData} {ρ : Env} (h0 : I 0 ρ) (hs : ∀ (j : Nat) (d : PyData) (ρ : Env), ds[j]? = some d → I j ρ → ∃ ρ1 o ρ2, assignT ρ tg d = some ρ1 ∧ evB Φ W b ρ1 = some o ∧ (o = .nx ρ2 ∨ o = .ct ρ2) ∧ I (j + 1) ρ2) : ∃ ρ', forE Φ W tg b ds ρ = some (.nx ρ') ∧ I ds.length ρ' := by
  have := forL_inv0 (tg := tg) (b := fun ρ => evB Φ W b ρ) I (ds := ds) (i := 0) (fun j d ρ e h => by rw [Nat.zero_add] at h ⊢; exact hs j d ρ e h) h0
  rwa [Nat.zero_add] at this
theorem comp_inv {elt : E F} {cond : Es F} {own : List Nat} (I : Nat → Env → Prop) (G : PyData → Prop) {ds : List PyData} {ρ : Env} (h0 : I 0 ρ) (hs : ∀ (j : Nat) (d : PyData) (ρ : Env), ds[j]? = some d → I j ρ → ∃ ρ1 k ρ2, assignT ρ tg d = some ρ1 ∧ evC Φ cond ρ1 = some (k, ρ2) ∧ match k with
      | true => ∃ p y ρ3, evE Φ elt ρ2 = some p ∧ esc p = some (y, ρ3) ∧ G y ∧ I (j + 1) (wipeE ρ3 own)
      | false => I (j + 1) (wipeE ρ2 own)) : ∃ ys ρ', turnsE Φ elt cond tg own ds ρ = some (ys, ρ') ∧ I ds.length ρ' ∧ (∀ y ∈ ys, G y) ∧ ys.length ≤ ds.length := by
  have := turns_inv0 (fE := fun ρ => evE Φ elt ρ) (fC := fun ρ => evC Φ cond ρ) (tg := tg) (own := own) I G (ds := ds) (i := 0) (fun j d ρ e h => by rw [Nat.zero_add] at h ⊢; exact hs j d ρ e h) h0
  rw [Nat.zero_add] at this
  obtain ⟨ys, ρ', a, b, c, d, _⟩ := this
  exact ⟨ys, ρ', a, b, c, d⟩
/-- no test: as many as there are turns -/
theorem comp_all {elt : E F} {own : List Nat} (I : Nat → Env → Prop) (G : PyData → Prop) {ds : List PyData} {ρ : Env} (h0 : I 0 ρ) (hs : ∀ (j : Nat) (d : PyData) (ρ : Env), ds[j]? = some d → I j ρ → ∃ ρ1 p y ρ3, assignT ρ tg d = some ρ1 ∧ evE Φ elt ρ1 = some p ∧ esc p = some (y, ρ3) ∧ G y ∧ I (j + 1) (wipeE ρ3 own)) :
    ∃ ys ρ', turnsE Φ elt .nil tg own ds ρ = some (ys, ρ') ∧ I ds.length ρ' ∧ (∀ y ∈ ys, G y) ∧ ys.length = ds.length := by
  have := turns_inv0 (fE := fun ρ => evE Φ elt ρ) (fC := fun ρ => evC Φ .nil ρ) (tg := tg) (own := own) I G (ds := ds) (i := 0) (fun j d ρ e h => by
    rw [Nat.zero_add] at h ⊢
    obtain ⟨ρ1, p, y, ρ3, a, b, c, g, i⟩ := hs j d ρ e h
    exact ⟨ρ1, true, ρ1, a, rfl, p, y, ρ3, b, c, g, i⟩) h0
  rw [Nat.zero_add] at this
  obtain ⟨ys, ρ', a, b, c, _, d⟩ := this
  exact ⟨ys, ρ', a, b, c, d fun ρ => ⟨ρ, rfl⟩⟩
theorem comp_map {elt : E F} {own : List Nat} {ρ : Env} (g : PyData → PyData) {ds : List PyData} (hs : ∀ d ∈ ds, ∃ ρ1 p ρ3, assignT ρ tg d = some ρ1 ∧ evE Φ elt ρ1 = some p ∧ esc p = some (g d, ρ3) ∧ wipeE ρ3 own = ρ) : turnsE Φ elt .nil tg own ds ρ = some (ds.map g, ρ) :=
  turns_map0 g fun d hd => by
    obtain ⟨ρ1, p, ρ3, e1, e2, e3, e4⟩ := hs d hd
    exact ⟨ρ1, p, ρ3, e1, rfl, e2, e3, e4⟩
theorem comp_filter {elt : E F} {cond : Es F} {own : List Nat} {ρ : Env} (g : PyData → PyData) (c : PyData → Bool) {ds : List PyData} (hs : ∀ d ∈ ds, ∃ ρ1, assignT ρ tg d = some ρ1 ∧ evC Φ cond ρ1 = some (c d, ρ1) ∧ wipeE ρ1 own = ρ ∧ (c d = true → ∃ p ρ3, evE Φ elt ρ1 = some p ∧ esc p = some (g d, ρ3) ∧ wipeE ρ3 own = ρ)) :
    turnsE Φ elt cond tg own ds ρ = some ((ds.filter c).map g, ρ) := turns_filter0 g c hs
end
end SP

/-! SpRp: repr of small data. -/
namespace SP
open PySem PySem.W
theorem small_text : ∀ n : Fin 1100, (PyData.shown (.int ((n.val : Int) - 100))).length ≤ 8 := by decide +kernel
theorem small_log : ∀ n : Fin 1100, ((n.val : Int) - 100).natAbs.log2 < 1920 := by decide +kernel
mutual
/-- no dict, no text; ints near 0; so deep at most -/
def tiny : Nat → PyData → Bool
  | _, .none | _, .bool _ => true
  | _, .int i => decide (-100 ≤ i) && decide (i < 1000)
  | _, .str _ => false
  | 0, .list _ | 0, .tuple _ => false
  | n + 1, .list xs | n + 1, .tuple xs => tinyAll n xs
  | _, .dict _ => false
def tinyAll : Nat → List PyData → Bool
  | _, [] => true
  | n, x :: xs => tiny n x && tinyAll n xs
end
theorem fin_small {i : Int} (h : -100 ≤ i) (h2 : i < 1000) : ∃ n : Fin 1100, i = (n.val : Int) - 100 := ⟨⟨(i + 100).toNat, by omega⟩, by show i = (((i + 100).toNat : Nat) : Int) - 100; omega⟩
mutual
theorem tiny_ok : ∀ (n : Nat) (d : PyData), tiny n d = true → d.leavesShort 8 = true ∧ d.showable = true ∧ d.hasDict = false ∧ d.depth ≤ n
  | n, .none, _ => ⟨by simp [PyData.leavesShort], by simp [PyData.showable], by simp [PyData.hasDict], by simp [PyData.depth]⟩
  | n, .bool _, _ => ⟨by simp [PyData.leavesShort], by simp [PyData.showable], by simp [PyData.hasDict], by simp [PyData.depth]⟩
  | n, .int i, h => by
    simp only [tiny, Bool.and_eq_true, decide_eq_true_eq] at h
    obtain ⟨m, rfl⟩ := fin_small h.1 h.2
    exact ⟨by simpa [PyData.leavesShort] using small_text m, by simpa [PyData.showable] using small_log m, by simp [PyData.hasDict], by simp [PyData.depth]⟩
  | n, .str _, h => by cases n <;> simp [tiny] at h
  | 0, .list _, h => by simp [tiny] at h
  | 0, .tuple _, h => by simp [tiny] at h
  | n + 1, .list xs, h => by
    obtain ⟨a, b, c, d⟩ := tinyAll_ok n xs (by simpa [tiny] using h)
    exact ⟨by simpa [PyData.leavesShort] using a, by simpa [PyData.showable] using b, by simpa [PyData.hasDict] using c, by simp only [PyData.depth]; omega⟩
  | n + 1, .tuple xs, h => by
    obtain ⟨a, b, c, d⟩ := tinyAll_ok n xs (by simpa [tiny] using h)
    exact ⟨by simpa [PyData.leavesShort] using a, by simpa [PyData.showable] using b, by simpa [PyData.hasDict] using c, by simp only [PyData.depth]; omega⟩
  | n, .dict _, h => by cases n <;> simp [tiny] at h
theorem tinyAll_ok : ∀ (n : Nat) (ds : List PyData), tinyAll n ds = true → PyData.leavesShortAll 8 ds = true ∧ PyData.showableAll ds = true ∧ PyData.hasDictAll ds = false ∧ PyData.depthAll ds ≤ n
  | n, [], _ => ⟨by simp [PyData.leavesShortAll], by simp [PyData.showableAll], by simp [PyData.hasDictAll], by simp [PyData.depthAll]⟩
  | n, x :: xs, h => by
    simp only [tinyAll, Bool.and_eq_true] at h
    obtain ⟨a, b, c, d⟩ := tiny_ok n x h.1
    obtain ⟨a', b', c', d'⟩ := tinyAll_ok n xs h.2
    exact ⟨by simp [PyData.leavesShortAll, a, a'], by simp [PyData.showableAll, b, b'], by simp [PyData.hasDictAll, c, c'], by simp only [PyData.depthAll]; omega⟩
end
theorem y_repr {d : PyData} {n : Nat} (h : tiny n d = true) (hn : n ≤ 60) (hw : d.weight ≤ 90000) : bltD .repr [d] = some (.dat (.str d.shown)) := by
  obtain ⟨a, b, c, e⟩ := tiny_ok n d h
  have l := PyData.shown_le 8 (Nat.le_refl 8) d a
  show reprD [d] = _
  unfold reprD
  dsimp only
  rw [if_pos]
  simp only [b, c, Bool.not_false, Bool.and_self, Bool.true_and, Bool.and_eq_true, decide_eq_true_eq]
  refine ⟨?_, ?_⟩
  · show d.depth ≤ 60; omega
  · show _ ≤ 1000000; omega
@[simp] theorem y_eqs {x : Str} : cmpD .Eq (.str x) (.str x) = some true := by simp [cmpD, eqD, sm, deepest, PyData.eqv]
@[simp] theorem y_nes {x : Str} : cmpD .NotEq (.str x) (.str x) = some false := by simp [cmpD, eqD, sm, deepest, PyData.eqv]

theorem small_w : ∀ n : Fin 1100, (PyData.int ((n.val : Int) - 100)).weight ≤ 10 := by decide +kernel
theorem w_int {i : Int} (h : -100 ≤ i) (h2 : i < 1000) : (PyData.int i).weight ≤ 10 := by
  obtain ⟨m, rfl⟩ := fin_small h h2
  exact small_w m
theorem w_all {w : Nat} : ∀ {ds : List PyData}, (∀ d ∈ ds, d.weight ≤ w) → PyData.weightAll ds ≤ (w + 1) * ds.length
  | [], _ => by simp [PyData.weightAll]
  | d :: ds, h => by
    have a := h d (List.mem_cons_self ..)
    have b := w_all (ds := ds) fun x hx => h x (List.mem_cons_of_mem _ hx)
    simp only [PyData.weightAll, List.length_cons, Nat.mul_succ]
    omega
theorem tiny_all {n : Nat} : ∀ {ds : List PyData}, (∀ d ∈ ds, tiny n d = true) → tinyAll n ds = true
  | [], _ => by simp [tinyAll]
  | d :: ds, h => by
    simp only [tinyAll, Bool.and_eq_true]
    exact ⟨h d (List.mem_cons_self ..), tiny_all (ds := ds) fun x hx => h x (List.mem_cons_of_mem _ hx)⟩
theorem tiny_int {n : Nat} {i : Int} (h : -100 ≤ i) (h2 : i < 1000) : tiny n (.int i) = true := by cases n <;> simp [tiny, h, h2]
end SP

namespace SP
open PySem PySem.W PyProof.Rows
/-- two lists with the same members, turned about, are sorted alike, where equal keys mean equal members -/
theorem sortD_perm {as bs : List D} (h : as.Perm bs) (hk : ∀ x, x ∈ as → ∀ y, y ∈ as → keyToks x = keyToks y → x = y) : sortD as = sortD bs := by
  have T := sortLe_total (listOrd itemOrd) false (keyToks)
  have p : (sortD as).Perm (sortD bs) := (List.mergeSort_perm as _).trans (h.trans (List.mergeSort_perm bs _).symm)
  refine List.Perm.eq_of_pairwise (le := fun a b => dataLe false id a b = true) ?_ (sort_pairwise T as) (sort_pairwise T bs) p
  intro a b ha hb h1 h2
  have ma : a ∈ as := (List.mergeSort_perm as _).subset ha
  have mb : b ∈ as := h.symm.subset ((List.mergeSort_perm bs _).subset hb)
  refine hk a ma b mb ?_
  have g1 : (!(listOrd itemOrd).blt (keyToks b) (keyToks a)) = true := h1
  have g2 : (!(listOrd itemOrd).blt (keyToks a) (keyToks b)) = true := h2
  rw [Bool.not_eq_true'] at g1 g2
  exact (listOrd itemOrd).total _ _ g2 g1
end SP

/-! SpEw: more of the evaluator's rows: calls with a lent object. -/
namespace SP
open PySem
section
variable {F : Type} {Φ : F → List Sl → Option (Sl × List MO)} {ρ : Env}
theorem v_lent {f : F} {as : List Arg} {ss : List Sl} {s : Sl} (h1 : argSls ρ as = some ss) (h2 : refsOf as = []) (h5 : Φ f ss = some (s, [])) (hc : cleanS s = true) : callE Φ f as ρ = some (s.res, ρ) := by
  unfold callE
  rw [h1]
  simp only [h2, List.nodup_nil, List.not_mem_nil, false_implies, implies_true, not_false_eq_true, and_self, if_true, h5, List.isEmpty_nil, hc, Bool.and_self, putBack, Option.map_some]
/-- the first argument is an object of slot i, lent -/
theorem v_lent1 {f : F} {i : Nat} {m : MO} {ds : List D} {s : Sl} (h5 : Φ f (.dat m.data :: ds.map .dat) = some (s, [])) (hc : cleanS s = true) (h : slot ρ i = some (.own m)) : callE Φ f (.val (.loc i) :: ds.map fun d => .val (.dat d)) ρ = some (s.res, ρ) := by
  have e1 : argSls ρ (ds.map fun d => Arg.val (.dat d)) = some (ds.map .dat) := by
    clear h5
    induction ds with
    | nil => rfl
    | cons d r ih => rw [List.map_cons, v_ass1, ih]; rfl
  have e2 : refsOf (ds.map fun d => Arg.val (.dat d)) = [] := by
    clear e1 h5
    induction ds with
    | nil => rfl
    | cons d r ih => exact ih
  refine v_lent (ss := .dat m.data :: ds.map .dat) ?_ ?_ h5 hc
  · rw [v_ass1, e1, v_as1, v_res3, h]; rfl
  · rw [v_rf2, e2]
end
end SP

/-! SpL1: data of schemes, standings, steps: what needs no program. -/
namespace LW
open PySem SP
section
variable {v : Int} {Ls : List (List Int)} {wr rs : List PyData} {ws : List Int} {Rs : List (Int × Int × Int)} {most : Nat}
/-- a pen: so many places of the script are used at most -/
def PenOk (b : Nat) (m : MO) : Prop := ∃ (cells : List Int) (a : Nat) (x : Int), m = .lst [.list (cells.map .int), .int a, .int x] ∧ a ≤ b
theorem PenOk.mono {b c : Nat} {m : MO} (h : PenOk b m) (l : b ≤ c) : PenOk c m := let ⟨cells, a, x, e, q⟩ := h; ⟨cells, a, x, e, Nat.le_trans q l⟩
theorem ix_ints {cells : List Int} {n : Nat} (h : n < cells.length) : idxD (.list (cells.map .int)) (.int (n : Int)) = some (.int cells[n]) := y_ixL (by rw [List.getElem?_map, List.getElem?_eq_getElem h]; rfl)
def iT (l : List Int) : PyData := .tuple (l.map .int)
theorem ok_rng {a b : Int} (h1 : -(2 ^ 62) ≤ a) (h2 : a < 2 ^ 62) (h3 : -(2 ^ 62) ≤ b) (h4 : b < 2 ^ 62) : okRng a b = true := by
  unfold okRng
  simp only [Bool.and_eq_true, decide_eq_true_eq]
  exact ⟨⟨⟨h1, h2⟩, h3⟩, h4⟩
/-- ints from -1 on, below v -/
def Ints (v : Int) (d : PyData) : Prop := ∃ i : Int, d = .int i ∧ -1 ≤ i ∧ i < v
def EffOk (v : Int) (d : PyData) : Prop := ∃ l : List Int, d = iT l ∧ (l.length : Int) = v + 1 ∧ ∀ x ∈ l, -1 ≤ x ∧ x < v
theorem ints_of {v : Int} : ∀ {ds : List PyData}, (∀ d ∈ ds, Ints v d) → ∃ l : List Int, ds = l.map .int ∧ ∀ x ∈ l, -1 ≤ x ∧ x < v
  | [], _ => ⟨[], rfl, fun _ z => nomatch z⟩
  | d :: ds, h => by
    obtain ⟨i, rfl, a, b⟩ := h d (List.mem_cons_self ..)
    obtain ⟨l, rfl, c⟩ := ints_of (ds := ds) fun d hd => h d (List.mem_cons_of_mem _ hd)
    exact ⟨i :: l, rfl, fun x hx => by
      rcases List.mem_cons.mp hx with rfl | hx
      · exact ⟨a, b⟩
      · exact c x hx⟩
theorem eff_at {v : Int} {l : List Int} (hl : (l.length : Int) = v + 1) {s : Int} (h0 : -1 ≤ s) (h1 : s < v) : ∃ x, x ∈ l ∧ l[(s + 1).toNat]? = some x ∧ idxD (iT l) (.int (s + 1)) = some (.int x) := by
  obtain ⟨n, hn⟩ : ∃ n : Nat, s + 1 = n := ⟨(s + 1).toNat, by omega⟩
  have hlt : n < l.length := by omega
  refine ⟨l[n], List.getElem_mem hlt, by rw [hn]; simp [hlt], ?_⟩
  rw [hn]
  exact y_ixT (by rw [List.getElem?_map, List.getElem?_eq_getElem hlt]; rfl)
/-- rules of n operands -/
def RuleOk (n : Nat) (d : PyData) : Prop := ∃ a b c : Int, d = .tuple [.int a, .int b, .int c] ∧ 0 ≤ a ∧ a < n ∧ 0 ≤ b ∧ b < n ∧ -1 ≤ c ∧ c < n
theorem sm_ints {n : Nat} : ∀ l : List Int, smAll n (l.map .int) = true
  | [] => by simp [smAll]
  | i :: l => by simp [smAll, sm_int, sm_ints l]
theorem sm_iT {n : Nat} (l : List Int) : sm (n + 1) (iT l) = true := by unfold iT; simp [sm, sm_ints]
theorem sm_eff {v : Int} {d : PyData} {n : Nat} (h : EffOk v d) : sm (n + 1) d = true := by obtain ⟨l, rfl, _⟩ := h; exact sm_iT l
theorem eq_sm {x y : PyData} (h1 : sm deepest x = true) (h2 : sm deepest y = true) : cmpD .Eq x y = some (PyData.eqv x y) := by
  simp [cmpD, eqD, h1, h2]
theorem ne_sm {x y : PyData} (h1 : sm deepest x = true) (h2 : sm deepest y = true) : cmpD .NotEq x y = some (!PyData.eqv x y) := by
  simp [cmpD, eqD, h1, h2]

/-- the slots of draw_rules within its loops -/
def RI (n : Nat) (E : List PyData) (often wild : Int) (same : PyData) (s6 s7 : Option Sl) (c b : Nat) (ρ : SP.Env) : Prop :=
  ∃ (m : MO) (fs : List PyData) (s8 s9 s10 s11 s12 : Option Sl), PenOk b m ∧ (∀ f ∈ fs, RuleOk n f) ∧ fs.length ≤ c ∧
    ρ = [some (.own m), some (.dat (.tuple E)), some (.dat (.int often)), some (.dat (.int wild)), some (.own (.lst fs)), some (.dat same), s6, s7, s8, s9, s10, s11, s12, none, none]
theorem zip_at {ds : List PyData} {i : Nat} {d : PyData} (h : (ds.zipIdx.map fun (x, i) => PyData.tuple [.int (i : Nat), x])[i]? = some d) : ∃ x, ds[i]? = some x ∧ d = .tuple [.int (i : Nat), x] := by
  rw [List.getElem?_map, List.getElem?_zipIdx] at h
  cases q : ds[i]? with
  | none => rw [q] at h; cases h
  | some x => rw [q] at h; exact ⟨x, rfl, by simpa using h.symm⟩
theorem y_ixLn {xs : List PyData} {j : Nat} {d : PyData} (h0 : 1 ≤ j) (h : j ≤ xs.length) (e : xs[xs.length - j]? = some d) : idxD (.list xs) (.int (-(j : Nat))) = some d := by
  show (ixOf xs.length _).bind _ = _
  have : ixOf xs.length (-(j : Int)) = some (xs.length - j) := by
    unfold ixOf
    rw [if_neg (by omega), if_pos (by omega)]
    congr 1
    omega
  rw [this]; exact e
theorem cut_to {xs : List PyData} {i : Int} (h : 0 ≤ i) : cutL xs none (some i) = xs.take i.toNat := by
  unfold cutL bndI clampI
  simp only [List.drop_zero, Nat.sub_zero]
  rw [if_neg (by omega)]
  rw [List.take_eq_take_iff]
  omega
/-- a scheme, its effects, its written operands, its rules -/
def SchOk (most : Nat) (S : PyData) : Prop := ∃ (v : Int) (E wr rs : List PyData), S = .tuple [.int v, .tuple E, .tuple wr, .tuple rs] ∧ 1 ≤ v ∧ v ≤ 3 ∧ 1 ≤ E.length ∧ E.length ≤ most ∧ (∀ d ∈ E, EffOk v d) ∧
  (∀ d ∈ wr, ∃ i : Int, d = .int i ∧ 0 ≤ i ∧ i < E.length) ∧ 1 ≤ wr.length ∧ wr.length ≤ E.length ∧ (∀ f ∈ rs, RuleOk E.length f) ∧ rs.length ≤ E.length * E.length
mutual
/-- no dict in it, so deep at most, no row too long -/
def smz : Nat → PyData → Bool
  | _, .none | _, .bool _ | _, .int _ | _, .str _ => true
  | 0, .list _ | 0, .tuple _ => false
  | n + 1, .list xs | n + 1, .tuple xs => decide (xs.length ≤ szMax) && smzAll n xs
  | _, .dict _ => false
def smzAll : Nat → List PyData → Bool
  | _, [] => true
  | n, x :: xs => smz n x && smzAll n xs
end
theorem smzAll_mem {n : Nat} : ∀ {xs : List PyData}, smzAll n xs = true → ∀ x ∈ xs, smz n x = true
  | [], _, _, m => nomatch m
  | y :: ys, h, x, m => by
    simp only [smzAll, Bool.and_eq_true] at h
    rcases List.mem_cons.mp m with rfl | m
    · exact h.1
    · exact smzAll_mem h.2 x m
theorem smz_none {n : Nat} : smz n .none = true := by cases n <;> rfl
theorem smz_int {n : Nat} {i : Int} : smz n (.int i) = true := by cases n <;> rfl
theorem smz_ints {n : Nat} : ∀ l : List Int, smzAll n (l.map .int) = true
  | [] => by simp [smzAll]
  | i :: l => by simp [smzAll, smz_int, smz_ints l]
theorem bools_false (xs : List PyData) : cmpD .NotIn (.bool false) (.list (xs.map fun _ => .bool true)) = some true := by
  have h1 : smAll deepest (xs.map fun _ => PyData.bool true) = true := by
    induction xs with
    | nil => rfl
    | cons x r ih => simp only [List.map_cons, smAll, Bool.and_eq_true]; exact ⟨rfl, ih⟩
  have h2 : (xs.map fun _ => PyData.bool true).any (fun z => PyData.eqv z (.bool false)) = false := by
    rw [List.any_eq_false]
    intro z hz
    obtain ⟨_, _, rfl⟩ := List.mem_map.mp hz
    decide
  have h3 : sm deepest (.bool false) = true := rfl
  simp only [cmpD, inD, h1, h2, h3, Bool.and_self, if_true, Option.map_some, Bool.not_false]
theorem zip_self (xs : List PyData) : ((xs.zip xs).map fun (u, v) => PyData.tuple [u, v]) = xs.map fun x => .tuple [x, x] := by
  induction xs with
  | nil => rfl
  | cons x r ih => rw [List.zip_cons_cons, List.map_cons, ih, List.map_cons]
def EffL (v : Int) (Ls : List (List Int)) : Prop := ∀ l ∈ Ls, (l.length : Int) = v + 1 ∧ ∀ x ∈ l, -1 ≤ x ∧ x < v
theorem effL_of {v : Int} : ∀ {E : List PyData}, (∀ d ∈ E, EffOk v d) → ∃ Ls, E = Ls.map iT ∧ EffL v Ls
  | [], _ => ⟨[], rfl, fun _ z => nomatch z⟩
  | d :: E, h => by
    obtain ⟨l, rfl, a, b⟩ := h d (List.mem_cons_self ..)
    obtain ⟨Ls, rfl, c⟩ := effL_of (E := E) fun d hd => h d (List.mem_cons_of_mem _ hd)
    exact ⟨l :: Ls, rfl, fun x hx => by
      rcases List.mem_cons.mp hx with rfl | hx
      · exact ⟨a, b⟩
      · exact c x hx⟩
def stp (Ls : List (List Int)) (s a : Int) : Int := ((Ls[a.toNat]?.getD [])[(s + 1).toNat]?).getD 0
theorem stp_ok {v : Int} {Ls : List (List Int)} (h : EffL v Ls) {s a : Int} (a0 : 0 ≤ a) (a1 : a < Ls.length) (s0 : -1 ≤ s) (s1 : s < v) :
    ∃ y, idxD (.tuple (Ls.map iT)) (.int a) = some y ∧ idxD y (.int (s + 1)) = some (.int (stp Ls s a)) ∧ -1 ≤ stp Ls s a ∧ stp Ls s a < v := by
  obtain ⟨n, rfl⟩ : ∃ n : Nat, a = n := ⟨a.toNat, by omega⟩
  have hn : n < Ls.length := by omega
  obtain ⟨b, c⟩ := h Ls[n] (List.getElem_mem hn)
  obtain ⟨x, hx, e1, e2⟩ := eff_at b s0 s1
  have hs : stp Ls s n = x := by
    unfold stp
    rw [show ((n : Int)).toNat = n by omega, List.getElem?_eq_getElem hn]
    show (Ls[n][(s + 1).toNat]?).getD 0 = x
    rw [e1]; rfl
  exact ⟨iT Ls[n], y_ixT (by rw [List.getElem?_map, List.getElem?_eq_getElem hn]; rfl), by rw [hs]; exact e2, by rw [hs]; exact (c x hx).1, by rw [hs]; exact (c x hx).2⟩
def encS (v : Int) (Ls : List (List Int)) (wr rs : List PyData) : PyData := .tuple [.int v, .tuple (Ls.map iT), .tuple wr, .tuple rs]
def fld (Ls : List (List Int)) (row : List Int) (s : Int) : Int := row.foldl (stp Ls) s
theorem fld_ok (h : EffL v Ls) : ∀ {row : List Int} {s : Int}, (∀ a ∈ row, 0 ≤ a ∧ a < Ls.length) → -1 ≤ s → s < v → -1 ≤ fld Ls row s ∧ fld Ls row s < v
  | [], s, _, s0, s1 => ⟨s0, s1⟩
  | a :: row, s, hr, s0, s1 => by
    obtain ⟨_, _, _, b, c⟩ := stp_ok h (hr a (List.mem_cons_self ..)).1 (hr a (List.mem_cons_self ..)).2 s0 s1
    exact fld_ok h (row := row) (s := stp Ls s a) (fun x hx => hr x (List.mem_cons_of_mem _ hx)) b c
theorem fld_take {row : List Int} {s : Int} {j : Nat} {a : Int} (h : row[j]? = some a) : fld Ls (row.take (j + 1)) s = stp Ls (fld Ls (row.take j) s) a := by
  obtain ⟨hl, rfl⟩ := List.getElem?_eq_some_iff.mp h
  unfold fld
  rw [List.take_succ_eq_append_getElem hl, List.foldl_append]
  rfl
def fldD (Ls : List (List Int)) (row : List Int) : PyData → PyData
  | .int s => .int (fld Ls row s)
  | d => d
/-- the states' ends, as both tell them -/
def endsOf (v : Int) (Ls : List (List Int)) (row : List Int) : List PyData := (rngL (-1) v).map (fldD Ls row)
def encR (r : Int × Int × Int) : PyData := .tuple [.int r.1, .int r.2.1, .int r.2.2]
def hits (a b : Int) (r : Int × Int × Int) : Bool := decide (r.1 = a) && decide (r.2.1 = b)
def ruleOf (Rs : List (Int × Int × Int)) (a b : Int) : PyData := match Rs.find? (hits a b) with
  | some r => .int r.2.2
  | none => .none
theorem rules_of {n : Nat} : ∀ {rs : List PyData}, (∀ f ∈ rs, RuleOk n f) → ∃ Rs : List (Int × Int × Int), rs = Rs.map encR ∧ ∀ r ∈ Rs, 0 ≤ r.1 ∧ r.1 < n ∧ 0 ≤ r.2.1 ∧ r.2.1 < n ∧ -1 ≤ r.2.2 ∧ r.2.2 < n
  | [], _ => ⟨[], rfl, fun _ z => nomatch z⟩
  | f :: rs, h => by
    obtain ⟨a, b, c, rfl, q⟩ := h f (List.mem_cons_self ..)
    obtain ⟨Rs, rfl, p⟩ := rules_of (rs := rs) fun d hd => h d (List.mem_cons_of_mem _ hd)
    exact ⟨(a, b, c) :: Rs, rfl, fun x hx => by
      rcases List.mem_cons.mp hx with rfl | hx
      · exact q
      · exact p x hx⟩
theorem cut2 {x y z : PyData} : slcD (.tuple [x, y, z]) none (some 2) = some (.dat (.tuple [x, y])) := by
  show some (Sl.dat (.tuple (cutL [x, y, z] none (some 2)))) = _
  rw [cut_to (by decide)]
  rfl
theorem eq_pair {p q a b : Int} : cmpD .Eq (.tuple [.int p, .int q]) (.tuple [.int a, .int b]) = some (decide (p = a) && decide (q = b)) := by
  rw [eq_sm rfl rfl]
  simp [PyData.eqv, PyData.eqvAll]
  rfl
theorem forE_cons {F : Type} {Φ : F → List Sl → Option (Sl × List MO)} {W : Nat} {tg : Tg} {b : Cs F} {d : PyData} {ds : List PyData} {ρ : SP.Env} : forE Φ W tg b (d :: ds) ρ = (assignT ρ tg d).bind fun ρ1 => (evB Φ W b ρ1).bind fun o => match o with
      | .nx ρ2 => forE Φ W tg b ds ρ2
      | .ct ρ2 => forE Φ W tg b ds ρ2
      | .rt s ρ2 => some (.rt s ρ2) := rfl
theorem cut_from {xs : List PyData} {i j : Int} (h : 0 ≤ i) (h2 : 0 ≤ j) : cutL xs (some i) (some j) = (xs.drop i.toNat).take (min j.toNat xs.length - min i.toNat xs.length) := by
  unfold cutL bndI clampI
  simp only []
  rw [if_neg (by omega), if_neg (by omega)]
  by_cases hi : i.toNat ≤ xs.length
  · rw [Nat.min_eq_left hi]
  · have e1 : xs.drop i.toNat = [] := List.drop_eq_nil_of_le (by omega)
    have e2 : xs.drop (min i.toNat xs.length) = [] := List.drop_eq_nil_of_le (by omega)
    rw [e1, e2]
structure St where
  b : Int
  cs : List Int
  hs : List Int
def encT (s : St) : PyData := .tuple [.int s.b, iT s.cs, iT s.hs]
structure StOk (v : Int) (n : Nat) (s : St) : Prop where
  b0 : -1 ≤ s.b
  b1 : s.b < v
  c : ∀ a ∈ s.cs, 0 ≤ a ∧ a < n
  h : ∀ p ∈ s.hs, 0 ≤ p ∧ p ≤ s.cs.length
  cl : s.cs.length ≤ 100
  hl : s.hs.length ≤ 3
theorem cut_iT {xs : List Int} {p : Int} (h : 0 ≤ p) : slcD (iT xs) none (some p) = some (.dat (iT (xs.take p.toNat))) := by
  show some (Sl.dat (.tuple (cutL (xs.map .int) none (some p)))) = _
  rw [cut_to h, ← List.map_take]
  rfl
def readsL (Ls : List (List Int)) (s : St) : List PyData := .int (fld Ls s.cs s.b) :: s.hs.map fun p => .int (fld Ls (s.cs.take p.toNat) s.b)
theorem any_eqv (x : Int) : ∀ hs : List Int, ((hs.map PyData.int).any fun z => PyData.eqv z (.int x)) = hs.contains x
  | [] => rfl
  | a :: hs => by
    have e : PyData.eqv (.int a) (.int x) = (x == a) := by
      rw [Bool.eq_iff_iff]
      simp [PyData.eqv]
      exact ⟨Eq.symm, Eq.symm⟩
    rw [List.map_cons, List.any_cons, any_eqv x hs, List.contains_cons, e]
theorem notin_ints {x : Int} {hs : List Int} : cmpD .NotIn (.int x) (iT hs) = some (!hs.contains x) := by
  have h1 : smAll deepest (hs.map PyData.int) = true := sm_ints hs
  have h2 : sm deepest (.int x) = true := sm_int
  show (inD (.int x) (.tuple (hs.map .int))).map (!·) = _
  unfold inD
  simp only [h1, h2, Bool.and_self, if_true, any_eqv, Option.map_some]
@[simp] theorem len_iT {xs : List Int} : bltD .len [iT xs] = some (.dat (.int xs.length)) := by
  show some (Sl.dat (.int ((xs.map PyData.int).length : Nat))) = _
  rw [List.length_map]
@[simp] theorem it_iT {xs : List Int} : itemsD (iT xs) = some (xs.map .int) := (rfl)
theorem rng0 {n : Nat} : rngL 0 (n : Int) = (List.range n).map fun i => .int ((i : Nat) : Int) := by
  unfold rngL
  rw [show ((n : Int) - 0).toNat = n by omega]
  congr 1
  funext i
  rw [Int.zero_add]
def gapB (s : St) (k : Nat) : Bool := !s.hs.contains ((k : Int) + 1)
def ruleB (Rs : List (Int × Int × Int)) (s : St) (k : Nat) : Bool := !isNoneD (ruleOf Rs ((s.cs[k]?).getD 0) ((s.cs[k + 1]?).getD 0))
def mergesL (Rs : List (Int × Int × Int)) (s : St) : List Nat := (List.range (s.cs.length - 1)).filter fun k => gapB s k && ruleB Rs s k
def gapD (s : St) : PyData → Bool
  | .int x => !s.hs.contains (x + 1)
  | _ => false
def ruleD (Rs : List (Int × Int × Int)) (s : St) : PyData → Bool
  | .int x => ruleB Rs s x.toNat
  | _ => false
theorem cell_at {s : St} {k : Nat} (h : k < s.cs.length) : idxD (iT s.cs) (.int (k : Nat)) = some (.int ((s.cs[k]?).getD 0)) := by
  refine y_ixT ?_
  rw [List.getElem?_map, List.getElem?_eq_getElem h]
  rfl
theorem rng1_len {n : Nat} : rngL 0 ((n : Int) - 1) = (List.range (n - 1)).map fun i => .int ((i : Nat) : Int) := by
  unfold rngL
  rw [show ((n : Int) - 1 - 0).toNat = n - 1 by omega]
  congr 1
  funext i
  rw [Int.zero_add]
inductive Stp where
  | wr (a : Int) | mg (k : Nat) | se | ho | le (i : Nat)
  deriving DecidableEq
def encP : Stp → PyData
  | .wr a => .tuple [.str (Str.ofString "write"), .int a]
  | .mg k => .tuple [.str (Str.ofString "merge"), .int (k : Nat)]
  | .se => .tuple [.str (Str.ofString "settle")]
  | .ho => .tuple [.str (Str.ofString "hold")]
  | .le i => .tuple [.str (Str.ofString "let"), .int (i : Nat)]
theorem encP_alike (a b : Stp) : PySem.W.alike (encP a) (encP b) = true := by
  cases a <;> cases b <;> simp [encP, PySem.W.alike, PySem.W.alikeAll]
theorem encP_key {a b : Stp} (h : PySem.W.keyToks (encP a) = PySem.W.keyToks (encP b)) : encP a = encP b := by
  have q1 : (Str.ofString "write").cps ≠ (Str.ofString "merge").cps := by decide
  have q2 : (Str.ofString "write").cps ≠ (Str.ofString "let").cps := by decide
  have q3 : (Str.ofString "merge").cps ≠ (Str.ofString "let").cps := by decide
  have q4 : (Str.ofString "settle").cps ≠ (Str.ofString "hold").cps := by decide
  cases a <;> cases b <;> simp [encP, PySem.W.keyToks, PySem.W.keyToksAll, q1, q1.symm, q2, q2.symm, q3, q3.symm, q4, q4.symm] at h ⊢ <;> exact h
theorem steps_sort {l l' : List Stp} (h : l.Perm l') : sortD (l.map encP) = sortD (l'.map encP) := by
  refine sortD_perm (h.map encP) fun x hx y hy e => ?_
  obtain ⟨a, _, rfl⟩ := List.mem_map.mp hx
  obtain ⟨b, _, rfl⟩ := List.mem_map.mp hy
  exact encP_key e
theorem steps_sm : ∀ l : List Stp, smAll deepest (l.map encP) = true
  | [] => rfl
  | a :: l => by
    rw [List.map_cons]
    simp only [smAll, Bool.and_eq_true]
    exact ⟨by cases a <;> simp [encP, deepest, sm, smAll], steps_sm l⟩
theorem steps_sorted {l : List Stp} : bltD .sorted [.list (l.map encP)] = some (.own (.lst (sortD (l.map encP)))) := by
  have h1 : allAlike (l.map encP) = true := by
    unfold allAlike
    simp [encP_alike]
  have h2 : sortable (l.map encP) = true := by
    unfold sortable
    rw [Bool.or_eq_true]
    refine .inl (List.all_eq_true.mpr fun d hd => ?_)
    obtain ⟨a, _, rfl⟩ := List.mem_map.mp hd
    cases a <;> rfl
  show sortedD [.list (l.map encP)] = _
  simp only [sortedD_list, okSort, steps_sm, h1, h2, Bool.and_self, if_true]
def seL (s : St) : List Stp := if (!s.cs.isEmpty && !s.hs.contains 0) = true then [.se] else []
def hoL (s : St) : List Stp := if s.hs.length < 3 then [.ho] else []
def leL (s : St) : List Stp := (List.range s.hs.length).map .le
def progL (Rs : List (Int × Int × Int)) (ws : List Int) (s : St) : List Stp := ws.map .wr ++ (mergesL Rs s).map .mg ++ seL s ++ hoL s ++ leL s
def lawL (Rs : List (Int × Int × Int)) (ws : List Int) (s : St) : List Stp := hoL s ++ leL s ++ (mergesL Rs s).map .mg ++ seL s ++ ws.map .wr
theorem prog_law (Rs : List (Int × Int × Int)) (ws : List Int) (s : St) : (progL Rs ws s).Perm (lawL Rs ws s) := by
  unfold progL lawL
  generalize ws.map Stp.wr = A
  generalize (mergesL Rs s).map Stp.mg = B
  generalize seL s = C
  generalize hoL s = D
  generalize leL s = E
  rw [List.perm_iff_count]
  intro x
  simp only [List.count_append]
  omega
theorem ne_nil {cs : List Int} : cmpD .NotEq (iT cs) (.tuple []) = some (!cs.isEmpty) := by
  rw [ne_sm (by show sm (59 + 1) _ = true; exact sm_iT _) rfl]
  cases cs <;> simp [iT, PyData.eqv, PyData.eqvAll]
def wrD : PyData → PyData
  | .int a => encP (.wr a)
  | d => d
def mgD : PyData → PyData
  | .int a => encP (.mg a.toNat)
  | d => d
def leD : PyData → PyData
  | .int a => encP (.le a.toNat)
  | d => d
def mgP (Rs : List (Int × Int × Int)) (s : St) (j : Nat) : List Stp := ((List.range j).filter fun k => gapB s k && ruleB Rs s k).map .mg
theorem mgP_succ {Rs : List (Int × Int × Int)} {s : St} {j : Nat} : mgP Rs s (j + 1) = mgP Rs s j ++ if (gapB s j && ruleB Rs s j) = true then [.mg j] else [] := by
  unfold mgP
  rw [List.range_succ, List.filter_append, List.map_append]
  congr 1
  cases h : (gapB s j && ruleB Rs s j) <;> simp [h]
theorem cat_iT {a b : List Int} (h : a.length + b.length ≤ 1000000) : binD .Add (iT a) (iT b) = some (.dat (iT (a ++ b))) := by
  show binD .Add (.tuple (a.map .int)) (.tuple (b.map .int)) = some (.dat (.tuple ((a ++ b).map .int)))
  rw [y_catT (by rw [List.length_map, List.length_map]; exact h), List.map_append]
theorem one_iT {a : Int} : PyData.tuple [.int a] = iT [a] := rfl
theorem eq_str {x y : Str} : cmpD .Eq (.str x) (.str y) = some (decide (x = y)) := by
  rw [eq_sm rfl rfl]
  simp only [PyData.eqv]
  congr 1
theorem cutf_iT {xs : List Int} {p : Nat} : slcD (iT xs) (some (p : Int)) none = some (.dat (iT (xs.drop p))) := by
  show some (Sl.dat (.tuple (cutL (xs.map .int) (some (p : Int)) none))) = _
  have e : cutL (xs.map PyData.int) (some (p : Int)) none = (xs.drop p).map .int := by
    unfold cutL bndI clampI
    simp only []
    rw [if_neg (by omega), List.map_drop, List.length_map]
    by_cases hi : p ≤ xs.length
    · rw [show min (p : Int).toNat xs.length = p by omega, List.take_of_length_le (by rw [List.length_drop, List.length_map]; omega)]
    · rw [List.drop_eq_nil_of_le (i := min (p : Int).toNat xs.length) (by rw [List.length_map]; omega), List.drop_eq_nil_of_le (i := p) (by rw [List.length_map]; omega)]
      simp
  rw [e]
  rfl
def decD : PyData → PyData
  | .int p => .int (p - 1)
  | d => d
theorem skip_at (i : Nat) : ∀ (hs : List Int) (n : Nat), ((hs.zipIdx n).filter fun x => decide (x.2 ≠ n + i)).map (fun x => x.1) = hs.take i ++ hs.drop (i + 1)
  | [], n => by simp
  | p :: hs, n => by
    rw [List.zipIdx_cons, List.filter_cons]
    cases i with
    | zero =>
      rw [if_neg (by simp)]
      have : ∀ x ∈ hs.zipIdx (n + 1), decide (x.2 ≠ n + 0) = true := fun x hx => by
        have := List.le_snd_of_mem_zipIdx hx
        simp; omega
      rw [List.filter_eq_self.mpr this]
      simp
    | succ i =>
      rw [if_pos (by simp)]
      have ih := skip_at i hs (n + 1)
      rw [show n + 1 + i = n + (i + 1) by omega] at ih
      rw [List.map_cons, ih]
      rfl
def notI (i : Nat) : PyData → Bool
  | .tuple [.int x, _] => decide (x ≠ (i : Int))
  | _ => false
def sndD : PyData → PyData
  | .tuple [_, d] => d
  | d => d
def midL (c : Int) : List Int := if c = -1 then [] else [c]
def lessI (c : Int) : Int := if c = -1 then 2 else 1
def shI (i : Nat) (c p : Int) : Int := if p ≤ (i : Int) then p else p - lessI c
def shD (i : Nat) (c : Int) : PyData → PyData
  | .int p => .int (shI i c p)
  | d => d
def mrg (s : St) (i : Nat) (c : Int) : St := ⟨s.b, s.cs.take i ++ midL c ++ s.cs.drop (i + 2), s.hs.map (shI i c)⟩
theorem ruleOf_cases (Rs : List (Int × Int × Int)) (a b : Int) : ruleOf Rs a b = .none ∨ ∃ r ∈ Rs, ruleOf Rs a b = .int r.2.2 := by
  unfold ruleOf
  cases h : Rs.find? (hits a b) with
  | none => exact .inl rfl
  | some r => exact .inr ⟨r, List.mem_of_find?_eq_some h, rfl⟩
def nxt (Ls : List (List Int)) (Rs : List (Int × Int × Int)) (s : St) : Stp → St
  | .wr a => ⟨s.b, s.cs ++ [a], s.hs⟩
  | .ho => ⟨s.b, s.cs, s.hs ++ [(s.cs.length : Int)]⟩
  | .le i => ⟨s.b, s.cs, s.hs.take i ++ s.hs.drop (i + 1)⟩
  | .se => ⟨stp Ls s.b (s.cs.headD 0), s.cs.drop 1, s.hs.map (· - 1)⟩
  | .mg i => match ruleOf Rs ((s.cs[i]?).getD 0) ((s.cs[i + 1]?).getD 0) with
    | .int c => mrg s i c
    | _ => s
def RsOk (n : Nat) (Rs : List (Int × Int × Int)) : Prop := ∀ r ∈ Rs, 0 ≤ r.1 ∧ r.1 < n ∧ 0 ≤ r.2.1 ∧ r.2.1 < n ∧ -1 ≤ r.2.2 ∧ r.2.2 < n
/-- what a step of a standing is -/
theorem law_mem {s : St} {p : Stp} (h : p ∈ lawL Rs ws s) : (∃ a ∈ ws, p = .wr a) ∨ (p = .ho ∧ s.hs.length < 3) ∨ (∃ i, p = .le i ∧ i < s.hs.length) ∨ (p = .se ∧ s.cs ≠ [] ∧ (0 : Int) ∉ s.hs) ∨
    ∃ i r, p = .mg i ∧ i + 1 < s.cs.length ∧ ((i : Int) + 1) ∉ s.hs ∧ r ∈ Rs ∧ ruleOf Rs ((s.cs[i]?).getD 0) ((s.cs[i + 1]?).getD 0) = .int r.2.2 := by
  unfold lawL at h
  simp only [List.mem_append] at h
  rcases h with (((h | h) | h) | h) | h
  · unfold hoL at h
    split at h
    · next q => rw [List.mem_singleton] at h; exact .inr (.inl ⟨h, q⟩)
    · cases h
  · unfold leL at h
    obtain ⟨i, hi, rfl⟩ := List.mem_map.mp h
    exact .inr (.inr (.inl ⟨i, rfl, List.mem_range.mp hi⟩))
  · obtain ⟨i, hi, rfl⟩ := List.mem_map.mp h
    unfold mergesL at hi
    obtain ⟨h1, h2⟩ := List.mem_filter.mp hi
    rw [List.mem_range] at h1
    rw [Bool.and_eq_true] at h2
    obtain ⟨g1, g2⟩ := h2
    rcases ruleOf_cases Rs ((s.cs[i]?).getD 0) ((s.cs[i + 1]?).getD 0) with e | ⟨r, hr, e⟩
    · unfold ruleB at g2
      rw [e] at g2
      exact absurd g2 (by decide)
    · refine .inr (.inr (.inr (.inr ⟨i, r, rfl, by omega, ?_, hr, e⟩)))
      simpa [gapB] using g1
  · unfold seL at h
    split at h
    · next q =>
      rw [List.mem_singleton] at h
      simp at q
      exact .inr (.inr (.inr (.inl ⟨h, q.1, q.2⟩)))
    · cases h
  · obtain ⟨a, ha, rfl⟩ := List.mem_map.mp h
    exact .inl ⟨a, ha, rfl⟩
theorem nxt_ok (h : EffL v Ls) {s : St} (o : StOk v Ls.length s) (hR : RsOk Ls.length Rs) (hw : ∀ a ∈ ws, 0 ≤ a ∧ a < Ls.length) {p : Stp} (hp : p ∈ lawL Rs ws s) (hl : s.cs.length ≤ 99) :
    StOk v Ls.length (nxt Ls Rs s p) ∧ (nxt Ls Rs s p).cs.length ≤ s.cs.length + 1 := by
  obtain ⟨b0, b1, c, hh, cl, hl3⟩ := o
  rcases law_mem hp with ⟨a, ha, rfl⟩ | ⟨rfl, h1⟩ | ⟨i, rfl, h1⟩ | ⟨rfl, h1, h2⟩ | ⟨i, r, rfl, h1, h2, hr, e⟩
  · refine ⟨⟨b0, b1, fun x hx => ?_, fun p hp => ?_, ?_, hl3⟩, ?_⟩
    · rcases List.mem_append.mp hx with hx | hx
      · exact c x hx
      · rw [List.mem_singleton] at hx; exact hx ▸ hw a ha
    · have := hh p hp
      simp only [nxt, List.length_append, List.length_singleton]
      omega
    · simp only [nxt, List.length_append, List.length_singleton]; omega
    · simp only [nxt, List.length_append, List.length_singleton]; omega
  · refine ⟨⟨b0, b1, c, fun p hp => ?_, cl, ?_⟩, by simp only [nxt]; omega⟩
    · rcases List.mem_append.mp hp with hp | hp
      · exact hh p hp
      · rw [List.mem_singleton] at hp; subst hp; simp only [nxt]; omega
    · simp only [nxt, List.length_append, List.length_singleton]; omega
  · refine ⟨⟨b0, b1, c, fun p hp => ?_, cl, ?_⟩, by simp only [nxt]; omega⟩
    · rcases List.mem_append.mp hp with hp | hp
      · exact hh p (List.mem_of_mem_take hp)
      · exact hh p (List.mem_of_mem_drop hp)
    · simp only [nxt, List.length_append, List.length_take, List.length_drop]; omega
  · cases hcs : s.cs with
    | nil => exact absurd hcs h1
    | cons a cs =>
      have ha := c a (hcs ▸ List.mem_cons_self ..)
      obtain ⟨_, _, _, y0, y1⟩ := stp_ok h ha.1 ha.2 b0 b1
      refine ⟨⟨?_, ?_, fun x hx => ?_, fun p hp => ?_, ?_, ?_⟩, ?_⟩
      · simp only [nxt, hcs, List.headD_cons]; exact y0
      · simp only [nxt, hcs, List.headD_cons]; exact y1
      · simp only [nxt] at hx; exact c x (List.mem_of_mem_drop hx)
      · simp only [nxt] at hp
        obtain ⟨q, hq, rfl⟩ := List.mem_map.mp hp
        have q0 := hh q hq
        have : q ≠ 0 := fun z => h2 (z ▸ hq)
        simp only [nxt, List.length_drop]
        omega
      · simp only [nxt, List.length_drop]; omega
      · simp only [nxt, List.length_map]; exact hl3
      · simp only [nxt, List.length_drop, List.length_cons]
        rw [hcs]; simp; omega
  · simp only [nxt, e]
    have hr' := hR r hr
    have hlen : (mrg s i r.2.2).cs.length = s.cs.length - 2 + (midL r.2.2).length := by
      simp only [mrg, List.length_append, List.length_take, List.length_drop]; omega
    have hmid : (midL r.2.2).length = if r.2.2 = -1 then 0 else 1 := by unfold midL; split <;> rfl
    refine ⟨⟨b0, b1, fun x hx => ?_, fun p hp => ?_, ?_, ?_⟩, ?_⟩
    · simp only [mrg] at hx
      rcases List.mem_append.mp hx with hx | hx
      · rcases List.mem_append.mp hx with hx | hx
        · exact c x (List.mem_of_mem_take hx)
        · unfold midL at hx
          split at hx
          · cases hx
          · rw [List.mem_singleton] at hx; subst hx; omega
      · exact c x (List.mem_of_mem_drop hx)
    · rw [hlen, hmid]
      simp only [mrg] at hp
      obtain ⟨q, hq, rfl⟩ := List.mem_map.mp hp
      have q0 := hh q hq
      have : q ≠ (i : Int) + 1 := fun z => h2 (z ▸ hq)
      unfold shI lessI
      split <;> split <;> omega
    · rw [hlen, hmid]; split <;> omega
    · simp only [mrg, List.length_map]; exact hl3
    · rw [hlen, hmid]; split <;> omega
theorem alike_ints (l : List Int) : allAlike (l.map .int) = true := by
  unfold allAlike
  simp [PySem.W.alike]
theorem sorted_ints (l : List Int) : ∃ l' : List Int, bltD .sorted [.list (l.map .int)] = some (.own (.lst (l'.map .int))) ∧ l'.Perm l := by
  have h2 : sortable (l.map PyData.int) = true := by
    unfold sortable
    rw [Bool.or_eq_true]
    refine .inr (List.all_eq_true.mpr fun d hd => ?_)
    obtain ⟨a, _, rfl⟩ := List.mem_map.mp hd
    rfl
  have h1 : smAll deepest (l.map PyData.int) = true := sm_ints l
  have hp : (sortD (l.map PyData.int)).Perm (l.map .int) := List.mergeSort_perm ..
  have hm : ∀ d ∈ sortD (l.map PyData.int), ∃ i, d = .int i := fun d hd => by
    obtain ⟨a, _, rfl⟩ := List.mem_map.mp (hp.subset hd)
    exact ⟨a, rfl⟩
  have hs : bltD .sorted [.list (l.map .int)] = some (.own (.lst (sortD (l.map .int)))) := by
    show sortedD [.list (l.map .int)] = _
    simp only [sortedD_list, okSort, h1, alike_ints, h2, Bool.and_self, if_true]
  rw [hs]
  generalize sortD (l.map PyData.int) = q at *
  have : ∃ l' : List Int, q = l'.map .int := by
    clear hp hs
    induction q with
    | nil => exact ⟨[], rfl⟩
    | cons d r ih =>
      obtain ⟨i, rfl⟩ := hm d (List.mem_cons_self ..)
      obtain ⟨l', rfl⟩ := ih fun d hd => hm d (List.mem_cons_of_mem _ hd)
      exact ⟨i :: l', rfl⟩
  obtain ⟨l', rfl⟩ := this
  refine ⟨l', rfl, ?_⟩
  have := hp.map (fun d => match d with | PyData.int i => i | _ => 0)
  rw [List.map_map, List.map_map] at this
  simpa [Function.comp_def] using this
theorem rngs_of {n : Int} {ys : List PyData} (hy : ∀ d ∈ ys, ∃ i : Int, d = .int i ∧ 0 ≤ i ∧ i < n) : ∃ row : List Int, ys = row.map .int ∧ ∀ a ∈ row, 0 ≤ a ∧ a < n := by
  induction ys with
  | nil => exact ⟨[], rfl, fun _ z => nomatch z⟩
  | cons w r ih =>
    obtain ⟨i, rfl, i0, i1⟩ := hy w (List.mem_cons_self ..)
    obtain ⟨l, rfl, q⟩ := ih fun d hd => hy d (List.mem_cons_of_mem _ hd)
    exact ⟨i :: l, rfl, fun x hx => by
      rcases List.mem_cons.mp hx with rfl | hx
      · exact ⟨i0, i1⟩
      · exact q x hx⟩
theorem y_repr2 {S d : PyData} {n : Nat} (h1 : tiny n S = true) (h2 : tiny n d = true) (hn : n ≤ 50) (hw : S.weight ≤ 60000) (hw2 : d.weight ≤ 20000) : bltD .repr [.tuple [S, d]] = some (.dat (.str (PyData.tuple [S, d]).shown)) := by
  refine y_repr (n := n + 1) ?_ (by omega) ?_
  · show tinyAll n [S, d] = true
    simp only [tinyAll, h1, h2, Bool.and_self]
  · show PyData.weight S + 1 + (PyData.weight d + 1 + 0) ≤ 90000
    omega
theorem tiny_iT {n : Nat} {l : List Int} (h : ∀ x ∈ l, -100 ≤ x ∧ x < 1000) : tiny (n + 1) (iT l) = true := by
  show tinyAll n (l.map .int) = true
  refine tiny_all fun d hd => ?_
  obtain ⟨x, hx, rfl⟩ := List.mem_map.mp hd
  exact tiny_int (h x hx).1 (h x hx).2
theorem w_iT {l : List Int} (h : ∀ x ∈ l, -100 ≤ x ∧ x < 1000) : (iT l).weight ≤ 11 * l.length := by
  have := w_all (w := 10) (ds := l.map PyData.int) fun d hd => by
    obtain ⟨x, hx, rfl⟩ := List.mem_map.mp hd
    exact w_int (h x hx).1 (h x hx).2
  rw [List.length_map] at this
  exact this
theorem st_tiny {v : Int} {n : Nat} {s : St} (o : StOk v n s) (hv : v ≤ 3) (hn : n ≤ 100) : tiny 3 (encT s) = true ∧ (encT s).weight ≤ 20000 := by
  have hcl := o.cl
  have hhl := o.hl
  have t1 : ∀ x ∈ s.cs, -100 ≤ x ∧ x < 1000 := fun x hx => by have := o.c x hx; omega
  have t2 : ∀ x ∈ s.hs, -100 ≤ x ∧ x < 1000 := fun x hx => by have := o.h x hx; omega
  have hb0 := o.b0
  have hb1 := o.b1
  refine ⟨?_, ?_⟩
  · show tinyAll 2 [.int s.b, iT s.cs, iT s.hs] = true
    refine tiny_all fun d hd => ?_
    simp only [List.mem_cons, List.not_mem_nil, or_false] at hd
    rcases hd with rfl | rfl | rfl
    · exact tiny_int (by omega) (by omega)
    · exact tiny_iT t1
    · exact tiny_iT t2
  · have w0 := w_int (i := s.b) (by omega) (by omega)
    have w1 := w_iT t1
    have w2 := w_iT t2
    show PyData.weight (.int s.b) + 1 + (PyData.weight (iT s.cs) + 1 + (PyData.weight (iT s.hs) + 1 + 0)) ≤ 20000
    omega
theorem smz_iT {n : Nat} {l : List Int} (h : l.length ≤ 1000000) : smz (n + 1) (iT l) = true := by
  show (decide ((l.map PyData.int).length ≤ szMax) && smzAll n (l.map PyData.int)) = true
  rw [smz_ints, List.length_map]
  rw [Bool.and_true]
  exact decide_eq_true h
theorem smzAll_of {n : Nat} : ∀ {xs : List PyData}, (∀ x ∈ xs, smz n x = true) → smzAll n xs = true
  | [], _ => by simp [smzAll]
  | x :: xs, h => by
    simp only [smzAll, Bool.and_eq_true]
    exact ⟨h x (List.mem_cons_self ..), smzAll_of fun y hy => h y (List.mem_cons_of_mem _ hy)⟩
theorem smz_st {v : Int} {n : Nat} {s : St} (o : StOk v n s) : smz 2 (encT s) = true := by
  have hcl := o.cl
  have hhl := o.hl
  show (true && smzAll 1 [.int s.b, iT s.cs, iT s.hs]) = true
  rw [Bool.true_and]
  refine smzAll_of fun d hd => ?_
  simp only [List.mem_cons, List.not_mem_nil, or_false] at hd
  rcases hd with rfl | rfl | rfl
  · rfl
  · exact smz_iT (by omega)
  · exact smz_iT (by omega)
theorem smz_list {n : Nat} {xs : List PyData} (h1 : xs.length ≤ 1000000) (h : ∀ x ∈ xs, smz n x = true) : smz (n + 1) (.list xs) = true := by
  show (decide (xs.length ≤ szMax) && smzAll n xs) = true
  rw [smzAll_of h]
  rw [Bool.and_true]
  exact decide_eq_true h1
theorem smz_steps {l : List Stp} (h : l.length ≤ 1000000) : smz 2 (.list (sortD (l.map encP))) = true := by
  have hp : (sortD (l.map encP)).Perm (l.map encP) := List.mergeSort_perm ..
  refine smz_list (by rw [hp.length_eq, List.length_map]; exact h) fun x hx => ?_
  obtain ⟨p, _, rfl⟩ := List.mem_map.mp (hp.subset hx)
  cases p <;> rfl
theorem progL_len (Rs : List (Int × Int × Int)) (ws : List Int) {v : Int} {n : Nat} {s : St} (o : StOk v n s) (hw : ws.length ≤ 1000) : (progL Rs ws s).length ≤ 3000 := by
  have hcl := o.cl
  have hhl := o.hl
  have l2 : (mergesL Rs s).length ≤ 1000 := Nat.le_trans (List.length_filter_le ..) (by rw [List.length_range]; omega)
  unfold progL seL hoL leL
  simp only [List.length_append, List.length_map, List.length_range]
  split <;> split <;> simp <;> omega
/-- the data of a drawn scheme -/
structure Sch (v : Int) (Ls : List (List Int)) (ws : List Int) (Rs : List (Int × Int × Int)) (most : Nat) : Prop where
  eff : EffL v Ls
  v0 : 1 ≤ v
  v1 : v ≤ 3
  n0 : 1 ≤ Ls.length
  n1 : Ls.length ≤ most
  w : ∀ a ∈ ws, 0 ≤ a ∧ a < Ls.length
  w0 : 1 ≤ ws.length
  w1 : ws.length ≤ Ls.length
  r : RsOk Ls.length Rs
  r1 : Rs.length ≤ 400
  ti : tiny 3 (encS v Ls (ws.map .int) (Rs.map encR)) = true
  we : (encS v Ls (ws.map .int) (Rs.map encR)).weight ≤ 60000
theorem sch_full {most : Nat} {S : PyData} (h : SchOk most S) (hm : most ≤ 20) : ∃ v Ls ws Rs, S = encS v Ls (ws.map .int) (Rs.map encR) ∧ Sch v Ls ws Rs most := by
  obtain ⟨v, E, wr, rs, rfl, v0, v1, n0, n1, hE, hw, w0, w1, hr, r1⟩ := h
  obtain ⟨Ls, rfl, hL⟩ := effL_of hE
  obtain ⟨Rs, rfl, hR⟩ := rules_of hr
  obtain ⟨ws, rfl, hws⟩ := rngs_of hw
  rw [List.length_map] at n0 n1 hws w0 w1 hR r1
  rw [List.length_map] at r1
  have r2 : Rs.length ≤ 400 := Nat.le_trans r1 (Nat.mul_le_mul (by omega) (by omega) : Ls.length * Ls.length ≤ 20 * 20)
  have tl : ∀ l ∈ Ls, tiny 1 (iT l) = true ∧ (iT l).weight ≤ 44 := fun l hl => by
    obtain ⟨q0, q1⟩ := hL l hl
    have t : ∀ x ∈ l, -100 ≤ x ∧ x < 1000 := fun x hx => by have := q1 x hx; omega
    refine ⟨tiny_iT t, ?_⟩
    have := w_iT t
    omega
  have tw : ∀ d ∈ ws.map PyData.int, tiny 1 d = true ∧ d.weight ≤ 10 := fun d hd => by
    obtain ⟨i, hi, rfl⟩ := List.mem_map.mp hd
    have := hws i hi
    exact ⟨tiny_int (by omega) (by omega), w_int (by omega) (by omega)⟩
  have tr : ∀ r ∈ Rs, tiny 1 (encR r) = true ∧ (encR r).weight ≤ 33 := fun r hr' => by
    obtain ⟨q0, q1, q2, q3, q4, q5⟩ := hR r hr'
    have w1 := w_int (i := r.1) (by omega) (by omega)
    have w2 := w_int (i := r.2.1) (by omega) (by omega)
    have w3 := w_int (i := r.2.2) (by omega) (by omega)
    refine ⟨?_, ?_⟩
    · show tinyAll 0 [.int r.1, .int r.2.1, .int r.2.2] = true
      refine tiny_all fun d hd => ?_
      simp only [List.mem_cons, List.not_mem_nil, or_false] at hd
      rcases hd with rfl | rfl | rfl <;> exact tiny_int (by omega) (by omega)
    · show PyData.weightAll [.int r.1, .int r.2.1, .int r.2.2] ≤ 33
      simp only [PyData.weightAll]
      omega
  refine ⟨v, Ls, ws, Rs, rfl, ⟨hL, v0, v1, n0, n1, hws, by simpa using w0, by simpa using w1, hR, r2, ?_, ?_⟩⟩
  · show tinyAll 2 [.int v, .tuple (Ls.map iT), .tuple (ws.map .int), .tuple (Rs.map encR)] = true
    refine tiny_all fun d hd => ?_
    simp only [List.mem_cons, List.not_mem_nil, or_false] at hd
    rcases hd with rfl | rfl | rfl | rfl
    · exact tiny_int (by omega) (by omega)
    · show tinyAll 1 _ = true
      refine tiny_all fun d hd => ?_
      obtain ⟨l, hl, rfl⟩ := List.mem_map.mp hd
      exact (tl l hl).1
    · show tinyAll 1 _ = true
      exact tiny_all fun d hd => (tw d hd).1
    · show tinyAll 1 _ = true
      refine tiny_all fun d hd => ?_
      obtain ⟨r, hr', rfl⟩ := List.mem_map.mp hd
      exact (tr r hr').1
  · have b1 := w_all (w := 44) (ds := Ls.map iT) fun d hd => by
      obtain ⟨l, hl, rfl⟩ := List.mem_map.mp hd
      exact (tl l hl).2
    have b2 := w_all (w := 10) (ds := ws.map PyData.int) fun d hd => (tw d hd).2
    have b3 := w_all (w := 33) (ds := Rs.map encR) fun d hd => by
      obtain ⟨r, hr', rfl⟩ := List.mem_map.mp hd
      exact (tr r hr').2
    rw [List.length_map] at b1 b2 b3
    have b4 := w_int (i := v) (by omega) (by omega)
    show PyData.weight (.int v) + 1 + (PyData.weightAll (Ls.map iT) + 1 + (PyData.weightAll (ws.map .int) + 1 + (PyData.weightAll (Rs.map encR) + 1 + 0))) ≤ 60000
    simp only [List.length_map] at w1
    omega
def heldD (Ls : List (List Int)) (s : St) : PyData → PyData
  | .int i => .int (fld Ls (s.cs.take ((s.hs[i.toNat]?).getD 0).toNat) s.b)
  | d => d
end
end LW

/-! SpL2: comprehensions over typed rows, slices of rows. -/
namespace SP
open PySem
section
variable {F : Type} {Φ : F → List Sl → Option (Sl × List MO)} {tg : Tg}
theorem comp_ty {α β : Type} {elt : E F} {own : List Nat} {ρ : Env} (enc : α → D) (enc' : β → D) (g : α → β) : ∀ {xs : List α},
    (∀ x ∈ xs, ∃ ρ1 p ρ3, assignT ρ tg (enc x) = some ρ1 ∧ evE Φ elt ρ1 = some p ∧ esc p = some (enc' (g x), ρ3) ∧ wipeE ρ3 own = ρ) → turnsE Φ elt .nil tg own (xs.map enc) ρ = some ((xs.map g).map enc', ρ)
  | [], _ => rfl
  | x :: xs, hs => by
    obtain ⟨ρ1, p, ρ3, e1, e2, e3, e4⟩ := hs x (List.mem_cons_self ..)
    have ih := comp_ty enc enc' g (xs := xs) fun d h => hs d (List.mem_cons_of_mem _ h)
    unfold turnsE at ih ⊢
    simp only [evC] at ih
    rw [List.map_cons]
    unfold turns
    rw [e1]
    simp only [Option.bind_some, evC, e2, e3, e4, ih, Option.map_some, List.map_cons]
theorem comp_tyf {α β : Type} {elt : E F} {cond : Es F} {own : List Nat} {ρ : Env} (enc : α → D) (enc' : β → D) (g : α → β) (c : α → Bool) : ∀ {xs : List α},
    (∀ x ∈ xs, ∃ ρ1, assignT ρ tg (enc x) = some ρ1 ∧ evC Φ cond ρ1 = some (c x, ρ1) ∧ wipeE ρ1 own = ρ ∧ (c x = true → ∃ p ρ3, evE Φ elt ρ1 = some p ∧ esc p = some (enc' (g x), ρ3) ∧ wipeE ρ3 own = ρ)) →
      turnsE Φ elt cond tg own (xs.map enc) ρ = some (((xs.filter c).map g).map enc', ρ)
  | [], _ => rfl
  | x :: xs, hs => by
    obtain ⟨ρ1, e1, e2, e3, e4⟩ := hs x (List.mem_cons_self ..)
    have ih := comp_tyf enc enc' g c (xs := xs) fun d h => hs d (List.mem_cons_of_mem _ h)
    unfold turnsE at ih ⊢
    rw [List.map_cons]
    unfold turns
    rw [e1]
    simp only [Option.bind_some, e2]
    cases hc : c x with
    | true =>
      obtain ⟨p, ρ3, q1, q2, q3⟩ := e4 hc
      simp only [q1, q2, q3, ih, Option.bind_some, Option.map_some, List.filter_cons, hc, if_true, List.map_cons]
    | false =>
      simp only [e3, ih, List.filter_cons, hc, Bool.false_eq_true, if_false]
theorem callE_congr {f : F} {as bs : List Arg} {ρ : Env} (h1 : argSls ρ as = argSls ρ bs) (h2 : refsOf as = refsOf bs) (h3 : lentOf as = lentOf bs) : callE Φ f as ρ = callE Φ f bs ρ := by
  unfold callE; rw [h1, h2, h3]
@[simp] theorem v_new0 {f : F} {m : MO} {as : List Arg} {ρ : Env} : callE Φ f (.val (.new m) :: as) ρ = callE Φ f (.val (.dat m.data) :: as) ρ := callE_congr rfl rfl rfl
theorem argSls_new {m : MO} {as : List Arg} {ρ : Env} : ∀ bs : List Arg, argSls ρ (bs ++ .val (.new m) :: as) = argSls ρ (bs ++ .val (.dat m.data) :: as) ∧ refsOf (bs ++ .val (.new m) :: as) = refsOf (bs ++ .val (.dat m.data) :: as) ∧ lentOf (bs ++ .val (.new m) :: as) = lentOf (bs ++ .val (.dat m.data) :: as)
  | [] => ⟨rfl, rfl, rfl⟩
  | b :: bs => by
    obtain ⟨h1, h2, h3⟩ := argSls_new (m := m) (as := as) (ρ := ρ) bs
    refine ⟨?_, ?_, ?_⟩
    · rw [List.cons_append, List.cons_append, v_ass1, v_ass1, h1]
    · cases b with
      | val r => exact h2
      | ref i => exact congrArg (i :: ·) h2
    · cases b with
      | val r => cases r with
        | loc i => exact congrArg (i :: ·) h3
        | dat d => exact h3
        | new m' => exact h3
      | ref i => exact h3
theorem v_newN {f : F} {m : MO} {as bs : List Arg} {ρ : Env} : callE Φ f (bs ++ .val (.new m) :: as) ρ = callE Φ f (bs ++ .val (.dat m.data) :: as) ρ := let ⟨h1, h2, h3⟩ := argSls_new (m := m) (as := as) (ρ := ρ) bs; callE_congr h1 h2 h3
@[simp] theorem v_new1 {f : F} {m : MO} {a : Arg} {as : List Arg} {ρ : Env} : callE Φ f (a :: .val (.new m) :: as) ρ = callE Φ f (a :: .val (.dat m.data) :: as) ρ := v_newN (bs := [a])
@[simp] theorem v_new2 {f : F} {m : MO} {a b : Arg} {as : List Arg} {ρ : Env} : callE Φ f (a :: b :: .val (.new m) :: as) ρ = callE Φ f (a :: b :: .val (.dat m.data) :: as) ρ := v_newN (bs := [a, b])
@[simp] theorem v_new3 {f : F} {m : MO} {a b c : Arg} {as : List Arg} {ρ : Env} : callE Φ f (a :: b :: c :: .val (.new m) :: as) ρ = callE Φ f (a :: b :: c :: .val (.dat m.data) :: as) ρ := v_newN (bs := [a, b, c])
@[simp] theorem v_new4 {f : F} {m : MO} {a b c d : Arg} {as : List Arg} {ρ : Env} : callE Φ f (a :: b :: c :: d :: .val (.new m) :: as) ρ = callE Φ f (a :: b :: c :: d :: .val (.dat m.data) :: as) ρ := v_newN (bs := [a, b, c, d])
end
end SP
namespace LW
open PySem SP
def cutI (xs : List Int) (a b : Int) : List Int := (xs.drop (clampI xs.length a)).take (clampI xs.length b - clampI xs.length a)
theorem slc_iT {xs : List Int} {a b : Int} : slcD (iT xs) (some a) (some b) = some (.dat (iT (cutI xs a b))) := by
  show some (Sl.dat (.tuple (cutL (xs.map .int) (some a) (some b)))) = _
  unfold cutL cutI bndI
  rw [List.length_map, ← List.map_drop, ← List.map_take]
  rfl
theorem zip_iT {xs ys : List Int} : zipD (iT xs) (iT ys) = some ((xs.zip ys).map fun p => .tuple [.int p.1, .int p.2]) := by
  show some (((xs.map PyData.int).zip (ys.map PyData.int)).map fun (u, v) => PyData.tuple [u, v]) = _
  rw [List.zip_map, List.map_map]
  rfl
@[simp] theorem lst_iT {xs : List Int} : bltD .list [iT xs] = some (.own (.lst (xs.map .int))) := rfl
@[simp] theorem tup_ints {xs : List Int} : bltD .tuple [.list (xs.map .int)] = some (.dat (iT xs)) := rfl
def marksL (s : St) : List Int := 0 :: (s.hs ++ [(s.cs.length : Int)])
def partsL (s : St) : List (List Int) := ((marksL s).zip ((marksL s).drop 1)).map fun p => cutI s.cs p.1 p.2
theorem eq_int0 {i : Int} {x : Int} : PyData.eqv (.int i) (.int x) = decide (i = x) := rfl
theorem in_ints {x : Int} {hs : List Int} : cmpD .In (.int x) (iT hs) = some (hs.contains x) := by
  have h1 : smAll deepest (hs.map PyData.int) = true := sm_ints hs
  have h2 : sm deepest (.int x) = true := sm_int
  show inD (.int x) (.tuple (hs.map .int)) = _
  unfold inD
  simp only [h1, h2, Bool.and_self, if_true, any_eqv]
def barL (Rs : List (Int × Int × Int)) (s : St) : List Nat := ((List.range (s.cs.length - 1)).filter fun (k : Nat) => s.hs.contains ((k : Int) + 1)).filter fun k => ruleB Rs s k
def whB : Stp → Bool
  | .wr _ => true
  | .ho => true
  | _ => false
end LW

/-! SpL3: dicts with ints for keys, whiles, what can be shown, the states that writes lead to. -/
namespace LW
open PySem SP
section
variable {β : Type} {e : β → PyData} {P : List (Int × β)}
def encD (e : β → PyData) (P : List (Int × β)) : List (PyData × PyData) := P.map fun p => (.int p.1, e p.2)
def fnd (P : List (Int × β)) (i : Int) : Option (Int × β) := P.find? fun p => p.1 == i
theorem fam_int {i : Int} : famK (encD e P) (.int i) = some (.num i) := by
  have h : ((encD e P).all fun kv => leafK kv.1) = true := by
    rw [List.all_eq_true]
    intro kv h
    obtain ⟨p, _, rfl⟩ := List.mem_map.mp h
    rfl
  have hd : (NestedKey.num i).depth ≤ 8 := by simp [NestedKey.depth]
  unfold famK
  simp only [keyOf]
  rw [if_pos]
  rw [h]
  simp [hd, leafK]
theorem key_int {x i : Int} : (keyOf (.int x) == some (NestedKey.num i)) = (x == i) := by
  rw [Bool.eq_iff_iff]
  simp [keyOf]
theorem look_int {i : Int} : look (encD e P) (.num i) = (fnd P i).map fun p => e p.2 := by
  unfold look fnd encD
  induction P with
  | nil => rfl
  | cons p r ih =>
    rw [List.map_cons, List.find?_cons, List.find?_cons, key_int]
    cases p.1 == i with
    | true => rfl
    | false => exact ih
theorem put_int {i : Int} {b : β} (h : fnd P i = none) : put (encD e P) (.num i) (.int i) (e b) = encD e (P ++ [(i, b)]) := by
  unfold put
  rw [look_int, h]
  simp [encD]
theorem in_dct {i : Int} : cmpD .In (.int i) (.dict (encD e P)) = some (fnd P i).isSome := by
  show (match famK (encD e P) (.int i) with | some k => some (look (encD e P) k).isSome | none => none) = _
  rw [fam_int]
  simp only [look_int, Option.isSome_map]
theorem notin_dct {i : Int} : cmpD .NotIn (.int i) (.dict (encD e P)) = some (!(fnd P i).isSome) := by
  have h := in_dct (e := e) (P := P) (i := i)
  show (inD (.int i) (.dict (encD e P))).map (!·) = _
  rw [show inD (.int i) (.dict (encD e P)) = _ from h]
  rfl
theorem ix_dct {i : Int} : idxD (.dict (encD e P)) (.int i) = (fnd P i).map fun p => e p.2 := by
  show (match famK (encD e P) (.int i) with | some k => look (encD e P) k | none => none) = _
  rw [fam_int]
  exact look_int
theorem sto_dct {i : Int} {b : β} (h : fnd P i = none) (hl : P.length < 1000000) : stoM (.dct (encD e P)) (.int i) (e b) = some (.dct (encD e (P ++ [(i, b)]))) := by
  show (putF (encD e P) (.int i) (e b)).map MO.dct = _
  unfold putF
  rw [fam_int]
  have h2 : (encD e P).length < szMax := by unfold encD; rw [List.length_map]; exact hl
  simp only [h2, if_true, put_int h, Option.map_some]
theorem putF_int {i : Int} {b : β} (h : fnd P i = none) (hl : P.length < 1000000) : putF (encD e P) (.int i) (e b) = some (encD e (P ++ [(i, b)])) := by
  unfold putF
  rw [fam_int]
  have h2 : (encD e P).length < szMax := by unfold encD; rw [List.length_map]; exact hl
  simp only [h2, if_true, put_int h]
theorem get_dct {i : Int} : mthD .get (.dict (encD e P)) [.int i] = some (((fnd P i).map fun p => e p.2).getD .none) := by
  show (famK (encD e P) (.int i)).map (fun k => (look (encD e P) k).getD .none) = _
  rw [fam_int, Option.map_some, look_int]
/-- the keys -/
def ksD (P : List (Int × β)) : List PyData := (P.map (·.1)).map .int
@[simp] theorem it_dct : itemsD (.dict (encD e P)) = some (ksD P) := by
  show some ((encD e P).map (·.1)) = _
  unfold encD ksD
  rw [List.map_map, List.map_map]
  rfl
@[simp] theorem ksD_len : (ksD P).length = P.length := by simp [ksD]
theorem ksD_at {j : Nat} {p : Int × β} (h : P[j]? = some p) : idxD (.list (ksD P)) (.int (j : Nat)) = some (.int p.1) := y_ixL (by unfold ksD; rw [List.getElem?_map, List.getElem?_map, h]; rfl)
theorem ksD_app {i : Int} {b : β} : ksD (P ++ [(i, b)]) = ksD P ++ [.int i] := by simp [ksD]
@[simp] theorem len_dct : bltD .len [.dict (encD e P)] = some (.dat (.int P.length)) := by
  show some (Sl.dat (.int ((encD e P).length : Nat))) = _
  unfold encD
  rw [List.length_map]
theorem fnd_at (h : (P.map (·.1)).Nodup) {j : Nat} {p : Int × β} (hp : P[j]? = some p) : fnd P p.1 = some p := by
  unfold fnd
  induction P generalizing j with
  | nil => simp at hp
  | cons q r ih =>
    rw [List.map_cons, List.nodup_cons] at h
    rw [List.find?_cons]
    cases j with
    | zero =>
      simp at hp
      subst hp
      simp
    | succ j =>
      have hr : r[j]? = some p := by simpa using hp
      have ne : (q.1 == p.1) = false := by
        rw [beq_eq_false_iff_ne]
        intro z
        exact h.1 (z ▸ List.mem_map.mpr ⟨p, List.mem_of_getElem? hr, rfl⟩)
      rw [ne]
      exact ih h.2 hr
theorem fnd_mem {i : Int} {p : Int × β} (h : fnd P i = some p) : p ∈ P ∧ p.1 = i := by
  unfold fnd at h
  exact ⟨List.mem_of_find?_eq_some h, by simpa using List.find?_some h⟩
theorem fnd_none {i : Int} : fnd P i = none ↔ i ∉ P.map (·.1) := by
  unfold fnd
  rw [List.find?_eq_none, List.mem_map]
  constructor
  · rintro h ⟨p, hp, rfl⟩
    exact h p hp (by simp)
  · intro h p hp z
    exact h ⟨p, hp, by simpa using z⟩
end
/-! ### bools in rows -/
theorem all_bools' {α : Type} {f : α → Bool} : ∀ {xs : List α}, bltD .all [.list (xs.map fun x => .bool (f x))] = some (.dat (.bool (xs.all f))) := by
  intro xs
  have h : boolsD (xs.map fun x => .bool (f x)) = some (xs.map f) := by
    induction xs with
    | nil => rfl
    | cons x r ih => rw [List.map_cons]; simp only [boolsD, ih, Option.map_some, List.map_cons]
  show (boolsD (xs.map fun x => .bool (f x))).map (fun bs => Sl.dat (.bool (bs.all id))) = _
  rw [h, Option.map_some, List.all_map]
  rfl
theorem sm_bools {α : Type} {f : α → Bool} {n : Nat} : ∀ {xs : List α}, smAll n (xs.map fun x => .bool (f x)) = true
  | [] => by simp [smAll]
  | x :: r => by
    rw [List.map_cons]
    simp only [smAll, Bool.and_eq_true]
    exact ⟨by cases n <;> rfl, sm_bools (xs := r)⟩
theorem in_false {α : Type} {f : α → Bool} {xs : List α} : cmpD .In (.bool false) (.list (xs.map fun x => .bool (f x))) = some (xs.any fun x => !f x) := by
  have h3 : sm deepest (.bool false) = true := rfl
  show inD (.bool false) (.list (xs.map fun x => .bool (f x))) = _
  unfold inD
  simp only [sm_bools, h3, Bool.and_self, if_true, List.any_map]
  congr 2
  funext x
  cases hx : f x <;> simp [Function.comp, hx, PyData.eqv]
theorem notin_false {α : Type} {f : α → Bool} {xs : List α} : cmpD .NotIn (.bool false) (.list (xs.map fun x => .bool (f x))) = some (xs.all f) := by
  show (inD (.bool false) (.list (xs.map fun x => .bool (f x)))).map (!·) = _
  have h := in_false (f := f) (xs := xs)
  rw [show inD (.bool false) (.list (xs.map fun x => .bool (f x))) = _ from h, Option.map_some]
  congr 1
  rw [← List.not_all_eq_any_not]
  simp
theorem ne_nilI {xs : List Int} : cmpD .NotEq (.list (xs.map .int)) (.list []) = some (!xs.isEmpty) := by
  rw [ne_sm (by show sm (59 + 1) _ = true; simp [sm, sm_ints]) rfl]
  cases xs <;> simp [PyData.eqv, PyData.eqvAll]
/-! ### whiles -/
section
variable {F : Type} {Φ : F → List Sl → Option (Sl × List MO)} {W : Nat}
theorem whl_inv {c : E F} {b : Cs F} (I : Nat → SP.Env → Prop) (Q : SP.Env → Prop) (N : Nat) (hs : ∀ (j : Nat) (ρ : SP.Env), j ≤ N → I j ρ → (∃ ρ', evTest Φ c ρ = some (false, ρ') ∧ Q ρ') ∨ (j < N ∧ ∃ ρ1 o ρ2, evTest Φ c ρ = some (true, ρ1) ∧ evB Φ W b ρ1 = some o ∧ (o = .nx ρ2 ∨ o = .ct ρ2) ∧ I (j + 1) ρ2)) :
    ∀ (n j : Nat) (ρ : SP.Env), N < n + j → j ≤ N → I j ρ → ∃ ρ', whlE Φ W c b n ρ = some (.nx ρ') ∧ Q ρ'
  | 0, j, ρ, hn, hj, h => absurd hj (by omega)
  | n + 1, j, ρ, hn, hj, h => by
    rcases hs j ρ hj h with ⟨ρ', e1, q⟩ | ⟨hj, ρ1, o, ρ2, e1, e2, e3, h2⟩
    · refine ⟨ρ', ?_, q⟩
      unfold whlE whlL
      simp only [e1, Option.bind_some]
    · obtain ⟨ρ', e4, q⟩ := whl_inv I Q N hs n (j + 1) ρ2 (by omega) (by omega) h2
      refine ⟨ρ', ?_, q⟩
      unfold whlE at e4 ⊢
      unfold whlL
      simp only [e1, Option.bind_some, e2]
      rcases e3 with rfl | rfl
      · exact e4
      · exact e4
theorem whl0 {c : E F} {b : Cs F} (I : Nat → SP.Env → Prop) (Q : SP.Env → Prop) (N : Nat) (hW : W = wMax) (hN : N < 900000) {ρ : SP.Env} (h0 : I 0 ρ) (hs : ∀ (j : Nat) (ρ : SP.Env), j ≤ N → I j ρ → (∃ ρ', evTest Φ c ρ = some (false, ρ') ∧ Q ρ') ∨ (j < N ∧ ∃ ρ1 o ρ2, evTest Φ c ρ = some (true, ρ1) ∧ evB Φ W b ρ1 = some o ∧ (o = .nx ρ2 ∨ o = .ct ρ2) ∧ I (j + 1) ρ2)) :
    ∃ ρ', whlE Φ W c b W ρ = some (.nx ρ') ∧ Q ρ' := whl_inv I Q N hs W 0 ρ (by have : W = 1000000 := hW; omega) (Nat.zero_le _) h0
end
/-! ### what can be shown -/
def ShowOk (n w : Nat) (d : PyData) : Prop := d.leavesShort 24 = true ∧ d.showable = true ∧ d.depth ≤ n ∧ d.weight ≤ w
theorem ShowOk.mono {n w n' w' : Nat} {d : PyData} (h : ShowOk n w d) (a : n ≤ n') (b : w ≤ w') : ShowOk n' w' d := ⟨h.1, h.2.1, Nat.le_trans h.2.2.1 a, Nat.le_trans h.2.2.2 b⟩
theorem show_int {i : Int} (h : -100 ≤ i) (h2 : i < 1000) : ShowOk 0 10 (.int i) := by
  obtain ⟨m, rfl⟩ := fin_small h h2
  refine ⟨?_, by simpa [PyData.showable] using small_log m, by simp [PyData.depth], small_w m⟩
  have := small_text m
  simp only [PyData.leavesShort, decide_eq_true_eq]
  omega
theorem show_all {n w : Nat} : ∀ {ds : List PyData}, (∀ d ∈ ds, ShowOk n w d) → PyData.leavesShortAll 24 ds = true ∧ PyData.showableAll ds = true ∧ PyData.depthAll ds ≤ n ∧ PyData.weightAll ds ≤ (w + 1) * ds.length
  | [], _ => ⟨by simp [PyData.leavesShortAll], by simp [PyData.showableAll], by simp [PyData.depthAll], by simp [PyData.weightAll]⟩
  | x :: xs, h => by
    obtain ⟨a, b, c, d⟩ := h x (List.mem_cons_self ..)
    obtain ⟨a', b', c', d'⟩ := show_all (ds := xs) fun y hy => h y (List.mem_cons_of_mem _ hy)
    refine ⟨by simp [PyData.leavesShortAll, a, a'], by simp [PyData.showableAll, b, b'], by simp only [PyData.depthAll]; omega, ?_⟩
    simp only [PyData.weightAll, List.length_cons, Nat.mul_succ]
    omega
theorem show_tup {n w : Nat} {ds : List PyData} (h : ∀ d ∈ ds, ShowOk n w d) : ShowOk (n + 1) ((w + 1) * ds.length) (.tuple ds) := by
  obtain ⟨a, b, c, d⟩ := show_all h
  exact ⟨by simpa [PyData.leavesShort] using a, by simpa [PyData.showable] using b, by simp only [PyData.depth]; omega, by simpa [PyData.weight] using d⟩
theorem show_lst {n w : Nat} {ds : List PyData} (h : ∀ d ∈ ds, ShowOk n w d) : ShowOk (n + 1) ((w + 1) * ds.length) (.list ds) := by
  obtain ⟨a, b, c, d⟩ := show_all h
  exact ⟨by simpa [PyData.leavesShort] using a, by simpa [PyData.showable] using b, by simp only [PyData.depth]; omega, by simpa [PyData.weight] using d⟩
theorem y_reprS {n w : Nat} {d : PyData} (h : ShowOk n w d) (hn : n ≤ 60) (hw : w ≤ 30000) : bltD .repr [d] = some (.dat (.str d.shown)) := by
  obtain ⟨a, b, c, e⟩ := h
  have l := PyData.shown_le 24 (by decide) d a
  show reprD [d] = _
  unfold reprD
  dsimp only
  rw [if_pos]
  simp only [b, Bool.true_and, Bool.and_eq_true, decide_eq_true_eq]
  exact ⟨by show d.depth ≤ 60; omega, by show _ ≤ 1000000; omega⟩
/-! ### the states that writes lead to -/
section
variable {v : Int} {Ls : List (List Int)} {ws : List Int}
def ext1 (Ls : List (List Int)) (s : Int) (w : List Int) (P : List (Int × List Int)) (a : Int) : List (Int × List Int) := if (fnd P (stp Ls s a)).isSome then P else P ++ [(stp Ls s a, w ++ [a])]
def ext (Ls : List (List Int)) (ws : List Int) (s : Int) (w : List Int) (P : List (Int × List Int)) : List (Int × List Int) := ws.foldl (ext1 Ls s w) P
def bfs (Ls : List (List Int)) (ws : List Int) : Nat → List (Int × List Int)
  | 0 => [(-1, [])]
  | k + 1 => match (bfs Ls ws k)[k]? with
    | some p => ext Ls ws p.1 p.2 (bfs Ls ws k)
    | none => bfs Ls ws k
theorem ext1_pre {s : Int} {w : List Int} {P : List (Int × List Int)} {a : Int} : ∃ t, ext1 Ls s w P a = P ++ t := by
  unfold ext1
  split
  · exact ⟨[], by simp⟩
  · exact ⟨_, rfl⟩
theorem ext_pre {s : Int} {w : List Int} : ∀ {ws : List Int} {P : List (Int × List Int)}, ∃ t, ext Ls ws s w P = P ++ t
  | [], P => ⟨[], by simp [ext]⟩
  | a :: r, P => by
    obtain ⟨t, e⟩ := ext1_pre (Ls := Ls) (s := s) (w := w) (P := P) (a := a)
    obtain ⟨u, e2⟩ := ext_pre (s := s) (w := w) (ws := r) (P := ext1 Ls s w P a)
    refine ⟨t ++ u, ?_⟩
    show ext Ls r s w (ext1 Ls s w P a) = _
    rw [e2, e, List.append_assoc]
theorem bfs_pre (k : Nat) : ∃ t, bfs Ls ws (k + 1) = bfs Ls ws k ++ t := by
  show ∃ t, (match (bfs Ls ws k)[k]? with | some p => ext Ls ws p.1 p.2 (bfs Ls ws k) | none => bfs Ls ws k) = _
  split
  · exact ext_pre
  · exact ⟨[], by simp⟩
theorem bfs_at {k j : Nat} {p : Int × List Int} (h : (bfs Ls ws k)[j]? = some p) : ∀ i, (bfs Ls ws (k + i))[j]? = some p
  | 0 => h
  | i + 1 => by
    obtain ⟨t, e⟩ := bfs_pre (Ls := Ls) (ws := ws) (k + i)
    rw [show k + (i + 1) = k + i + 1 by omega, e]
    have := bfs_at h i
    rw [List.getElem?_append_left (List.getElem?_eq_some_iff.mp this).1]
    exact this
theorem bfs_stop {k : Nat} (h : (bfs Ls ws k).length ≤ k) : ∀ i, bfs Ls ws (k + i) = bfs Ls ws k
  | 0 => rfl
  | i + 1 => by
    have ih := bfs_stop h i
    show (match (bfs Ls ws (k + i))[k + i]? with | some p => ext Ls ws p.1 p.2 (bfs Ls ws (k + i)) | none => bfs Ls ws (k + i)) = _
    rw [ih, List.getElem?_eq_none (by omega)]
/-- each state once, with a way to it -/
structure BfsOk (v : Int) (Ls : List (List Int)) (ws : List Int) (P : List (Int × List Int)) : Prop where
  nd : (P.map (·.1)).Nodup
  ok : ∀ p ∈ P, -1 ≤ p.1 ∧ p.1 < v ∧ fld Ls p.2 (-1) = p.1 ∧ ∀ a ∈ p.2, a ∈ ws
  le : ∀ (j : Nat) (p : Int × List Int), P[j]? = some p → p.2.length ≤ j
theorem fld_app {r r' : List Int} {s : Int} : fld Ls (r ++ r') s = fld Ls r' (fld Ls r s) := by unfold fld; rw [List.foldl_append]
theorem ext1_ok (hE : EffL v Ls) (hw : ∀ a ∈ ws, 0 ≤ a ∧ a < Ls.length) {P : List (Int × List Int)} (o : BfsOk v Ls ws P) {k : Nat} {s : Int} {w : List Int} (hs : P[k]? = some (s, w)) {a : Int} (ha : a ∈ ws) : BfsOk v Ls ws (ext1 Ls s w P a) := by
  unfold ext1
  split
  · exact o
  · rename_i hn
    obtain ⟨s0, s1, sf, sw⟩ := o.ok _ (List.mem_of_getElem? hs)
    obtain ⟨_, _, _, b, c⟩ := stp_ok hE (hw a ha).1 (hw a ha).2 s0 s1
    have hk : stp Ls s a ∉ P.map (·.1) := fnd_none.mp (by simpa using hn)
    refine ⟨?_, fun p hp => ?_, fun j p hp => ?_⟩
    · rw [List.map_append, List.nodup_append]
      refine ⟨o.nd, by simp, fun x hx y hy => ?_⟩
      have hy' : y = stp Ls s a := by simpa using hy
      rintro rfl
      exact hk (hy' ▸ hx)
    · rcases List.mem_append.mp hp with hp | hp
      · exact o.ok p hp
      · rw [List.mem_singleton] at hp
        subst hp
        refine ⟨b, c, ?_, fun x hx => ?_⟩
        · rw [fld_app, sf]; rfl
        · rcases List.mem_append.mp hx with hx | hx
          · exact sw x hx
          · rw [List.mem_singleton] at hx; exact hx ▸ ha
    · by_cases hj : j < P.length
      · rw [List.getElem?_append_left hj] at hp
        exact o.le j p hp
      · rw [List.getElem?_append_right (by omega)] at hp
        obtain rfl := List.mem_singleton.mp (List.mem_of_getElem? hp)
        have h1 := o.le k _ hs
        have h2 := (List.getElem?_eq_some_iff.mp hs).1
        simp only [List.length_append, List.length_singleton] at h1 ⊢
        omega
theorem ext_ok (hE : EffL v Ls) (hw : ∀ a ∈ ws, 0 ≤ a ∧ a < Ls.length) {s : Int} {w : List Int} {k : Nat} : ∀ {us : List Int} {P : List (Int × List Int)}, (∀ a ∈ us, a ∈ ws) → BfsOk v Ls ws P → P[k]? = some (s, w) → BfsOk v Ls ws (ext Ls us s w P) ∧ (ext Ls us s w P)[k]? = some (s, w)
  | [], P, _, o, h => ⟨o, h⟩
  | a :: r, P, hu, o, h => by
    refine ext_ok hE hw (us := r) (P := ext1 Ls s w P a) (fun x hx => hu x (List.mem_cons_of_mem _ hx)) (ext1_ok hE hw o h (hu a (List.mem_cons_self ..))) ?_
    obtain ⟨t, e⟩ := ext1_pre (Ls := Ls) (s := s) (w := w) (P := P) (a := a)
    rw [e, List.getElem?_append_left (List.getElem?_eq_some_iff.mp h).1]
    exact h
theorem bfs_ok (hE : EffL v Ls) (hv : 0 ≤ v) (hw : ∀ a ∈ ws, 0 ≤ a ∧ a < Ls.length) : ∀ k, BfsOk v Ls ws (bfs Ls ws k)
  | 0 => by
    refine ⟨by simp [bfs], fun p hp => ?_, fun j p hp => ?_⟩
    · have : p = (-1, []) := by simpa [bfs] using hp
      subst this
      exact ⟨by omega, by show (-1 : Int) < v; omega, rfl, fun _ z => nomatch z⟩
    · have : p = (-1, []) := by simpa [bfs] using List.mem_of_getElem? hp
      subst this
      exact Nat.zero_le _
  | k + 1 => by
    have ih := bfs_ok hE hv hw k
    show BfsOk v Ls ws (match (bfs Ls ws k)[k]? with | some p => ext Ls ws p.1 p.2 (bfs Ls ws k) | none => bfs Ls ws k)
    split
    · rename_i p h
      exact (ext_ok hE hw (fun _ z => z) ih h).1
    · exact ih
theorem nodup_len : ∀ (n : Nat) (l : List Nat), l.Nodup → (∀ x ∈ l, x < n) → l.length ≤ n
  | 0, l, _, h => by
    cases l with
    | nil => exact Nat.le_refl _
    | cons x r => exact absurd (h x (List.mem_cons_self ..)) (Nat.not_lt_zero x)
  | n + 1, l, hd, h => by
    have h1 := nodup_len n (l.filter fun x => x != n) (hd.filter _) fun x hx => by
      obtain ⟨a, b⟩ := List.mem_filter.mp hx
      have := h x a
      have b : x ≠ n := by simpa using b
      omega
    have h2 : l.length ≤ (l.filter fun x => x != n).length + 1 := by
      clear h h1
      induction l with
      | nil => simp
      | cons x r ih =>
        rw [List.nodup_cons] at hd
        by_cases hx : x = n
        · subst hx
          have : r.filter (fun y => y != x) = r := List.filter_eq_self.mpr fun y hy => by
            have : y ≠ x := fun z => hd.1 (z ▸ hy)
            simpa using this
          simp [List.filter_cons, this]
        · have : (x != n) = true := by simpa using hx
          have := ih hd.2
          simp [List.filter_cons, hx]
          omega
    omega
theorem BfsOk.len {P : List (Int × List Int)} (o : BfsOk v Ls ws P) : P.length ≤ (v + 1).toNat := by
  have := nodup_len (v + 1).toNat ((P.map (·.1)).map fun i => (i + 1).toNat) ?_ ?_
  · simpa using this
  · have hd := o.nd
    have ok := o.ok
    clear o
    induction P with
    | nil => simp
    | cons p r ih =>
      rw [List.map_cons, List.map_cons, List.nodup_cons]
      rw [List.map_cons, List.nodup_cons] at hd
      refine ⟨fun z => ?_, ih hd.2 fun q hq => ok q (List.mem_cons_of_mem _ hq)⟩
      obtain ⟨i, hi, e⟩ := List.mem_map.mp z
      obtain ⟨q, hq, rfl⟩ := List.mem_map.mp hi
      have h1 := ok p (List.mem_cons_self ..)
      have h2 := ok q (List.mem_cons_of_mem _ hq)
      have : q.1 = p.1 := by omega
      exact hd.1 (this ▸ hi)
  · intro x hx
    obtain ⟨i, hi, rfl⟩ := List.mem_map.mp hx
    obtain ⟨q, hq, rfl⟩ := List.mem_map.mp hi
    have h2 := o.ok q hq
    omega
/-- all of them -/
def reachL (v : Int) (Ls : List (List Int)) (ws : List Int) : List (Int × List Int) := bfs Ls ws (v + 1).toNat
theorem bfs_end (hE : EffL v Ls) (hv : 0 ≤ v) (hw : ∀ a ∈ ws, 0 ≤ a ∧ a < Ls.length) {k : Nat} (h : (bfs Ls ws k).length ≤ k) : bfs Ls ws k = reachL v Ls ws := by
  unfold reachL
  by_cases hk : k ≤ (v + 1).toNat
  · have := bfs_stop h ((v + 1).toNat - k)
    rw [show k + ((v + 1).toNat - k) = (v + 1).toNat by omega] at this
    exact this.symm
  · have h2 := (bfs_ok hE hv hw (v + 1).toNat).len
    have := bfs_stop (Ls := Ls) (ws := ws) h2 (k - (v + 1).toNat)
    rw [show (v + 1).toNat + (k - (v + 1).toNat) = k by omega] at this
    exact this
theorem bfs_lt {k : Nat} (h : k < (bfs Ls ws k).length) : k + 1 ≤ (bfs Ls ws (k + 1)).length := by
  obtain ⟨t, e⟩ := bfs_pre (Ls := Ls) (ws := ws) k
  rw [e, List.length_append]
  omega
end
end LW

/-! SpL4: drawn schemes of the second kind; rows that are parts of rows. -/
namespace LW
open PySem SP
section
variable {F : Type} {Φ : F → List Sl → Option (Sl × List MO)} {tg : Tg}
/-- a comprehension that keeps some items -/
theorem comp_subl {elt : E F} {cond : Es F} {own : List Nat} (I : Nat → SP.Env → Prop) (g : PyData → PyData) : ∀ {ds : List PyData} {i : Nat} {ρ : SP.Env}, I i ρ →
    (∀ (j : Nat) (d : PyData) (ρ : SP.Env), ds[j]? = some d → I (i + j) ρ → ∃ ρ1 k ρ2, assignT ρ tg d = some ρ1 ∧ evC Φ cond ρ1 = some (k, ρ2) ∧ match k with
      | true => ∃ p ρ3, evE Φ elt ρ2 = some p ∧ esc p = some (g d, ρ3) ∧ I (i + j + 1) (wipeE ρ3 own)
      | false => I (i + j + 1) (wipeE ρ2 own)) →
    ∃ ys ρ', turnsE Φ elt cond tg own ds ρ = some (ys, ρ') ∧ I (i + ds.length) ρ' ∧ ys.Sublist (ds.map g)
  | [], i, ρ, h, _ => ⟨[], ρ, rfl, h, .slnil⟩
  | d :: ds, i, ρ, h, hs => by
    obtain ⟨ρ1, k, ρ2, e1, e2, h2⟩ := hs 0 d ρ rfl h
    have step : ∀ {ρ4 : SP.Env}, I (i + 1) ρ4 → ∃ ys ρ', turnsE Φ elt cond tg own ds ρ4 = some (ys, ρ') ∧ I (i + 1 + ds.length) ρ' ∧ ys.Sublist (ds.map g) := fun {ρ4} h4 => comp_subl I g h4 fun j d ρ e hj => by
      obtain ⟨a1, a2, a3, b1, b2, b3⟩ := hs (j + 1) d ρ (by simpa using e) (by rw [show i + (j + 1) = i + 1 + j by omega]; exact hj)
      refine ⟨a1, a2, a3, b1, b2, ?_⟩
      rw [show i + 1 + j + 1 = i + (j + 1) + 1 by omega]
      exact b3
    unfold turnsE at step ⊢
    unfold turns
    rw [e1]
    simp only [Option.bind_some, e2]
    cases k with
    | true =>
      obtain ⟨p, ρ3, q1, q2, q3⟩ := h2
      obtain ⟨ys, ρ', r1, r2, r3⟩ := step q3
      refine ⟨g d :: ys, ρ', ?_, by rw [List.length_cons, show i + (ds.length + 1) = i + 1 + ds.length by omega]; exact r2, by rw [List.map_cons]; exact r3.cons₂ _⟩
      simp only [q1, q2, Option.bind_some, r1, Option.map_some]
    | false =>
      obtain ⟨ys, ρ', r1, r2, r3⟩ := step h2
      exact ⟨ys, ρ', r1, by rw [List.length_cons, show i + (ds.length + 1) = i + 1 + ds.length by omega]; exact r2, by rw [List.map_cons]; exact r3.cons _⟩
end
/-- ascending -/
def Asc (l : List Int) : Prop := l.Pairwise (· < ·)
theorem rng_asc {a b : Int} : ∃ l : List Int, rngL a b = l.map .int ∧ Asc l ∧ (∀ i ∈ l, a ≤ i ∧ i < b) ∧ l.length = (b - a).toNat := by
  refine ⟨(List.range (b - a).toNat).map fun i => a + (i : Nat), ?_, ?_, fun i hi => ?_, by simp⟩
  · unfold rngL; rw [List.map_map]; rfl
  · unfold Asc
    rw [List.pairwise_map]
    exact List.pairwise_lt_range.imp fun h => by omega
  · obtain ⟨k, hk, rfl⟩ := List.mem_map.mp hi
    rw [List.mem_range] at hk
    omega
/-- a row of ints that is part of another -/
theorem subl_ints {ys : List PyData} {l : List Int} (h : ys.Sublist (l.map .int)) : ∃ l' : List Int, ys = l'.map .int ∧ l'.Sublist l := by
  obtain ⟨l', a, b⟩ := List.sublist_map_iff.mp h
  exact ⟨l', b, a⟩
/-- the data of a drawn scheme of the second kind -/
structure SchB (v : Int) (Ls : List (List Int)) (ws : List Int) (Rs : List (Int × Int × Int)) (values operands : Int) : Prop where
  eff : EffL v Ls
  v0 : 1 ≤ v
  v1 : v ≤ values
  n0 : 1 ≤ Ls.length
  n1 : Ls.length ≤ operands
  w : ∀ a ∈ ws, 0 ≤ a ∧ a < Ls.length
  w0 : 1 ≤ ws.length
  w1 : ws.length ≤ Ls.length
  asc : Asc ws
  r : RsOk Ls.length Rs
  r1 : Rs.length ≤ 400
theorem SchB.rew {v : Int} {Ls : List (List Int)} {ws ws' : List Int} {Rs : List (Int × Int × Int)} {values operands : Int} (s : SchB v Ls ws Rs values operands) (h1 : ∀ a ∈ ws', 0 ≤ a ∧ a < Ls.length) (h2 : 1 ≤ ws'.length) (h3 : ws'.length ≤ Ls.length) (h4 : Asc ws') :
    SchB v Ls ws' Rs values operands := ⟨s.eff, s.v0, s.v1, s.n0, s.n1, h1, h2, h3, h4, s.r, s.r1⟩
@[simp] theorem esc_res {s : Sl} {ρ : SP.Env} : esc (s.res, ρ) = some (s.data, ρ) := by cases s <;> rfl
@[simp] theorem res_res {s : Sl} {ρ : SP.Env} : res ρ s.res = some s.data := by cases s <;> rfl
@[simp] theorem setT_res {s : Sl} {ρ : SP.Env} {i : Nat} : setT ρ i false s.res = some (ρ.set i (some (.dat s.data))) := by cases s <;> rfl
/-! ### odd values, bent values -/
def oddsL : List PyData := [.none, .bool true, .bool false, .int 0, .int 1, .int (-1), .int 5, .str (Str.ofString ""), .str (Str.ofString "a"), .str (Str.ofString "written"), .tuple [], .list [], .dict [],
  .tuple [.int 0], .tuple [.int 0, .int 1], .tuple [.tuple [.int 0]], .list [.int 0], .tuple [.bool true], .tuple [.int 0, .none], .int 100000000000000000000, .tuple [.int 0, .int 0, .int 0], .dict [(.int 0, .int 1)], .tuple [.tuple [], .tuple []]]
theorem odds_ok : (oddsL.all fun d => d.leavesShort 24 && d.showable && decide (d.depth ≤ 3) && decide (d.weight ≤ 100)) = true := by decide +kernel
theorem odd_show {d : PyData} (h : d ∈ oddsL) : ShowOk 3 100 d := by
  have := List.all_eq_true.mp odds_ok d h
  simp only [Bool.and_eq_true, decide_eq_true_eq] at this
  exact ⟨this.1.1.1, this.1.1.2, this.1.2, this.2⟩
mutual
/-- ints near 0, rows of such: what is bent -/
def bd : Nat → PyData → Bool
  | _, .none | _, .bool _ => true
  | _, .int i => decide (-90 ≤ i) && decide (i < 900)
  | _, .str _ | _, .dict _ => false
  | 0, .list _ | 0, .tuple _ => false
  | n + 1, .list xs | n + 1, .tuple xs => decide (xs.length ≤ 1000) && bdAll n xs
def bdAll : Nat → List PyData → Bool
  | _, [] => true
  | n, x :: xs => bd n x && bdAll n xs
end
theorem bdAll_mem {n : Nat} : ∀ {xs : List PyData}, bdAll n xs = true → ∀ x ∈ xs, bd n x = true
  | [], _, _, m => nomatch m
  | y :: ys, h, x, m => by
    simp only [bdAll, Bool.and_eq_true] at h
    rcases List.mem_cons.mp m with rfl | m
    · exact h.1
    · exact bdAll_mem h.2 x m
theorem bdAll_of {n : Nat} : ∀ {xs : List PyData}, (∀ x ∈ xs, bd n x = true) → bdAll n xs = true
  | [], _ => rfl
  | x :: xs, h => by
    simp only [bdAll, Bool.and_eq_true]
    exact ⟨h x (List.mem_cons_self ..), bdAll_of fun y hy => h y (List.mem_cons_of_mem _ hy)⟩
theorem weightAll_sum : ∀ xs : List PyData, PyData.weightAll xs = (xs.map fun d => d.weight + 1).sum
  | [] => rfl
  | x :: xs => by
    simp only [PyData.weightAll, List.map_cons, List.sum_cons, weightAll_sum xs]
theorem show_of {n : Nat} {ds : List PyData} (h : ∀ d ∈ ds, ∃ w, ShowOk n w d) : PyData.leavesShortAll 24 ds = true ∧ PyData.showableAll ds = true ∧ PyData.depthAll ds ≤ n := by
  induction ds with
  | nil => exact ⟨by simp [PyData.leavesShortAll], by simp [PyData.showableAll], by simp [PyData.depthAll]⟩
  | cons x xs ih =>
    obtain ⟨w, a, b, c, d⟩ := h x (List.mem_cons_self ..)
    obtain ⟨a', b', c'⟩ := ih fun y hy => h y (List.mem_cons_of_mem _ hy)
    exact ⟨by simp [PyData.leavesShortAll, a, a'], by simp [PyData.showableAll, b, b'], by simp only [PyData.depthAll]; omega⟩
theorem show_row {n W : Nat} {ds : List PyData} (h : ∀ d ∈ ds, ∃ w, ShowOk n w d) (hw : (ds.map fun d => d.weight + 1).sum ≤ W) : ShowOk (n + 1) W (.tuple ds) ∧ ShowOk (n + 1) W (.list ds) := by
  obtain ⟨a, b, c⟩ := show_of h
  have e : PyData.weightAll ds ≤ W := by rw [weightAll_sum]; exact hw
  exact ⟨⟨by simpa [PyData.leavesShort] using a, by simpa [PyData.showable] using b, by simp only [PyData.depth]; omega, by simpa [PyData.weight] using e⟩,
    ⟨by simpa [PyData.leavesShort] using a, by simpa [PyData.showable] using b, by simp only [PyData.depth]; omega, by simpa [PyData.weight] using e⟩⟩
mutual
theorem bd_show : ∀ (n : Nat) (x : PyData), bd n x = true → ShowOk n x.weight x
  | n, .none, _ => ⟨by simp [PyData.leavesShort], by simp [PyData.showable], by simp [PyData.depth], Nat.le_refl _⟩
  | n, .bool _, _ => ⟨by simp [PyData.leavesShort], by simp [PyData.showable], by simp [PyData.depth], Nat.le_refl _⟩
  | n, .int i, h => by
    simp only [bd, Bool.and_eq_true, decide_eq_true_eq] at h
    obtain ⟨a, b, c, d⟩ := show_int (i := i) (by omega) (by omega)
    exact ⟨a, b, by simp [PyData.depth], Nat.le_refl _⟩
  | n, .str _, h => by cases n <;> simp [bd] at h
  | n, .dict _, h => by cases n <;> simp [bd] at h
  | 0, .list _, h => by simp [bd] at h
  | 0, .tuple _, h => by simp [bd] at h
  | n + 1, .list xs, h => by
    simp only [bd, Bool.and_eq_true] at h
    exact (show_row (bdAll_show n xs h.2) (Nat.le_of_eq (by rw [← weightAll_sum]; simp [PyData.weight]))).2
  | n + 1, .tuple xs, h => by
    simp only [bd, Bool.and_eq_true] at h
    exact (show_row (bdAll_show n xs h.2) (Nat.le_of_eq (by rw [← weightAll_sum]; simp [PyData.weight]))).1
theorem bdAll_show : ∀ (n : Nat) (xs : List PyData), bdAll n xs = true → ∀ d ∈ xs, ∃ w, ShowOk n w d
  | n, [], _, _, m => nomatch m
  | n, x :: xs, h, d, m => by
    simp only [bdAll, Bool.and_eq_true] at h
    have hx := bd_show n x h.1
    have hr := bdAll_show n xs h.2
    rcases List.mem_cons.mp m with e | m
    · rw [e]; exact ⟨_, hx⟩
    · exact hr d m
end
theorem sum_set {f : PyData → Nat} : ∀ {xs : List PyData} {k : Nat} {y : PyData} (h : k < xs.length), ((xs.set k y).map f).sum + f xs[k] = (xs.map f).sum + f y
  | x :: xs, 0, y, _ => by simp; omega
  | x :: xs, k + 1, y, h => by
    have := sum_set (f := f) (xs := xs) (k := k) (y := y) (by simpa using h)
    simp only [List.set_cons_succ, List.map_cons, List.sum_cons, List.getElem_cons_succ]
    omega
theorem sum_at {f : PyData → Nat} : ∀ {xs : List PyData} {k : Nat} (h : k < xs.length), f xs[k] ≤ (xs.map f).sum
  | x :: xs, 0, _ => by simp
  | x :: xs, k + 1, h => by
    have := sum_at (f := f) (xs := xs) (k := k) (by simpa using h)
    simp only [List.map_cons, List.sum_cons, List.getElem_cons_succ]
    omega
theorem cut_dr {xs : List PyData} {i : Int} (h : 0 ≤ i) : cutL xs (some i) none = xs.drop i.toNat := by
  unfold cutL bndI clampI
  simp only []
  rw [if_neg (by omega)]
  by_cases hi : i.toNat ≤ xs.length
  · rw [Nat.min_eq_left hi, List.take_of_length_le (by rw [List.length_drop]; omega)]
  · rw [List.drop_eq_nil_of_le (as := xs) (i := i.toNat) (by omega), List.drop_eq_nil_of_le (by omega)]
    simp
theorem eq_bool {a b : Bool} : cmpD .Eq (.bool a) (.bool b) = some (a == b) := by cases a <;> cases b <;> rfl
/-- a bent row's items -/
theorem bent_rows {n W : Nat} {xs : List PyData} {k : Nat} (hk : k < xs.length) (hb : ∀ d ∈ xs, ∃ w, ShowOk n w d) (hW : (xs.map fun d => d.weight + 1).sum = W) :
    (∀ y : PyData, ShowOk (n + 3) (2 * xs[k].weight + 120) y → (∀ d ∈ xs.set k y, ∃ w, ShowOk (n + 3) w d) ∧ ((xs.set k y).map fun d => d.weight + 1).sum ≤ 2 * W + 120) ∧
    ((∀ d ∈ xs.take k ++ xs.drop (k + 1), ∃ w, ShowOk (n + 3) w d) ∧ ((xs.take k ++ xs.drop (k + 1)).map fun d => d.weight + 1).sum ≤ 2 * W + 120) ∧
    ((∀ d ∈ xs ++ [xs[k]], ∃ w, ShowOk (n + 3) w d) ∧ ((xs ++ [xs[k]]).map fun d => d.weight + 1).sum ≤ 2 * W + 120) ∧
    ((∀ d ∈ xs.reverse, ∃ w, ShowOk (n + 3) w d) ∧ (xs.reverse.map fun d => d.weight + 1).sum ≤ 2 * W + 120) := by
  have up : ∀ d ∈ xs, ∃ w, ShowOk (n + 3) w d := fun d hd => let ⟨w, h⟩ := hb d hd; ⟨w, h.mono (by omega) (Nat.le_refl _)⟩
  have at' := sum_at (f := fun d => d.weight + 1) hk
  refine ⟨fun y hy => ⟨fun d hd => ?_, ?_⟩, ⟨fun d hd => ?_, ?_⟩, ⟨fun d hd => ?_, ?_⟩, fun d hd => up d (List.mem_reverse.mp hd), ?_⟩
  · rcases List.mem_or_eq_of_mem_set hd with hd | rfl
    · exact up d hd
    · exact ⟨_, hy⟩
  · have := sum_set (f := fun d => d.weight + 1) (y := y) hk
    have h2 := hy.2.2.2
    omega
  · rcases List.mem_append.mp hd with hd | hd
    · exact up d (List.mem_of_mem_take hd)
    · exact up d (List.mem_of_mem_drop hd)
  · have e : xs = xs.take k ++ xs[k] :: xs.drop (k + 1) := by
      rw [← List.drop_eq_getElem_cons hk, List.take_append_drop]
    have e2 := congrArg (fun l => (l.map fun d : PyData => d.weight + 1).sum) e
    simp only [List.map_append, List.map_cons, List.sum_append, List.sum_cons] at e2 ⊢
    omega
  · rcases List.mem_append.mp hd with hd | hd
    · exact up d hd
    · rw [List.mem_singleton] at hd
      exact up d (hd ▸ List.getElem_mem hk)
  · simp only [List.map_append, List.sum_append, List.map_cons, List.map_nil, List.sum_cons, List.sum_nil]
    omega
  · rw [List.map_reverse, List.sum_reverse]
    omega
/-! ### ways -/
def isIntD : PyData → Bool
  | .int _ => true
  | _ => false
def isBtw (lo hi : Int) : PyData → Bool
  | .int i => decide (lo ≤ i) && decide (i ≤ hi)
  | _ => false
def okA (ws : List Int) : PyData → Bool
  | .int i => ws.contains i
  | _ => false
def intsF (xs : List PyData) : List Int := xs.filterMap fun d => match d with | .int i => some i | _ => none
theorem okA_ints {ws : List Int} : ∀ {xs : List PyData}, xs.all (okA ws) = true → xs = (intsF xs).map .int ∧ ∀ a ∈ intsF xs, a ∈ ws
  | [], _ => ⟨rfl, fun _ z => nomatch z⟩
  | x :: xs, h => by
    rw [List.all_cons, Bool.and_eq_true] at h
    obtain ⟨a, b⟩ := okA_ints h.2
    cases x with
    | int i =>
      have e : intsF (.int i :: xs) = i :: intsF xs := rfl
      rw [e, List.map_cons, ← a]
      refine ⟨rfl, fun y hy => ?_⟩
      rcases List.mem_cons.mp hy with rfl | hy
      · simpa [okA] using h.1
      · exact b y hy
    | _ => simp [okA] at h
def wayB (Ls : List (List Int)) (ws : List Int) (s : Int) : PyData → Bool
  | .tuple xs => xs.all (okA ws) && decide (fld Ls (intsF xs) (-1) = s)
  | _ => false
theorem intsF_map (l : List Int) : intsF (l.map .int) = l := by
  induction l with
  | nil => rfl
  | cons a r ih => rw [List.map_cons]; show a :: intsF (r.map .int) = _; rw [ih]
theorem okA_map {ws l : List Int} (h : ∀ a ∈ l, a ∈ ws) : (l.map PyData.int).all (okA ws) = true := by
  rw [List.all_eq_true]
  intro d hd
  obtain ⟨a, ha, rfl⟩ := List.mem_map.mp hd
  simpa [okA] using h a ha
/-! ### the keys from a place on -/
section
variable {β : Type} {P : List (Int × β)}
def ksF (P : List (Int × β)) (k : Nat) : List PyData := ((P.map (·.1)).drop k).map .int
theorem ksF_ne {k : Nat} : cmpD .NotEq (.list (ksF P k)) (.list []) = some (decide (k < P.length)) := by
  unfold ksF
  rw [ne_nilI]
  congr 1
  rw [Bool.eq_iff_iff]
  simp [List.isEmpty_iff, List.drop_eq_nil_iff]
theorem ksF_at {k i : Nat} {d : PyData} (h : (ksF P k)[i]? = some d) : ∃ p, P[k + i]? = some p ∧ d = .int p.1 := by
  unfold ksF at h
  rw [List.getElem?_map, List.getElem?_drop, List.getElem?_map] at h
  cases q : P[k + i]? with
  | none => rw [q] at h; cases h
  | some p => rw [q] at h; exact ⟨p, rfl, by simpa using h.symm⟩
@[simp] theorem ksF_len {k : Nat} : (ksF P k).length = P.length - k := by simp [ksF]
theorem ksF_app {k : Nat} {i : Int} {b : β} (h : k ≤ P.length) : ksF (P ++ [(i, b)]) k = ksF P k ++ [.int i] := by
  unfold ksF
  rw [List.map_append, List.drop_append_of_le_length (by rw [List.length_map]; exact h), List.map_append]
  rfl
theorem ksF_nil : ksF P P.length = [] := by
  unfold ksF
  rw [List.drop_eq_nil_of_le (by rw [List.length_map]; exact Nat.le_refl _)]
  rfl
end
theorem bfs_mono {Ls : List (List Int)} {ws : List Int} {k : Nat} : ∀ i, (bfs Ls ws k).length ≤ (bfs Ls ws (k + i)).length
  | 0 => Nat.le_refl _
  | i + 1 => by
    obtain ⟨t, e⟩ := bfs_pre (Ls := Ls) (ws := ws) (k + i)
    have := bfs_mono (Ls := Ls) (ws := ws) (k := k) i
    rw [show k + (i + 1) = k + i + 1 by omega, e, List.length_append]
    omega
def cntD (w : List Int) : PyData := .int (w.length : Nat)
theorem sorted_keys {β : Type} {e : β → PyData} {P : List (Int × β)} : ∃ l : List Int, bltD .sorted [.dict (encD e P)] = some (.own (.lst (l.map .int))) ∧ l.Perm (P.map (·.1)) ∧ (l.map PyData.int) = sortD (ksD P) := by
  obtain ⟨l, h1, h2⟩ := sorted_ints (P.map (·.1))
  have e2 : bltD .sorted [.dict (encD e P)] = bltD .sorted [.list ((P.map (·.1)).map .int)] := by
    show sortedD [.dict (encD e P)] = sortedD [.list ((P.map (·.1)).map .int)]
    have : (encD e P).map (·.1) = (P.map (·.1)).map .int := by unfold encD; rw [List.map_map, List.map_map]; rfl
    rw [sortedD_dct, sortedD_list, this]
  refine ⟨l, e2.trans h1, h2, ?_⟩
  have h3 : sortedD [.list ((P.map (·.1)).map .int)] = some (.own (.lst (l.map .int))) := h1
  rw [sortedD_list] at h3
  split at h3
  · injection h3 with h3; injection h3 with h3; injection h3 with h3; exact h3.symm
  · cases h3
section
variable {F : Type} {Φ : F → List Sl → Option (Sl × List MO)}
/-- {i: .. for i in keys} -/
theorem dcomp_ints {β : Type} {e : β → PyData} {ke ve : E F} {t : Nat} {own : List Nat} {ρ : SP.Env} : ∀ {P : List (Int × β)}, (P.map (·.1)).Nodup → P.length < 1000000 →
    (∀ p ∈ P, ∃ r1 ρ1 r2 ρ2, evE Φ ke (ρ.set t (some (.dat (.int p.1)))) = some (r1, ρ1) ∧ True ∧ esc (r1, ρ1) = some (.int p.1, ρ1) ∧ evE Φ ve ρ1 = some (r2, ρ2) ∧ esc (r2, ρ2) = some (e p.2, ρ2) ∧ wipeE ρ2 own = ρ) →
    dcompE Φ ke ve .nil (.name t) own (ksD P) (.dct []) ρ = some (.dct (encD e P), ρ) := by
  intro P nd hl hs
  have key : ∀ (Q P : List (Int × β)), ((Q ++ P).map (·.1)).Nodup → (Q ++ P).length < 1000000 →
      (∀ p ∈ P, ∃ r1 ρ1 r2 ρ2, evE Φ ke (ρ.set t (some (.dat (.int p.1)))) = some (r1, ρ1) ∧ True ∧ esc (r1, ρ1) = some (.int p.1, ρ1) ∧ evE Φ ve ρ1 = some (r2, ρ2) ∧ esc (r2, ρ2) = some (e p.2, ρ2) ∧ wipeE ρ2 own = ρ) →
      dcompE Φ ke ve .nil (.name t) own (ksD P) (.dct (encD e Q)) ρ = some (.dct (encD e (Q ++ P)), ρ) := by
    intro Q P
    induction P generalizing Q with
    | nil => intro _ _ _; rw [List.append_nil]; rfl
    | cons p r ih =>
      intro nd hl hs
      obtain ⟨r1, ρ1, r2, ρ2, a1, _, a2, a3, a4, a5⟩ := hs p (List.mem_cons_self ..)
      have hn : fnd Q p.1 = none := by
        rw [fnd_none]
        intro hm
        rw [List.map_append, List.nodup_append] at nd
        exact nd.2.2 p.1 hm p.1 (by simp) rfl
      have hp := putF_int (e := e) (P := Q) (i := p.1) (b := p.2) hn (by rw [List.length_append] at hl; omega)
      have ih2 := ih (Q ++ [p]) (by rw [List.append_assoc]; exact nd) (by rw [List.append_assoc]; exact hl) fun q hq => hs q (List.mem_cons_of_mem _ hq)
      unfold dcompE at ih2 ⊢
      show turnsM _ _ _ own (.int p.1 :: ksD r) _ ρ = _
      unfold turnsM
      show (some (ρ.set t (some (.dat (.int p.1))))).bind _ = _
      simp only [Option.bind_some, evC, elD, a1, a2, a3, a4, hp, Option.map_some, a5]
      refine Eq.trans ih2 ?_
      rw [List.append_assoc]
      rfl
  exact key [] P nd hl hs
end
section
variable {F : Type} {Φ : F → List Sl → Option (Sl × List MO)} {tg : Tg}
theorem lcomp_map {elt : E F} {own : List Nat} {ρ : SP.Env} (g : PyData → PyData) : ∀ {ds : List PyData}, ds.length ≤ 1000000 →
    (∀ d ∈ ds, ∃ ρ1 p ρ3, assignT ρ tg d = some ρ1 ∧ evE Φ elt ρ1 = some p ∧ esc p = some (g d, ρ3) ∧ wipeE ρ3 own = ρ) → lcompE Φ elt .nil tg own ds (.lst []) ρ = some (.lst (ds.map g), ρ) := by
  have key : ∀ (ds acc : List PyData), acc.length + ds.length ≤ 1000000 → (∀ d ∈ ds, ∃ ρ1 p ρ3, assignT ρ tg d = some ρ1 ∧ evE Φ elt ρ1 = some p ∧ esc p = some (g d, ρ3) ∧ wipeE ρ3 own = ρ) →
      lcompE Φ elt .nil tg own ds (.lst acc) ρ = some (.lst (acc ++ ds.map g), ρ) := by
    intro ds
    induction ds with
    | nil => intro acc _ _; rw [List.map_nil, List.append_nil]; rfl
    | cons d r ih =>
      intro acc hl hs
      obtain ⟨ρ1, p, ρ3, a1, a2, a3, a4⟩ := hs d (List.mem_cons_self ..)
      have hlt : acc.length < szMax := by rw [List.length_cons] at hl; show acc.length < 1000000; omega
      have ih2 := ih (acc ++ [g d]) (by rw [List.length_append, List.length_singleton]; rw [List.length_cons] at hl; omega) fun x hx => hs x (List.mem_cons_of_mem _ hx)
      unfold lcompE at ih2 ⊢
      unfold turnsM
      simp only [a1, Option.bind_some, evC, elL, a2, a3, hlt, if_true, a4]
      refine Eq.trans ih2 ?_
      rw [List.append_assoc, List.map_cons]
      rfl
  intro ds hl hs
  exact key ds [] (by simpa using hl) hs
end
theorem show_len {n w : Nat} {xs : List PyData} (h : ShowOk n w (.tuple xs)) : xs.length ≤ w := by
  have h2 := h.2.2.2
  have e : PyData.weight (.tuple xs) = PyData.weightAll xs := by simp [PyData.weight]
  rw [e, weightAll_sum] at h2
  refine Nat.le_trans ?_ h2
  clear h h2 e
  induction xs with
  | nil => simp
  | cons x r ih => simp only [List.length_cons, List.map_cons, List.sum_cons]; omega
theorem bd_iT {l : List Int} (h1 : l.length ≤ 1000) (h2 : ∀ a ∈ l, 0 ≤ a ∧ a < 900) : bd 1 (iT l) = true := by
  show (decide ((l.map PyData.int).length ≤ 1000) && bdAll 0 (l.map .int)) = true
  rw [Bool.and_eq_true, List.length_map]
  refine ⟨decide_eq_true h1, bdAll_of fun x hx => ?_⟩
  obtain ⟨a, ha, rfl⟩ := List.mem_map.mp hx
  have := h2 a ha
  simp only [bd, Bool.and_eq_true, decide_eq_true_eq]
  omega
theorem weight_iT {l : List Int} (h2 : ∀ a ∈ l, -100 ≤ a ∧ a < 1000) : (iT l).weight ≤ 11 * l.length := by
  have e : PyData.weight (iT l) = PyData.weightAll (l.map .int) := by simp [iT, PyData.weight]
  rw [e]
  have := w_all (w := 10) (ds := l.map PyData.int) fun d hd => by
    obtain ⟨a, ha, rfl⟩ := List.mem_map.mp hd
    have := h2 a ha
    exact w_int (by omega) (by omega)
  rw [List.length_map] at this
  omega
end LW

/-! SpL5: dicts with rows for keys, searches breadth first. -/
namespace LW
open PySem SP
/-- keys of a dict: how they stand as data -/
structure KeyE {α : Type} (ek : α → PyData) (kk : α → NestedKey) : Prop where
  key : ∀ x, keyOf (ek x) = some (kk x)
  dep : ∀ x, (kk x).depth ≤ 8
  inj : ∀ x y, kk x = kk y → x = y
  fam : (∀ x, leafK (ek x) = true) ∨ ∀ x, tupK (ek x) = true
theorem keysOf_ints : ∀ l : List Int, keysOf (l.map .int) = some (l.map .num)
  | [] => rfl
  | a :: l => by rw [List.map_cons, List.map_cons]; simp only [keysOf, keyOf, keysOf_ints l]
theorem depth_nums : ∀ l : List Int, NestedKey.depthAll (l.map .num) = 0
  | [] => rfl
  | a :: l => by rw [List.map_cons]; simp [NestedKey.depthAll, NestedKey.depth, depth_nums l]
theorem nums_inj : ∀ {l m : List Int}, l.map NestedKey.num = m.map NestedKey.num → l = m
  | [], [], _ => rfl
  | [], _ :: _, h => by simp at h
  | _ :: _, [], h => by simp at h
  | a :: l, b :: m, h => by
    simp only [List.map_cons, List.cons.injEq, NestedKey.num.injEq] at h
    rw [h.1, nums_inj h.2]
theorem keyE_rows : KeyE iT (fun l => .tup (l.map .num)) := by
  refine ⟨fun l => ?_, fun l => ?_, fun l m h => ?_, .inr fun l => rfl⟩
  · show (keysOf (l.map .int)).map NestedKey.tup = _
    rw [keysOf_ints]; rfl
  · simp [NestedKey.depth, depth_nums]
  · injection h with h
    exact nums_inj h
section
variable {α β : Type} [DecidableEq α] {ek : α → PyData} {kk : α → NestedKey} {e : β → PyData} {P : List (α × β)}
def encK (ek : α → PyData) (e : β → PyData) (P : List (α × β)) : List (PyData × PyData) := P.map fun p => (ek p.1, e p.2)
def fndK (P : List (α × β)) (x : α) : Option (α × β) := P.find? fun p => decide (p.1 = x)
theorem fam_k (K : KeyE ek kk) {x : α} : famK (encK ek e P) (ek x) = some (kk x) := by
  have hd := K.dep x
  unfold famK
  rw [K.key]
  simp only []
  rw [if_pos]
  rcases K.fam with h | h
  · have : ((encK ek e P).all fun kv => leafK kv.1) = true := by
      rw [List.all_eq_true]
      intro kv hk
      obtain ⟨p, _, rfl⟩ := List.mem_map.mp hk
      exact h p.1
    simp [hd, h x, this]
  · have : ((encK ek e P).all fun kv => tupK kv.1) = true := by
      rw [List.all_eq_true]
      intro kv hk
      obtain ⟨p, _, rfl⟩ := List.mem_map.mp hk
      exact h p.1
    simp [hd, h x, this]
theorem key_k (K : KeyE ek kk) {x y : α} : (keyOf (ek x) == some (kk y)) = decide (x = y) := by
  rw [K.key, Bool.eq_iff_iff]
  simp only [beq_iff_eq, Option.some.injEq, decide_eq_true_eq]
  exact ⟨K.inj x y, fun h => by rw [h]⟩
theorem look_k (K : KeyE ek kk) {x : α} : look (encK ek e P) (kk x) = (fndK P x).map fun p => e p.2 := by
  unfold look fndK encK
  induction P with
  | nil => rfl
  | cons p r ih =>
    rw [List.map_cons, List.find?_cons, List.find?_cons, key_k K]
    cases decide (p.1 = x) with
    | true => rfl
    | false => exact ih
theorem putF_k (K : KeyE ek kk) {x : α} {b : β} (h : fndK P x = none) (hl : P.length < 1000000) : putF (encK ek e P) (ek x) (e b) = some (encK ek e (P ++ [(x, b)])) := by
  unfold putF
  rw [fam_k K]
  have h2 : (encK ek e P).length < szMax := by unfold encK; rw [List.length_map]; exact hl
  simp only [h2, if_true]
  unfold put
  rw [look_k K, h]
  simp [encK]
theorem sto_k (K : KeyE ek kk) {x : α} {b : β} (h : fndK P x = none) (hl : P.length < 1000000) : stoM (.dct (encK ek e P)) (ek x) (e b) = some (.dct (encK ek e (P ++ [(x, b)]))) := by
  show (putF (encK ek e P) (ek x) (e b)).map MO.dct = _
  rw [putF_k K h hl]; rfl
theorem in_k (K : KeyE ek kk) {x : α} : cmpD .In (ek x) (.dict (encK ek e P)) = some (fndK P x).isSome := by
  show (match famK (encK ek e P) (ek x) with | some k => some (look (encK ek e P) k).isSome | none => none) = _
  rw [fam_k K]
  simp only [look_k K, Option.isSome_map]
theorem notin_k (K : KeyE ek kk) {x : α} : cmpD .NotIn (ek x) (.dict (encK ek e P)) = some (!(fndK P x).isSome) := by
  show (inD (ek x) (.dict (encK ek e P))).map (!·) = _
  rw [show inD (ek x) (.dict (encK ek e P)) = _ from in_k K]
  rfl
theorem ix_k (K : KeyE ek kk) {x : α} : idxD (.dict (encK ek e P)) (ek x) = (fndK P x).map fun p => e p.2 := by
  have h : ∀ z, idxD (.dict (encK ek e P)) z = (match famK (encK ek e P) z with | some k => look (encK ek e P) k | none => none) := fun z => by cases z <;> rfl
  rw [h, fam_k K]
  exact look_k K
theorem get_k (K : KeyE ek kk) {x : α} : mthD .get (.dict (encK ek e P)) [ek x] = some (((fndK P x).map fun p => e p.2).getD .none) := by
  show (famK (encK ek e P) (ek x)).map (fun k => (look (encK ek e P) k).getD .none) = _
  rw [fam_k K, Option.map_some, look_k K]
/-- the keys -/
def ksK (ek : α → PyData) (P : List (α × β)) (k : Nat) : List PyData := ((P.map (·.1)).drop k).map ek
@[simp] theorem itm_k : itemsD (.dict (encK ek e P)) = some (ksK ek P 0) := by
  show some ((encK ek e P).map (·.1)) = _
  unfold encK ksK
  rw [List.map_map, List.drop_zero, List.map_map]
  rfl
@[simp] theorem ksK_len {k : Nat} : (ksK ek P k).length = P.length - k := by simp [ksK]
theorem ksK_at {k i : Nat} {d : PyData} (h : (ksK ek P k)[i]? = some d) : ∃ p, P[k + i]? = some p ∧ d = ek p.1 := by
  unfold ksK at h
  rw [List.getElem?_map, List.getElem?_drop, List.getElem?_map] at h
  cases q : P[k + i]? with
  | none => rw [q] at h; cases h
  | some p => rw [q] at h; exact ⟨p, rfl, by simpa using h.symm⟩
theorem ksK_ix {j : Nat} {p : α × β} (h : P[j]? = some p) : idxD (.list (ksK ek P 0)) (.int (j : Nat)) = some (ek p.1) := y_ixL (by unfold ksK; rw [List.getElem?_map, List.getElem?_drop, Nat.zero_add, List.getElem?_map, h]; rfl)
theorem ksK_app {k : Nat} {x : α} {b : β} (h : k ≤ P.length) : ksK ek (P ++ [(x, b)]) k = ksK ek P k ++ [ek x] := by
  unfold ksK
  rw [List.map_append, List.drop_append_of_le_length (by rw [List.length_map]; exact h), List.map_append]
  rfl
theorem ksK_nil : ksK ek P P.length = [] := by
  unfold ksK
  rw [List.drop_eq_nil_of_le (by rw [List.length_map]; exact Nat.le_refl _)]
  rfl
theorem ksK_ne {k : Nat} (hs : ∀ x, sm 59 (ek x) = true) : cmpD .NotEq (.list (ksK ek P k)) (.list []) = some (decide (k < P.length)) := by
  have h : ∀ xs : List α, smAll 59 (xs.map ek) = true := fun xs => by
    induction xs with
    | nil => rfl
    | cons x r ih => rw [List.map_cons]; simp only [smAll, hs, ih, Bool.and_self]
  rw [ne_sm (by show sm (59 + 1) (.list (ksK ek P k)) = true; unfold ksK; simp only [sm]; exact h _) rfl]
  have e : PyData.eqv (.list (ksK ek P k)) (.list []) = (ksK ek P k).isEmpty := by cases ksK ek P k <;> simp [PyData.eqv, PyData.eqvAll]
  rw [e]
  congr 1
  rw [Bool.eq_iff_iff]
  have := ksK_len (ek := ek) (P := P) (k := k)
  cases hq : ksK ek P k with
  | nil => rw [hq] at this; simp at this ⊢; omega
  | cons a b => rw [hq] at this; simp at this ⊢; omega
theorem fndK_at (h : (P.map (·.1)).Nodup) {j : Nat} {p : α × β} (hp : P[j]? = some p) : fndK P p.1 = some p := by
  unfold fndK
  induction P generalizing j with
  | nil => simp at hp
  | cons q r ih =>
    rw [List.map_cons, List.nodup_cons] at h
    rw [List.find?_cons]
    cases j with
    | zero =>
      simp at hp
      subst hp
      simp
    | succ j =>
      have hr : r[j]? = some p := by simpa using hp
      have ne : decide (q.1 = p.1) = false := by
        rw [decide_eq_false_iff_not]
        intro z
        exact h.1 (z ▸ List.mem_map.mpr ⟨p, List.mem_of_getElem? hr, rfl⟩)
      rw [ne]
      exact ih h.2 hr
theorem fndK_mem {x : α} {p : α × β} (h : fndK P x = some p) : p ∈ P ∧ p.1 = x := by
  unfold fndK at h
  exact ⟨List.mem_of_find?_eq_some h, by simpa using List.find?_some h⟩
theorem fndK_none {x : α} : fndK P x = none ↔ x ∉ P.map (·.1) := by
  unfold fndK
  rw [List.find?_eq_none, List.mem_map]
  constructor
  · rintro h ⟨p, hp, rfl⟩
    exact h p hp (by simp)
  · intro h p hp z
    exact h ⟨p, hp, by simpa using z⟩
end
/-! ### a search breadth first -/
section
variable {α L : Type} [DecidableEq α]
def gadd (w : List L) (P : List (α × List L)) (q : α × L) : List (α × List L) := if (fndK P q.1).isSome then P else P ++ [(q.1, w ++ [q.2])]
def gext (nx : List (α × L)) (w : List L) (P : List (α × List L)) : List (α × List L) := nx.foldl (gadd w) P
def gbfs (succ : α → List (α × L)) (P0 : List (α × List L)) : Nat → List (α × List L)
  | 0 => P0
  | k + 1 => match (gbfs succ P0 k)[k]? with
    | some p => gext (succ p.1) p.2 (gbfs succ P0 k)
    | none => gbfs succ P0 k
variable {succ : α → List (α × L)} {P0 : List (α × List L)}
theorem gadd_pre {w : List L} {P : List (α × List L)} {q : α × L} : ∃ t, gadd w P q = P ++ t := by
  unfold gadd
  split
  · exact ⟨[], by simp⟩
  · exact ⟨_, rfl⟩
theorem gext_pre {w : List L} : ∀ {nx : List (α × L)} {P : List (α × List L)}, ∃ t, gext nx w P = P ++ t
  | [], P => ⟨[], by simp [gext]⟩
  | q :: r, P => by
    obtain ⟨t, e⟩ := gadd_pre (w := w) (P := P) (q := q)
    obtain ⟨u, e2⟩ := gext_pre (w := w) (nx := r) (P := gadd w P q)
    refine ⟨t ++ u, ?_⟩
    show gext r w (gadd w P q) = _
    rw [e2, e, List.append_assoc]
theorem gext_take {nx : List (α × L)} {w : List L} {P : List (α × List L)} {m : Nat} {q : α × L} (h : nx[m]? = some q) : gext (nx.take (m + 1)) w P = gadd w (gext (nx.take m) w P) q := by
  obtain ⟨hl, rfl⟩ := List.getElem?_eq_some_iff.mp h
  unfold gext
  rw [List.take_succ_eq_append_getElem hl, List.foldl_append]
  rfl
theorem gbfs_pre (k : Nat) : ∃ t, gbfs succ P0 (k + 1) = gbfs succ P0 k ++ t := by
  show ∃ t, (match (gbfs succ P0 k)[k]? with | some p => gext (succ p.1) p.2 (gbfs succ P0 k) | none => gbfs succ P0 k) = _
  split
  · exact gext_pre
  · exact ⟨[], by simp⟩
theorem gbfs_at {k j : Nat} {p : α × List L} (h : (gbfs succ P0 k)[j]? = some p) : ∀ i, (gbfs succ P0 (k + i))[j]? = some p
  | 0 => h
  | i + 1 => by
    obtain ⟨t, e⟩ := gbfs_pre (succ := succ) (P0 := P0) (k + i)
    rw [show k + (i + 1) = k + i + 1 by omega, e]
    have := gbfs_at h i
    rw [List.getElem?_append_left (List.getElem?_eq_some_iff.mp this).1]
    exact this
theorem gbfs_mono {k : Nat} : ∀ i, (gbfs succ P0 k).length ≤ (gbfs succ P0 (k + i)).length
  | 0 => Nat.le_refl _
  | i + 1 => by
    obtain ⟨t, e⟩ := gbfs_pre (succ := succ) (P0 := P0) (k + i)
    have := gbfs_mono (k := k) i
    rw [show k + (i + 1) = k + i + 1 by omega, e, List.length_append]
    omega
theorem gbfs_stop {k : Nat} (h : (gbfs succ P0 k).length ≤ k) : ∀ i, gbfs succ P0 (k + i) = gbfs succ P0 k
  | 0 => rfl
  | i + 1 => by
    have ih := gbfs_stop h i
    show (match (gbfs succ P0 (k + i))[k + i]? with | some p => gext (succ p.1) p.2 (gbfs succ P0 (k + i)) | none => gbfs succ P0 (k + i)) = _
    rw [ih, List.getElem?_eq_none (by omega)]
theorem gbfs_succ {k : Nat} {p : α × List L} (h : (gbfs succ P0 k)[k]? = some p) : gbfs succ P0 (k + 1) = gext (succ p.1) p.2 (gbfs succ P0 k) := by
  show (match (gbfs succ P0 k)[k]? with | some p => gext (succ p.1) p.2 (gbfs succ P0 k) | none => gbfs succ P0 k) = _
  rw [h]
theorem gbfs_end {N k : Nat} (hN : ∀ k, (gbfs succ P0 k).length ≤ N) (h : (gbfs succ P0 k).length ≤ k) : gbfs succ P0 k = gbfs succ P0 N := by
  by_cases hk : k ≤ N
  · have := gbfs_stop h (N - k)
    rw [show k + (N - k) = N by omega] at this
    exact this.symm
  · have := gbfs_stop (succ := succ) (P0 := P0) (hN N) (k - N)
    rw [show N + (k - N) = k by omega] at this
    exact this
theorem gbfs_lt {k : Nat} (h : k < (gbfs succ P0 k).length) : k + 1 ≤ (gbfs succ P0 (k + 1)).length := by
  have := gbfs_mono (succ := succ) (P0 := P0) (k := k) 1
  omega
/-- each key once, with what is known of it -/
structure GOk (Pr : α → List L → Prop) (P : List (α × List L)) : Prop where
  nd : (P.map (·.1)).Nodup
  ok : ∀ p ∈ P, Pr p.1 p.2
  le : ∀ (j : Nat) (p : α × List L), P[j]? = some p → p.2.length ≤ j + 1
variable {Pr : α → List L → Prop}
theorem gadd_ok {P : List (α × List L)} (o : GOk Pr P) {k : Nat} {x : α} {w : List L} (hs : P[k]? = some (x, w)) {q : α × L} (hq : Pr q.1 (w ++ [q.2])) : GOk Pr (gadd w P q) := by
  unfold gadd
  split
  · exact o
  · rename_i hn
    have hk : q.1 ∉ P.map (·.1) := fndK_none.mp (by simpa using hn)
    refine ⟨?_, fun p hp => ?_, fun j p hp => ?_⟩
    · rw [List.map_append, List.nodup_append]
      refine ⟨o.nd, by simp, fun y hy z hz => ?_⟩
      have hz' : z = q.1 := by simpa using hz
      rintro rfl
      exact hk (hz' ▸ hy)
    · rcases List.mem_append.mp hp with hp | hp
      · exact o.ok p hp
      · rw [List.mem_singleton] at hp
        subst hp
        exact hq
    · by_cases hj : j < P.length
      · rw [List.getElem?_append_left hj] at hp
        exact o.le j p hp
      · rw [List.getElem?_append_right (by omega)] at hp
        obtain rfl := List.mem_singleton.mp (List.mem_of_getElem? hp)
        have h1 := o.le k _ hs
        have h2 := (List.getElem?_eq_some_iff.mp hs).1
        simp only [List.length_append, List.length_singleton] at h1 ⊢
        omega
theorem gext_ok {x : α} {w : List L} {k : Nat} : ∀ {nx : List (α × L)} {P : List (α × List L)}, (∀ q ∈ nx, Pr q.1 (w ++ [q.2])) → GOk Pr P → P[k]? = some (x, w) → GOk Pr (gext nx w P) ∧ (gext nx w P)[k]? = some (x, w)
  | [], P, _, o, h => ⟨o, h⟩
  | q :: r, P, hu, o, h => by
    refine gext_ok (nx := r) (P := gadd w P q) (fun z hz => hu z (List.mem_cons_of_mem _ hz)) (gadd_ok o h (hu q (List.mem_cons_self ..))) ?_
    obtain ⟨t, e⟩ := gadd_pre (w := w) (P := P) (q := q)
    rw [e, List.getElem?_append_left (List.getElem?_eq_some_iff.mp h).1]
    exact h
theorem gbfs_ok (h0 : GOk Pr P0) (hs : ∀ x w q, Pr x w → q ∈ succ x → Pr q.1 (w ++ [q.2])) : ∀ k, GOk Pr (gbfs succ P0 k)
  | 0 => h0
  | k + 1 => by
    have ih := gbfs_ok h0 hs k
    show GOk Pr (match (gbfs succ P0 k)[k]? with | some p => gext (succ p.1) p.2 (gbfs succ P0 k) | none => gbfs succ P0 k)
    split
    · rename_i p h
      exact (gext_ok (fun q hq => hs p.1 p.2 q (ih.ok p (List.mem_of_getElem? h)) hq) ih h).1
    · exact ih
end
end LW

/-! SpL6: turns: what rows make of the reached states. -/
namespace LW
open PySem SP
section
variable {v : Int} {Ls : List (List Int)} {ws l : List Int}
def trn (Ls : List (List Int)) (l row : List Int) : List Int := l.map (fld Ls row)
def tnx (Ls : List (List Int)) (t : List Int) (a : Int) : List Int := t.map fun s => stp Ls s a
def tsucc (Ls : List (List Int)) (ws t : List Int) : List (List Int × Int) := ws.map fun a => (tnx Ls t a, a)
def tini (Ls : List (List Int)) (ws l : List Int) : List (List Int × List Int) := gext (tsucc Ls ws l) [] []
def turnsL (Ls : List (List Int)) (ws l : List Int) : List (List Int × List Int) := gbfs (tsucc Ls ws) (tini Ls ws l) 256
/-- the reached states in order -/
structure LOk (v : Int) (l : List Int) : Prop where
  nd : l.Nodup
  mem : ∀ s ∈ l, -1 ≤ s ∧ s < v
  pos : l ≠ []
  len : l.length ≤ (v + 1).toNat
def TPr (v : Int) (Ls : List (List Int)) (ws l : List Int) (t w : List Int) : Prop := t = trn Ls l w ∧ (∀ a ∈ w, a ∈ ws) ∧ w ≠ [] ∧ ∀ s ∈ t, -1 ≤ s ∧ s < v
theorem tnx_trn {w : List Int} {a : Int} : tnx Ls (trn Ls l w) a = trn Ls l (w ++ [a]) := by
  unfold tnx trn
  rw [List.map_map]
  congr 1
  funext s
  show stp Ls (fld Ls w s) a = _
  rw [fld_app]; rfl
theorem tnx_ok (hE : EffL v Ls) {t : List Int} (ht : ∀ s ∈ t, -1 ≤ s ∧ s < v) {a : Int} (a0 : 0 ≤ a) (a1 : a < Ls.length) : ∀ s ∈ tnx Ls t a, -1 ≤ s ∧ s < v := fun s hs => by
  obtain ⟨r, hr, rfl⟩ := List.mem_map.mp hs
  obtain ⟨_, _, _, b, c⟩ := stp_ok hE a0 a1 (ht r hr).1 (ht r hr).2
  exact ⟨b, c⟩
theorem trn_nil : trn Ls l [] = l := by
  unfold trn
  conv => rhs; rw [← List.map_id l]
  rfl
theorem tini_ok (hE : EffL v Ls) (hw : ∀ a ∈ ws, 0 ≤ a ∧ a < Ls.length) (L : LOk v l) : GOk (TPr v Ls ws l) (tini Ls ws l) := by
  have key : ∀ (us : List Int) (P : List (List Int × List Int)), (∀ a ∈ us, a ∈ ws) → GOk (TPr v Ls ws l) P → GOk (TPr v Ls ws l) (gext (us.map fun a => (tnx Ls l a, a)) [] P) := by
    intro us
    induction us with
    | nil => intro P _ o; exact o
    | cons a r ih =>
      intro P hu o
      show GOk _ (gext (r.map fun a => (tnx Ls l a, a)) [] (gadd [] P (tnx Ls l a, a)))
      refine ih _ (fun x hx => hu x (List.mem_cons_of_mem _ hx)) ?_
      have haw := hu a (List.mem_cons_self ..)
      have hq : TPr v Ls ws l (tnx Ls l a) ([] ++ [a]) := ⟨by rw [← tnx_trn, trn_nil], fun x hx => by rw [List.nil_append, List.mem_singleton] at hx; exact hx ▸ haw, by simp, tnx_ok hE L.mem (hw a haw).1 (hw a haw).2⟩
      unfold gadd
      split
      · exact o
      · rename_i hn
        have hk : tnx Ls l a ∉ P.map (·.1) := fndK_none.mp (by simpa using hn)
        refine ⟨?_, fun p hp => ?_, fun j p hp => ?_⟩
        · rw [List.map_append, List.nodup_append]
          refine ⟨o.nd, by simp, fun y hy z hz => ?_⟩
          have hz' : z = tnx Ls l a := by simpa using hz
          rintro rfl
          exact hk (hz' ▸ hy)
        · rcases List.mem_append.mp hp with hp | hp
          · exact o.ok p hp
          · rw [List.mem_singleton] at hp
            subst hp
            exact hq
        · by_cases hj : j < P.length
          · rw [List.getElem?_append_left hj] at hp
            exact o.le j p hp
          · rw [List.getElem?_append_right (by omega)] at hp
            obtain rfl := List.mem_singleton.mp (List.mem_of_getElem? hp)
            simp
  exact key ws [] (fun _ z => z) ⟨by simp, (fun _ z => nomatch z), fun j p h => by simp at h⟩
theorem tg_ok (hE : EffL v Ls) (hw : ∀ a ∈ ws, 0 ≤ a ∧ a < Ls.length) (L : LOk v l) : ∀ k, GOk (TPr v Ls ws l) (gbfs (tsucc Ls ws) (tini Ls ws l) k) :=
  gbfs_ok (tini_ok hE hw L) fun t w q ht hq => by
    obtain ⟨a, ha, rfl⟩ := List.mem_map.mp hq
    obtain ⟨rfl, h2, h3, h4⟩ := ht
    refine ⟨tnx_trn, fun x hx => ?_, by simp, tnx_ok hE h4 (hw a ha).1 (hw a ha).2⟩
    rcases List.mem_append.mp hx with hx | hx
    · exact h2 x hx
    · rw [List.mem_singleton] at hx; exact hx ▸ ha
def code (B : Nat) : List Int → Nat
  | [] => 0
  | x :: r => (x + 1).toNat + B * code B r
theorem code_lt {B : Nat} : ∀ {l : List Int}, (∀ s ∈ l, -1 ≤ s ∧ (s + 1).toNat < B) → code B l < B ^ l.length
  | [], _ => by simp [code]
  | x :: r, h => by
    have ih := code_lt (l := r) fun s hs => h s (List.mem_cons_of_mem _ hs)
    have hx := h x (List.mem_cons_self ..)
    have h2 : B * (code B r + 1) ≤ B * B ^ r.length := Nat.mul_le_mul_left B ih
    show (x + 1).toNat + B * code B r < B ^ (r.length + 1)
    rw [Nat.pow_succ, Nat.mul_comm (B ^ r.length) B]
    rw [Nat.mul_add, Nat.mul_one] at h2
    omega
theorem code_inj {B : Nat} : ∀ {l m : List Int}, (∀ s ∈ l, -1 ≤ s ∧ (s + 1).toNat < B) → (∀ s ∈ m, -1 ≤ s ∧ (s + 1).toNat < B) → l.length = m.length → code B l = code B m → l = m
  | [], [], _, _, _, _ => rfl
  | [], _ :: _, _, _, h, _ => by simp at h
  | _ :: _, [], _, _, h, _ => by simp at h
  | x :: r, y :: q, h1, h2, h3, h4 => by
    have hx := h1 x (List.mem_cons_self ..)
    have hy := h2 y (List.mem_cons_self ..)
    have h4 : (x + 1).toNat + B * code B r = (y + 1).toNat + B * code B q := h4
    have e1 : (x + 1).toNat = (y + 1).toNat := by
      have a := congrArg (· % B) h4
      simp only [Nat.add_mul_mod_self_left] at a
      rwa [Nat.mod_eq_of_lt hx.2, Nat.mod_eq_of_lt hy.2] at a
    have e2 : B * code B r = B * code B q := by omega
    have e3 : code B r = code B q := Nat.eq_of_mul_eq_mul_left (by omega) e2
    have e4 := code_inj (l := r) (m := q) (fun s hs => h1 s (List.mem_cons_of_mem _ hs)) (fun s hs => h2 s (List.mem_cons_of_mem _ hs)) (by simpa using h3) e3
    rw [e4, show x = y by omega]
theorem rows_len {B m : Nat} {K : List (List Int)} (hd : K.Nodup) (h : ∀ t ∈ K, t.length = m ∧ ∀ s ∈ t, -1 ≤ s ∧ (s + 1).toNat < B) : K.length ≤ B ^ m := by
  have := nodup_len (B ^ m) (K.map (code B)) ?_ ?_
  · simpa using this
  · induction K with
    | nil => simp
    | cons t r ih =>
      rw [List.nodup_cons] at hd
      rw [List.map_cons, List.nodup_cons]
      refine ⟨fun z => ?_, ih hd.2 fun q hq => h q (List.mem_cons_of_mem _ hq)⟩
      obtain ⟨q, hq, e⟩ := List.mem_map.mp z
      have h1 := h t (List.mem_cons_self ..)
      have h2 := h q (List.mem_cons_of_mem _ hq)
      exact hd.1 (code_inj h2.2 h1.2 (h2.1.trans h1.1.symm) e ▸ hq)
  · intro x hx
    obtain ⟨t, ht, rfl⟩ := List.mem_map.mp hx
    have := code_lt (h t ht).2
    rwa [(h t ht).1] at this
theorem tg_len (hE : EffL v Ls) (hw : ∀ a ∈ ws, 0 ≤ a ∧ a < Ls.length) (L : LOk v l) (hv0 : 1 ≤ v) (hv : v ≤ 3) (k : Nat) : (gbfs (tsucc Ls ws) (tini Ls ws l) k).length ≤ 256 := by
  have o := tg_ok hE hw L k
  have h1 := rows_len (B := (v + 1).toNat) (m := l.length) o.nd fun t ht => by
    obtain ⟨p, hp, rfl⟩ := List.mem_map.mp ht
    obtain ⟨h2, _, _, h3⟩ := o.ok p hp
    refine ⟨by rw [h2]; simp [trn], fun s hs => ?_⟩
    have := h3 s hs
    omega
  rw [List.length_map] at h1
  refine Nat.le_trans h1 ?_
  have h2 : (v + 1).toNat ^ l.length ≤ 4 ^ 4 := Nat.le_trans (Nat.pow_le_pow_right (by omega) (show l.length ≤ 4 by have := L.len; omega)) (Nat.pow_le_pow_left (by omega) 4)
  exact h2
end
end LW

/-! SpL7: rows sorted, rows looked for. -/
namespace LW
open PySem SP
theorem alikeAll_ints : ∀ a b : List Int, PySem.W.alikeAll (a.map .int) (b.map .int) = true
  | [], _ => by simp [PySem.W.alikeAll]
  | _ :: _, [] => by simp [PySem.W.alikeAll]
  | x :: a, y :: b => by
    rw [List.map_cons, List.map_cons]
    simp only [PySem.W.alikeAll, PySem.W.alike, alikeAll_ints a b, Bool.and_self]
theorem alike_rows (a b : List Int) : PySem.W.alike (iT a) (iT b) = true := by
  show PySem.W.alikeAll (a.map .int) (b.map .int) = true
  exact alikeAll_ints a b
theorem smAll_rows : ∀ xs : List (List Int), smAll 59 (xs.map iT) = true
  | [] => rfl
  | x :: xs => by rw [List.map_cons]; simp only [smAll, Bool.and_eq_true]; exact ⟨sm_iT (n := 58) x, smAll_rows xs⟩
theorem smAll_rows60 : ∀ xs : List (List Int), smAll deepest (xs.map iT) = true
  | [] => rfl
  | x :: xs => by rw [List.map_cons]; simp only [smAll, Bool.and_eq_true]; exact ⟨sm_iT (n := 59) x, smAll_rows60 xs⟩
theorem okSort_rows0 {xs : List (List Int)} : okSort (xs.map iT) = true := by
  unfold okSort
  rw [smAll_rows60, Bool.true_and, Bool.and_eq_true]
  refine ⟨?_, ?_⟩
  · unfold allAlike
    rw [List.all_eq_true]
    intro a ha
    rw [List.all_eq_true]
    intro b hb
    obtain ⟨x, _, rfl⟩ := List.mem_map.mp ha
    obtain ⟨y, _, rfl⟩ := List.mem_map.mp hb
    exact alike_rows x y
  · unfold sortable
    rw [Bool.or_eq_true]
    refine .inl (List.all_eq_true.mpr fun d hd => ?_)
    obtain ⟨x, hx, rfl⟩ := List.mem_map.mp hd
    rfl
theorem okSort_rows {xs : List (List Int)} (h : ∀ x ∈ xs, x ≠ []) : okSort (xs.map iT) = true := okSort_rows0
theorem sorted_rows0 (xs : List (List Int)) : ∃ ys : List (List Int), bltD .sorted [.list (xs.map iT)] = some (.own (.lst (ys.map iT))) ∧ ys.Perm xs ∧ ys.map iT = sortD (xs.map iT) := by
  have hp : (sortD (xs.map iT)).Perm (xs.map iT) := List.mergeSort_perm ..
  obtain ⟨ys, h1, h2⟩ : ∃ ys : List (List Int), sortD (xs.map iT) = ys.map iT ∧ ys.Perm xs := by
    have hm : ∀ d ∈ sortD (xs.map iT), ∃ y, d = iT y := fun d hd => by
      obtain ⟨a, _, rfl⟩ := List.mem_map.mp (hp.subset hd)
      exact ⟨a, rfl⟩
    generalize sortD (xs.map iT) = q at hp hm
    obtain ⟨ys, rfl⟩ : ∃ ys : List (List Int), q = ys.map iT := by
      clear hp
      induction q with
      | nil => exact ⟨[], rfl⟩
      | cons d r ih =>
        obtain ⟨y, rfl⟩ := hm d (List.mem_cons_self ..)
        obtain ⟨ys, rfl⟩ := ih fun x hx => hm x (List.mem_cons_of_mem _ hx)
        exact ⟨y :: ys, rfl⟩
    refine ⟨ys, rfl, ?_⟩
    let un : PyData → List Int := fun d => match d with | .tuple xs => intsF xs | _ => []
    have hu : ∀ a : List Int, un (iT a) = a := fun a => intsF_map a
    have h3 := hp.map un
    rw [List.map_map, List.map_map] at h3
    have e1 : ∀ zs : List (List Int), zs.map (un ∘ iT) = zs := fun zs => by
      conv => rhs; rw [← List.map_id zs]
      exact List.map_congr_left fun z _ => hu z
    rwa [e1, e1] at h3
  refine ⟨ys, ?_, h2, h1.symm⟩
  show sortedD [.list (xs.map iT)] = _
  rw [sortedD_list, okSort_rows0, if_pos rfl, h1]
theorem sorted_rows (xs : List (List Int)) (h : ∀ x ∈ xs, x ≠ []) : ∃ ys : List (List Int), bltD .sorted [.list (xs.map iT)] = some (.own (.lst (ys.map iT))) ∧ ys.Perm xs ∧ ys.map iT = sortD (xs.map iT) := sorted_rows0 xs
theorem sorted_rowsD {β : Type} {e : β → PyData} {P : List (List Int × β)} (h : ∀ p ∈ P, p.1 ≠ []) : ∃ ys : List (List Int), bltD .sorted [.dict (encK iT e P)] = some (.own (.lst (ys.map iT))) ∧ ys.Perm (P.map (·.1)) ∧ ys.map iT = sortD ((P.map (·.1)).map iT) := by
  obtain ⟨ys, h1, h2, h3⟩ := sorted_rows (P.map (·.1)) fun x hx => by
    obtain ⟨p, hp, rfl⟩ := List.mem_map.mp hx
    exact h p hp
  refine ⟨ys, ?_, h2, h3⟩
  rw [← h1]
  show sortedD [.dict (encK iT e P)] = sortedD [.list ((P.map (·.1)).map iT)]
  have : (encK iT e P).map (·.1) = (P.map (·.1)).map iT := by unfold encK; rw [List.map_map, List.map_map]; rfl
  rw [sortedD_dct, sortedD_list, this]
theorem eqvAll_ints : ∀ a b : List Int, PyData.eqvAll (a.map .int) (b.map .int) = decide (a = b)
  | [], [] => by simp [PyData.eqvAll]
  | [], _ :: _ => by simp [PyData.eqvAll]
  | _ :: _, [] => by simp [PyData.eqvAll]
  | x :: a, y :: b => by
    rw [List.map_cons, List.map_cons]
    have e : PyData.eqv (.int x) (.int y) = decide (x = y) := rfl
    simp only [PyData.eqvAll, e, eqvAll_ints a b, List.cons.injEq]
    by_cases h1 : x = y <;> by_cases h2 : a = b <;> simp [h1, h2]
theorem eqv_iT {a b : List Int} : PyData.eqv (iT a) (iT b) = decide (a = b) := by
  show PyData.eqv (.tuple (a.map .int)) (.tuple (b.map .int)) = _
  simp only [PyData.eqv, eqvAll_ints]
theorem eq_iT {a b : List Int} : cmpD .Eq (iT a) (iT b) = some (decide (a = b)) := by rw [eq_sm (sm_iT (n := 59) _) (sm_iT (n := 59) _), eqv_iT]
theorem ne_iT {a b : List Int} : cmpD .NotEq (iT a) (iT b) = some (!decide (a = b)) := by rw [ne_sm (sm_iT (n := 59) _) (sm_iT (n := 59) _), eqv_iT]
theorem in_rows {t : List Int} {rows : List (List Int)} : cmpD .In (iT t) (.list (rows.map iT)) = some (rows.contains t) := by
  have h2 : sm deepest (iT t) = true := sm_iT (n := 59) _
  show inD (iT t) (.list (rows.map iT)) = _
  unfold inD
  simp only [smAll_rows60, h2, Bool.and_self, if_true, List.any_map]
  congr 1
  rw [List.contains_eq_any_beq]
  congr 1
  funext x
  show PyData.eqv (iT x) (iT t) = _
  rw [eqv_iT, Bool.eq_iff_iff]
  simp only [decide_eq_true_eq, beq_iff_eq]
  exact eq_comm
theorem notin_rows {t : List Int} {rows : List (List Int)} : cmpD .NotIn (iT t) (.list (rows.map iT)) = some (!rows.contains t) := by
  show (inD (iT t) (.list (rows.map iT))).map (!·) = _
  rw [show inD (iT t) (.list (rows.map iT)) = _ from in_rows]
  rfl
end LW

namespace LW
open PySem SP
/-- makings: trees of operands -/
inductive Mk where
  | leaf (a : Int)
  | node (c : Int) (l r : Mk)
namespace Mk
def data : Mk → PyData
  | leaf a => .int a
  | node c l r => .tuple [.int c, l.data, r.data]
def steps : Mk → Nat
  | leaf _ => 1
  | node _ l r => l.steps + r.steps + 1
def row : Mk → List Int
  | leaf a => [a]
  | node _ l r => l.row ++ r.row
def top : Mk → Int
  | leaf a => a
  | node c _ _ => c
def dep : Mk → Nat
  | leaf _ => 1
  | node _ l r => max l.dep r.dep + 1
theorem dep_pos : ∀ t : Mk, 1 ≤ t.dep
  | leaf _ => Nat.le_refl _
  | node _ _ _ => Nat.le_add_left _ _
theorem steps_pos : ∀ t : Mk, 1 ≤ t.steps
  | leaf _ => Nat.le_refl _
  | node _ _ _ => Nat.le_add_left _ _
theorem steps_lt : ∀ t : Mk, t.steps < 2 ^ t.dep
  | leaf _ => by show 1 < 2 ^ 1; decide
  | node _ l r => by
    have h1 := steps_lt l
    have h2 := steps_lt r
    have h3 : 2 ^ l.dep ≤ 2 ^ (max l.dep r.dep) := Nat.pow_le_pow_right (by decide) (Nat.le_max_left ..)
    have h4 : 2 ^ r.dep ≤ 2 ^ (max l.dep r.dep) := Nat.pow_le_pow_right (by decide) (Nat.le_max_right ..)
    show l.steps + r.steps + 1 < 2 ^ (max l.dep r.dep + 1)
    rw [Nat.pow_succ]
    omega
theorem row_len : ∀ t : Mk, t.row.length ≤ t.steps
  | leaf _ => Nat.le_refl _
  | node _ l r => by
    have h1 := row_len l
    have h2 := row_len r
    show (l.row ++ r.row).length ≤ l.steps + r.steps + 1
    rw [List.length_append]
    omega
/-- a tree by the rules, over the written operands; no operand twice on a path down -/
def Ok (Rs : List (Int × Int × Int)) (ws : List Int) : Mk → Prop
  | leaf a => a ∈ ws
  | node c l r => (l.top, r.top, c) ∈ Rs ∧ c ≠ -1 ∧ l.Ok Rs ws ∧ r.Ok Rs ws
/-- the operands of a tree, and a tree without an operand twice on a path down -/
def tops : Mk → List Int
  | leaf a => [a]
  | node c l r => c :: (l.tops ++ r.tops)
def NR (acc : List Int) : Mk → Prop
  | leaf a => a ∉ acc
  | node c l r => c ∉ acc ∧ l.NR (c :: acc) ∧ r.NR (c :: acc)
theorem top_mem : ∀ t : Mk, t.top ∈ t.tops
  | leaf _ => List.mem_cons_self ..
  | node _ _ _ => List.mem_cons_self ..
theorem NR.mono : ∀ {t : Mk} {acc acc' : List Int}, t.NR acc → (∀ x ∈ acc', x ∈ acc ∨ x ∉ t.tops) → t.NR acc'
  | leaf a, acc, acc', h, h2 => fun ha => (h2 a ha).elim h fun q => q (List.mem_cons_self ..)
  | node c l r, acc, acc', ⟨h0, h1, h3⟩, h2 => by
    refine ⟨fun hc => (h2 c hc).elim h0 fun q => q (List.mem_cons_self ..), h1.mono fun x hx => ?_, h3.mono fun x hx => ?_⟩
    · rcases List.mem_cons.mp hx with rfl | hx
      · exact .inl (List.mem_cons_self ..)
      · exact (h2 x hx).imp (fun q => List.mem_cons_of_mem _ q) fun q z => q (List.mem_cons_of_mem _ (List.mem_append_left _ z))
    · rcases List.mem_cons.mp hx with rfl | hx
      · exact .inl (List.mem_cons_self ..)
      · exact (h2 x hx).imp (fun q => List.mem_cons_of_mem _ q) fun q z => q (List.mem_cons_of_mem _ (List.mem_append_right _ z))
theorem NR.node {c : Int} {l r : Mk} (h1 : l.NR []) (h2 : r.NR []) (h3 : c ∉ l.tops) (h4 : c ∉ r.tops) : (Mk.node c l r).NR [] :=
  ⟨fun z => (nomatch z), h1.mono fun x hx => .inr (by rw [List.mem_singleton] at hx; exact hx ▸ h3), h2.mono fun x hx => .inr (by rw [List.mem_singleton] at hx; exact hx ▸ h4)⟩
theorem ints_len {n : Nat} {l : List Int} (hd : l.Nodup) (h : ∀ x ∈ l, 0 ≤ x ∧ x < n) : l.length ≤ n := by
  have := nodup_len n (l.map Int.toNat) ?_ ?_
  · simpa using this
  · induction l with
    | nil => simp
    | cons a r ih =>
      rw [List.nodup_cons] at hd
      rw [List.map_cons, List.nodup_cons]
      refine ⟨fun z => ?_, ih hd.2 fun x hx => h x (List.mem_cons_of_mem _ hx)⟩
      obtain ⟨b, hb, e⟩ := List.mem_map.mp z
      have h1 := h a (List.mem_cons_self ..)
      have h2 := h b (List.mem_cons_of_mem _ hb)
      have : b = a := by omega
      exact hd.1 (this ▸ hb)
  · intro x hx
    obtain ⟨b, hb, rfl⟩ := List.mem_map.mp hx
    have := h b hb
    omega
theorem NR.dep {n : Nat} : ∀ {t : Mk} {acc : List Int}, t.NR acc → acc.Nodup → (∀ x ∈ acc, 0 ≤ x ∧ x < n) → (∀ x ∈ t.tops, 0 ≤ x ∧ x < n) → t.dep + acc.length ≤ n
  | leaf a, acc, h, hd, h1, h2 => by
    have := ints_len (n := n) (l := a :: acc) (List.nodup_cons.mpr ⟨h, hd⟩) fun x hx => (List.mem_cons.mp hx).elim (fun e => h2 x (by rw [e]; exact List.mem_cons_self ..)) (h1 x)
    rw [List.length_cons] at this
    show 1 + acc.length ≤ n
    omega
  | Mk.node c l r, acc, ⟨h0, hl, hr⟩, hd, h1, h2 => by
    have hd' : (c :: acc).Nodup := List.nodup_cons.mpr ⟨h0, hd⟩
    have h1' : ∀ x ∈ c :: acc, 0 ≤ x ∧ x < n := fun x hx => (List.mem_cons.mp hx).elim (fun e => h2 x (by rw [e]; exact List.mem_cons_self ..)) (h1 x)
    have a := hl.dep hd' h1' fun x hx => h2 x (List.mem_cons_of_mem _ (List.mem_append_left _ hx))
    have b := hr.dep hd' h1' fun x hx => h2 x (List.mem_cons_of_mem _ (List.mem_append_right _ hx))
    rw [List.length_cons] at a b
    show max l.dep r.dep + 1 + acc.length ≤ n
    omega
theorem data_leaf {a : Int} : (leaf a).data = .int a := rfl
theorem data_node {c : Int} {l r : Mk} : (node c l r).data = .tuple [.int c, l.data, r.data] := rfl
end Mk
/-! ### dicts whose entries are exchanged -/
section
variable {β : Type} {e : β → PyData} {P : List (Int × β)}
def updD (P : List (Int × β)) (i : Int) (b : β) : List (Int × β) := if (fnd P i).isSome then P.map (fun p => if p.1 = i then (i, b) else p) else P ++ [(i, b)]
theorem upd_keys {i : Int} {b : β} : (updD P i b).map (·.1) = if (fnd P i).isSome then P.map (·.1) else P.map (·.1) ++ [i] := by
  unfold updD
  split
  · rw [List.map_map]
    refine List.map_congr_left fun p _ => ?_
    show (if p.1 = i then (i, b) else p).1 = p.1
    split
    · rename_i h; exact h.symm
    · rfl
  · rw [List.map_append]; rfl
theorem fnd_upd {i j : Int} {b : β} : fnd (updD P i b) j = if i = j then some (i, b) else fnd P j := by
  unfold updD
  split
  · rename_i h
    unfold fnd at h ⊢
    induction P with
    | nil => simp at h
    | cons p r ih =>
      rw [List.map_cons, List.find?_cons, List.find?_cons]
      by_cases c : p.1 = i
      · rw [if_pos c]
        by_cases d : i = j
        · subst d; simp
        · rw [if_neg d]
          have e1 : (i == j) = false := by simpa using d
          have e2 : (p.1 == j) = false := by rw [c]; exact e1
          simp only [e1, e2]
          by_cases hh : (r.find? fun p => p.1 == i).isSome
          · rw [ih hh, if_neg d]
          · congr 1
            have : r.map (fun p => if p.1 = i then (i, b) else p) = r := by
              conv => rhs; rw [← List.map_id r]
              refine List.map_congr_left fun q hq => ?_
              have : ¬ q.1 = i := fun z => hh (by rw [List.find?_isSome]; exact ⟨q, hq, by simpa using z⟩)
              rw [if_neg this]; rfl
            rw [this]
      · rw [if_neg c]
        have e1 : (p.1 == i) = false := by simpa using c
        rw [List.find?_cons, e1] at h
        by_cases d : i = j
        · subst d
          simp only [e1, if_true]
          have := ih h
          simpa using this
        · rw [if_neg d]
          have := ih h
          rw [if_neg d] at this
          rw [this]
  · rename_i h
    have hn : fnd P i = none := by simpa using h
    unfold fnd at hn ⊢
    rw [List.find?_append]
    by_cases d : i = j
    · subst d
      rw [hn, if_pos rfl]
      simp
    · rw [if_neg d]
      have e1 : (i == j) = false := by simpa using d
      simp [e1]
theorem put_upd {i : Int} {b : β} : put (encD e P) (.num i) (.int i) (e b) = encD e (updD P i b) := by
  cases h : fnd P i with
  | none =>
    rw [put_int h]
    unfold updD
    rw [h]
    rfl
  | some q =>
    unfold put updD
    rw [look_int, h]
    simp only [Option.map_some, Option.isSome_some, if_true]
    unfold encD
    rw [List.map_map, List.map_map]
    refine List.map_congr_left fun p _ => ?_
    have hk := key_int (x := p.1) (i := i)
    by_cases c : p.1 = i
    · have hk : (keyOf (.int p.1) == some (NestedKey.num i)) = true := by rw [hk]; simpa using c
      simp only [Function.comp, hk, if_true, if_pos c]
      rw [c]
    · have hk : (keyOf (.int p.1) == some (NestedKey.num i)) = false := by rw [hk]; simpa using c
      simp [Function.comp, hk, if_neg c]
theorem sto_upd {i : Int} {b : β} (hl : P.length < 1000000) : stoM (.dct (encD e P)) (.int i) (e b) = some (.dct (encD e (updD P i b))) := by
  show (putF (encD e P) (.int i) (e b)).map MO.dct = _
  unfold putF
  rw [fam_int]
  have h2 : (encD e P).length < szMax := by unfold encD; rw [List.length_map]; exact hl
  simp only [h2, if_true, put_upd, Option.map_some]
end
/-! ### makings found -/
namespace Mk
def Sub (P : List (Int × Mk)) : Mk → Prop
  | leaf a => ∃ q, fnd P a = some q ∧ q.2.steps ≤ 1
  | node c l r => (∃ q, fnd P c = some q ∧ q.2.steps ≤ l.steps + r.steps + 1) ∧ l.Sub P ∧ r.Sub P
theorem Sub.mono {P P' : List (Int × Mk)} (h : ∀ x q, fnd P x = some q → ∃ q', fnd P' x = some q' ∧ q'.2.steps ≤ q.2.steps) : ∀ {t : Mk}, t.Sub P → t.Sub P'
  | leaf a, ⟨q, h1, h2⟩ => by
    obtain ⟨q', h3, h4⟩ := h a q h1
    exact ⟨q', h3, Nat.le_trans h4 h2⟩
  | node c l r, ⟨⟨q, h1, h2⟩, hl, hr⟩ => by
    obtain ⟨q', h3, h4⟩ := h c q h1
    exact ⟨⟨q', h3, Nat.le_trans h4 h2⟩, hl.mono h, hr.mono h⟩
theorem Sub.notin {P : List (Int × Mk)} {c : Int} : ∀ {t : Mk}, t.Sub P → (∀ q, fnd P c = some q → t.steps < q.2.steps) → c ∉ t.tops
  | leaf a, ⟨q, h1, h2⟩, h => fun hc => by
    have hc : c ∈ [a] := hc
    rw [List.mem_singleton] at hc
    subst hc
    have := h q h1
    have : 1 < q.2.steps := this
    omega
  | node d l r, ⟨⟨q, h1, h2⟩, hl, hr⟩, h => fun hc => by
    have hs : ∀ q, fnd P c = some q → l.steps + r.steps + 1 < q.2.steps := h
    rcases List.mem_cons.mp hc with rfl | hc
    · have := hs q h1
      omega
    · rcases List.mem_append.mp hc with hc | hc
      · exact hl.notin (fun q hq => by have := hs q hq; omega) hc
      · exact hr.notin (fun q hq => by have := hs q hq; omega) hc
theorem Sub.found {P : List (Int × Mk)} : ∀ {t : Mk}, t.Sub P → ∀ x ∈ t.tops, (fnd P x).isSome = true
  | leaf a, ⟨q, h1, _⟩, x, hx => by
    have hx : x ∈ [a] := hx
    rw [List.mem_singleton] at hx
    subst hx
    rw [h1]; rfl
  | node d l r, ⟨⟨q, h1, _⟩, hl, hr⟩, x, hx => by
    rcases List.mem_cons.mp hx with rfl | hx
    · rw [h1]; rfl
    · exact (List.mem_append.mp hx).elim (hl.found x) (hr.found x)
end Mk
structure MkOk (Rs : List (Int × Int × Int)) (ws : List Int) (P : List (Int × Mk)) : Prop where
  nd : (P.map (·.1)).Nodup
  ok : ∀ i p, fnd P i = some p → p.2.top = i ∧ p.2.Ok Rs ws ∧ p.2.NR [] ∧ p.2.Sub P
theorem mk_step {Rs : List (Int × Int × Int)} {ws : List Int} {P : List (Int × Mk)} (o : MkOk Rs ws P) {a b c : Int} {pa pb : Int × Mk} (ha : fnd P a = some pa) (hb : fnd P b = some pb) (hr : (a, b, c) ∈ Rs) (hc : c ≠ -1) (h : ∀ q, fnd P c = some q → pa.2.steps + pb.2.steps + 1 < q.2.steps) : MkOk Rs ws (updD P c (.node c pa.2 pb.2)) := by
  obtain ⟨a1, a2, a3, a4⟩ := o.ok a pa ha
  obtain ⟨b1, b2, b3, b4⟩ := o.ok b pb hb
  have hm : ∀ x q, fnd P x = some q → ∃ q', fnd (updD P c (.node c pa.2 pb.2)) x = some q' ∧ q'.2.steps ≤ q.2.steps := fun x q hq => by
    rw [fnd_upd]
    by_cases d : c = x
    · subst d
      rw [if_pos rfl]
      exact ⟨_, rfl, Nat.le_of_lt (h q hq)⟩
    · rw [if_neg d]
      exact ⟨q, hq, Nat.le_refl _⟩
  refine ⟨?_, fun i p hp => ?_⟩
  · rw [upd_keys]
    split
    · exact o.nd
    · rename_i hn
      have : fnd P c = none := by simpa using hn
      rw [fnd_none] at this
      rw [List.nodup_append]
      refine ⟨o.nd, by simp, fun x hx y hy => ?_⟩
      rw [List.mem_singleton] at hy
      subst hy
      exact fun e => this (e ▸ hx)
  · rw [fnd_upd] at hp
    by_cases d : c = i
    · subst d
      rw [if_pos rfl] at hp
      injection hp with hp
      subst hp
      refine ⟨rfl, ⟨by rw [a1, b1]; exact hr, hc, a2, b2⟩, Mk.NR.node a3 b3 (a4.notin fun q hq => ?_) (b4.notin fun q hq => ?_), ⟨⟨_, by rw [fnd_upd, if_pos rfl], Nat.le_refl _⟩, a4.mono hm, b4.mono hm⟩⟩
      · have := h q hq; omega
      · have := h q hq; omega
    · rw [if_neg d] at hp
      obtain ⟨p1, p2, p3, p4⟩ := o.ok i p hp
      exact ⟨p1, p2, p3, p4.mono hm⟩
end LW

/-! SpL9: the least makings: the program's trees at their end, the law's rounds. -/
namespace LW
open PySem SP
section
variable {Rs : List (Int × Int × Int)} {ws : List Int}
theorem fix_min {P : List (Int × Mk)} (hb : ∀ a ∈ ws, ∃ q, fnd P a = some q ∧ q.2.steps ≤ 1) (hf : ∀ a b c pa pb, (a, b, c) ∈ Rs → c ≠ -1 → fnd P a = some pa → fnd P b = some pb → ∃ pc, fnd P c = some pc ∧ pc.2.steps ≤ pa.2.steps + pb.2.steps + 1) : ∀ {t : Mk}, t.Ok Rs ws → ∃ q, fnd P t.top = some q ∧ q.2.steps ≤ t.steps
  | .leaf a, h => hb a h
  | .node c l r, ⟨h1, h2, h3, h4⟩ => by
    obtain ⟨p, p1, p2⟩ := fix_min hb hf h3
    obtain ⟨q, q1, q2⟩ := fix_min hb hf h4
    obtain ⟨s, s1, s2⟩ := hf _ _ c p q h1 h2 p1 q1
    exact ⟨s, s1, by show _ ≤ l.steps + r.steps + 1; omega⟩
/-- one rule of the law's round -/
def lst1 (L : List (Int × Nat)) (r : Int × Int × Int) : List (Int × Nat) :=
  match fnd L r.1, fnd L r.2.1 with
  | some p, some q => if r.2.2 = -1 then L else updD L r.2.2 (match fnd L r.2.2 with | some s => min s.2 (p.2 + q.2 + 1) | none => p.2 + q.2 + 1)
  | _, _ => L
structure LmOk (Rs : List (Int × Int × Int)) (ws : List Int) (L : List (Int × Nat)) : Prop where
  nd : (L.map (·.1)).Nodup
  ok : ∀ i q, fnd L i = some q → ∃ t : Mk, t.Ok Rs ws ∧ t.top = i ∧ t.steps = q.2
theorem upd_nd {β : Type} {P : List (Int × β)} {i : Int} {b : β} (h : (P.map (·.1)).Nodup) : ((updD P i b).map (·.1)).Nodup := by
  rw [upd_keys]
  split
  · exact h
  · rename_i hn
    have : fnd P i = none := by simpa using hn
    rw [fnd_none] at this
    rw [List.nodup_append]
    refine ⟨h, by simp, fun x hx y hy => ?_⟩
    rw [List.mem_singleton] at hy
    subst hy
    exact fun e => this (e ▸ hx)
theorem lst1_le {L : List (Int × Nat)} {r : Int × Int × Int} : ∀ x q, fnd L x = some q → ∃ q', fnd (lst1 L r) x = some q' ∧ q'.2 ≤ q.2 := fun x q hq => by
  unfold lst1
  split
  · rename_i p q0 h1 h2
    split
    · exact ⟨q, hq, Nat.le_refl _⟩
    · rw [fnd_upd]
      by_cases d : r.2.2 = x
      · rw [if_pos d]
        refine ⟨_, rfl, ?_⟩
        rw [d, hq]
        exact Nat.min_le_left ..
      · rw [if_neg d]
        exact ⟨q, hq, Nat.le_refl _⟩
  · exact ⟨q, hq, Nat.le_refl _⟩
theorem lst1_ok {L : List (Int × Nat)} (o : LmOk Rs ws L) {r : Int × Int × Int} (hr : r ∈ Rs) : LmOk Rs ws (lst1 L r) := by
  unfold lst1
  split
  · rename_i p q h1 h2
    split
    · exact o
    · rename_i hc
      refine ⟨upd_nd o.nd, fun i s hs => ?_⟩
      rw [fnd_upd] at hs
      by_cases d : r.2.2 = i
      · rw [if_pos d] at hs
        injection hs with hs
        subst hs
        obtain ⟨t1, a1, a2, a3⟩ := o.ok _ _ h1
        obtain ⟨t2, b1, b2, b3⟩ := o.ok _ _ h2
        have new : ∃ t : Mk, t.Ok Rs ws ∧ t.top = i ∧ t.steps = p.2 + q.2 + 1 := ⟨.node i t1 t2, ⟨by rw [a2, b2, ← d]; exact hr, by rw [← d]; exact hc, a1, b1⟩, rfl, by show t1.steps + t2.steps + 1 = _; omega⟩
        cases h3 : fnd L r.2.2 with
        | none => exact new
        | some s =>
          show ∃ t : Mk, t.Ok Rs ws ∧ t.top = i ∧ t.steps = min s.2 (p.2 + q.2 + 1)
          by_cases g : s.2 ≤ p.2 + q.2 + 1
          · rw [Nat.min_eq_left g]
            obtain ⟨t3, c1, c2, c3⟩ := o.ok _ _ h3
            exact ⟨t3, c1, c2.trans d, c3⟩
          · rw [Nat.min_eq_right (by omega)]
            exact new
      · rw [if_neg d] at hs
        exact o.ok i s hs
  · exact o
theorem lst1_new {L : List (Int × Nat)} {a b c : Int} {p q : Int × Nat} (h1 : fnd L a = some p) (h2 : fnd L b = some q) (hc : c ≠ -1) : ∃ s, fnd (lst1 L (a, b, c)) c = some s ∧ s.2 ≤ p.2 + q.2 + 1 := by
  unfold lst1
  simp only [h1, h2, if_neg hc]
  rw [fnd_upd, if_pos rfl]
  refine ⟨_, rfl, ?_⟩
  cases fnd L c with
  | none => exact Nat.le_refl _
  | some s => exact Nat.min_le_right ..
def lpass (Rs : List (Int × Int × Int)) (L : List (Int × Nat)) : List (Int × Nat) := Rs.foldl lst1 L
theorem lpass_le : ∀ {rs : List (Int × Int × Int)} {L : List (Int × Nat)}, ∀ x q, fnd L x = some q → ∃ q', fnd (lpass rs L) x = some q' ∧ q'.2 ≤ q.2
  | [], L, x, q, h => ⟨q, h, Nat.le_refl _⟩
  | r :: rs, L, x, q, h => by
    obtain ⟨s, h1, h2⟩ := lst1_le (r := r) x q h
    obtain ⟨u, h3, h4⟩ := lpass_le (rs := rs) x s h1
    exact ⟨u, h3, Nat.le_trans h4 h2⟩
theorem lpass_ok : ∀ {rs : List (Int × Int × Int)} {L : List (Int × Nat)}, (∀ r ∈ rs, r ∈ Rs) → LmOk Rs ws L → LmOk Rs ws (lpass rs L)
  | [], L, _, o => o
  | r :: rs, L, h, o => lpass_ok (rs := rs) (fun x hx => h x (List.mem_cons_of_mem _ hx)) (lst1_ok o (h r (List.mem_cons_self ..)))
theorem lpass_new {a b c : Int} (hc : c ≠ -1) : ∀ {rs : List (Int × Int × Int)} {L : List (Int × Nat)} {p q : Int × Nat}, (a, b, c) ∈ rs → fnd L a = some p → fnd L b = some q → ∃ s, fnd (lpass rs L) c = some s ∧ s.2 ≤ p.2 + q.2 + 1
  | r :: rs, L, p, q, hm, h1, h2 => by
    rcases List.mem_cons.mp hm with rfl | hm
    · obtain ⟨s, g1, g2⟩ := lst1_new h1 h2 hc
      obtain ⟨u, g3, g4⟩ := lpass_le (rs := rs) c s g1
      exact ⟨u, g3, Nat.le_trans g4 g2⟩
    · obtain ⟨p', a1, a2⟩ := lst1_le (r := r) a p h1
      obtain ⟨q', b1, b2⟩ := lst1_le (r := r) b q h2
      obtain ⟨s, g1, g2⟩ := lpass_new hc (rs := rs) hm a1 b1
      exact ⟨s, g1, by omega⟩
def lrounds (Rs : List (Int × Int × Int)) (L : List (Int × Nat)) : Nat → List (Int × Nat)
  | 0 => L
  | k + 1 => lpass Rs (lrounds Rs L k)
theorem lrounds_ok {L : List (Int × Nat)} (o : LmOk Rs ws L) : ∀ k, LmOk Rs ws (lrounds Rs L k)
  | 0 => o
  | k + 1 => lpass_ok (fun _ h => h) (lrounds_ok o k)
theorem lrounds_le {L : List (Int × Nat)} : ∀ k x q, fnd L x = some q → ∃ q', fnd (lrounds Rs L k) x = some q' ∧ q'.2 ≤ q.2
  | 0, x, q, h => ⟨q, h, Nat.le_refl _⟩
  | k + 1, x, q, h => by
    obtain ⟨s, h1, h2⟩ := lrounds_le k x q h
    obtain ⟨u, h3, h4⟩ := lpass_le (rs := Rs) x s h1
    exact ⟨u, h3, Nat.le_trans h4 h2⟩
theorem lrounds_min {L : List (Int × Nat)} (hb : ∀ a ∈ ws, ∃ q, fnd L a = some q ∧ q.2 ≤ 1) : ∀ (k : Nat) {t : Mk}, t.Ok Rs ws → t.dep ≤ k + 1 → ∃ q, fnd (lrounds Rs L k) t.top = some q ∧ q.2 ≤ t.steps
  | k, .leaf a, h, _ => by
    obtain ⟨q, h1, h2⟩ := hb a h
    obtain ⟨s, h3, h4⟩ := lrounds_le (Rs := Rs) k a q h1
    exact ⟨s, h3, Nat.le_trans h4 h2⟩
  | 0, .node c l r, _, hd => by
    have := l.dep_pos
    have hd : max l.dep r.dep + 1 ≤ 1 := hd
    omega
  | k + 1, .node c l r, ⟨h1, h2, h3, h4⟩, hd => by
    have hd : max l.dep r.dep + 1 ≤ k + 1 + 1 := hd
    obtain ⟨p, p1, p2⟩ := lrounds_min hb k h3 (by omega)
    obtain ⟨q, q1, q2⟩ := lrounds_min hb k h4 (by omega)
    obtain ⟨s, s1, s2⟩ := lpass_new h2 h1 p1 q1
    exact ⟨s, s1, by show _ ≤ l.steps + r.steps + 1; omega⟩
theorem mk_dep {n : Nat} {P : List (Int × Mk)} (o : MkOk Rs ws P) (hk : ∀ i p, fnd P i = some p → 0 ≤ i ∧ i < n) {i : Int} {p : Int × Mk} (h : fnd P i = some p) : p.2.dep ≤ n := by
  obtain ⟨_, _, h3, h4⟩ := o.ok i p h
  have := h3.dep (n := n) List.nodup_nil (fun _ z => nomatch z) fun x hx => by
    have := h4.found x hx
    obtain ⟨q, hq⟩ := Option.isSome_iff_exists.mp this
    exact hk x q hq
  simpa using this
theorem mk_same {n : Nat} {P : List (Int × Mk)} (o : MkOk Rs ws P) (hk : ∀ i p, fnd P i = some p → 0 ≤ i ∧ i < n)
    (hb : ∀ a ∈ ws, ∃ q, fnd P a = some q ∧ q.2.steps ≤ 1) (hf : ∀ a b c pa pb, (a, b, c) ∈ Rs → c ≠ -1 → fnd P a = some pa → fnd P b = some pb → ∃ pc, fnd P c = some pc ∧ pc.2.steps ≤ pa.2.steps + pb.2.steps + 1)
    {L : List (Int × Nat)} (ol : LmOk Rs ws L) (hl : ∀ a ∈ ws, ∃ q, fnd L a = some q ∧ q.2 ≤ 1) (i : Int) :
    (fnd P i).map (fun p => p.2.steps) = (fnd (lrounds Rs L (n + 1)) i).map (fun p => p.2) := by
  have ok := lrounds_ok ol (n + 1)
  cases h : fnd P i with
  | none =>
    cases g : fnd (lrounds Rs L (n + 1)) i with
    | none => rfl
    | some q =>
      obtain ⟨t, t1, rfl, t3⟩ := ok.ok i q g
      obtain ⟨p, p1, _⟩ := fix_min hb hf t1
      rw [h] at p1
      cases p1
  | some p =>
    obtain ⟨p1, p2, _, _⟩ := o.ok i p h
    obtain ⟨q, q1, q2⟩ := lrounds_min hl (n + 1) p2 (by have := mk_dep o hk h; omega)
    rw [p1] at q1
    obtain ⟨t, t1, rfl, t3⟩ := ok.ok i q q1
    obtain ⟨p', g1, g2⟩ := fix_min hb hf t1
    rw [h] at g1
    injection g1 with g1
    subst g1
    rw [q1]
    show some p.2.steps = some q.2
    congr 1
    omega
theorem keys_perm {α β : Type} {P : List (Int × α)} {L : List (Int × β)} (h1 : (P.map (·.1)).Nodup) (h2 : (L.map (·.1)).Nodup) (h : ∀ i, (fnd P i).isSome = (fnd L i).isSome) : (P.map (·.1)).Perm (L.map (·.1)) := by
  rw [List.perm_ext_iff_of_nodup h1 h2]
  intro i
  have a := fnd_none (P := P) (i := i)
  have b := fnd_none (P := L) (i := i)
  have := h i
  cases h3 : fnd P i <;> cases h4 : fnd L i <;> simp_all
end
end LW

/-! SpL10: what merging makes of rows. -/
namespace LW
open PySem SP
section
variable {Rs : List (Int × Int × Int)} {n m : Nat} {row : List Int}
def rlF (Rs : List (Int × Int × Int)) (a b : Int) : Option Int := (Rs.find? (hits a b)).map fun r => r.2.2
theorem ruleOf_rlF {a b : Int} : ruleOf Rs a b = match rlF Rs a b with | some z => .int z | none => .none := by
  unfold ruleOf rlF
  cases Rs.find? (hits a b) <;> rfl
theorem rlF_ok (hR : RsOk n Rs) {a b z : Int} (h : rlF Rs a b = some z) : -1 ≤ z ∧ z < n := by
  unfold rlF at h
  obtain ⟨r, h1, rfl⟩ := Option.map_eq_some_iff.mp h
  obtain ⟨_, _, _, _, h5, h6⟩ := hR r (List.mem_of_find?_eq_some h1)
  exact ⟨h5, h6⟩
def atR (row : List Int) (p : Nat) : Int := row.getD p 0
theorem atR_get {p : Nat} (h : p < row.length) : row[p]? = some (atR row p) := by
  unfold atR
  rw [List.getD_eq_getElem?_getD, List.getElem?_eq_getElem h]; rfl
theorem ix_row {p : Nat} (h : p < row.length) : idxD (iT row) (.int (p : Nat)) = some (.int (atR row p)) := y_ixT (by rw [List.getElem?_map, atR_get h]; rfl)
theorem ix_row1 {p : Nat} (h : p + 1 < row.length) : idxD (iT row) (.int ((p : Int) + 1)) = some (.int (atR row (p + 1))) := ix_row (p := p + 1) h
def isP (Rs : List (Int × Int × Int)) (row : List Int) (p : Nat) : Bool := (rlF Rs (atR row p) (atR row (p + 1))).isSome
def pls (Rs : List (Int × Int × Int)) (row : List Int) : List Nat := (List.range (row.length - 1)).filter (isP Rs row)
theorem pls_mem {p : Nat} : p ∈ pls Rs row ↔ p + 1 < row.length ∧ isP Rs row p = true := by
  unfold pls
  rw [List.mem_filter, List.mem_range]
  constructor
  · rintro ⟨a, b⟩; exact ⟨by omega, b⟩
  · rintro ⟨a, b⟩; exact ⟨by omega, b⟩
def mid (z : Int) : List Int := if z = -1 then [] else [z]
def mg (Rs : List (Int × Int × Int)) (row : List Int) (p : Nat) : List Int := row.take p ++ (match rlF Rs (atR row p) (atR row (p + 1)) with | some z => mid z | none => []) ++ row.drop (p + 2)
structure RIn (n m : Nat) (row : List Int) : Prop where
  len : row.length ≤ m
  rng : ∀ a ∈ row, 0 ≤ a ∧ a < n
theorem mg_in (hR : RsOk n Rs) (h : RIn n m row) {p : Nat} (hp : p ∈ pls Rs row) : RIn n m (mg Rs row p) ∧ (mg Rs row p).length + 1 ≤ row.length := by
  obtain ⟨h1, h2⟩ := pls_mem.mp hp
  unfold isP at h2
  obtain ⟨z, hz⟩ := Option.isSome_iff_exists.mp h2
  obtain ⟨z0, z1⟩ := rlF_ok hR hz
  have hlen := h.len
  have hm : (mid z).length ≤ 1 := by unfold mid; split <;> simp
  have hl : (mg Rs row p).length + 1 ≤ row.length := by
    unfold mg
    rw [hz]
    simp only [List.length_append, List.length_take, List.length_drop]
    omega
  refine ⟨⟨by omega, fun a ha => ?_⟩, hl⟩
  unfold mg at ha
  rw [hz] at ha
  simp only [List.mem_append] at ha
  rcases ha with (ha | ha) | ha
  · exact h.rng a (List.mem_of_mem_take ha)
  · unfold mid at ha
    split at ha
    · cases ha
    · rw [List.mem_singleton] at ha; subst ha; omega
  · exact h.rng a (List.mem_of_mem_drop ha)
def msucc (Rs : List (Int × Int × Int)) (row : List Int) : List (List Int × Int) := (pls Rs row).map fun (p : Nat) => (mg Rs row p, (p : Int))
/-- mergings at the places of ps, one behind the other -/
def mrun (Rs : List (Int × Int × Int)) : List Int → List Int → Option (List Int)
  | row, [] => some row
  | row, p :: ps => if 0 ≤ p ∧ p.toNat ∈ pls Rs row then mrun Rs (mg Rs row p.toNat) ps else none
theorem mrun_snoc {p : Int} : ∀ {ps row : List Int} {x : List Int}, mrun Rs row ps = some x → (0 ≤ p ∧ p.toNat ∈ pls Rs x) → mrun Rs row (ps ++ [p]) = some (mg Rs x p.toNat)
  | [], row, x, h, hp => by
    injection h with h
    subst h
    show (if 0 ≤ p ∧ p.toNat ∈ pls Rs row then mrun Rs (mg Rs row p.toNat) [] else none) = _
    rw [if_pos hp]; rfl
  | q :: ps, row, x, h, hp => by
    have h : (if 0 ≤ q ∧ q.toNat ∈ pls Rs row then mrun Rs (mg Rs row q.toNat) ps else none) = some x := h
    show (if 0 ≤ q ∧ q.toNat ∈ pls Rs row then mrun Rs (mg Rs row q.toNat) (ps ++ [p]) else none) = _
    by_cases c : 0 ≤ q ∧ q.toNat ∈ pls Rs row
    · rw [if_pos c] at h ⊢
      exact mrun_snoc h hp
    · rw [if_neg c] at h; cases h
structure MPr (Rs : List (Int × Int × Int)) (n m : Nat) (row x w : List Int) : Prop where
  run : mrun Rs row w = some x
  inn : RIn n m x
  dec : x.length + w.length ≤ m
theorem mpr_step (hR : RsOk n Rs) {x w : List Int} (h : MPr Rs n m row x w) {q : List Int × Int} (hq : q ∈ msucc Rs x) : MPr Rs n m row q.1 (w ++ [q.2]) := by
  obtain ⟨p, hp, rfl⟩ := List.mem_map.mp hq
  obtain ⟨h1, h2⟩ := mg_in hR h.inn hp
  have := h.dec
  refine ⟨?_, h1, ?_⟩
  · have := mrun_snoc (p := (p : Int)) h.run ⟨by omega, by simpa using hp⟩
    simpa using this
  · show (mg Rs x p).length + (w ++ [(p : Int)]).length ≤ m
    rw [List.length_append, List.length_singleton]
    omega
def met (Rs : List (Int × Int × Int)) (n : Nat) (row : List Int) : List (List Int × List Int) := gbfs (msucc Rs) [(row, [])] ((n + 1) ^ row.length)
def padR (m : Nat) (row : List Int) : List Int := row ++ List.replicate (m - row.length) (-1)
theorem padR_inj {r r' : List Int} (h : ∀ a ∈ r, 0 ≤ a) (h' : ∀ a ∈ r', 0 ≤ a) (e : padR m r = padR m r') : r = r' := by
  have key : ∀ {r : List Int}, (∀ a ∈ r, 0 ≤ a) → (padR m r).filter (fun a => decide (0 ≤ a)) = r := fun {r} h => by
    unfold padR
    rw [List.filter_append]
    have e1 : r.filter (fun a => decide (0 ≤ a)) = r := List.filter_eq_self.mpr fun a ha => by simpa using h a ha
    have e2 : (List.replicate (m - r.length) (-1 : Int)).filter (fun a => decide (0 ≤ a)) = [] := List.filter_eq_nil_iff.mpr fun a ha => by
      rw [List.mem_replicate] at ha
      rw [ha.2]
      decide
    rw [e1, e2, List.append_nil]
  rw [← key h, ← key h', e]
theorem rows_bound {K : List (List Int)} (hd : K.Nodup) (h : ∀ r ∈ K, RIn n m r) : K.length ≤ (n + 1) ^ m := by
  have := rows_len (B := n + 1) (m := m) (K := K.map (padR m)) ?_ fun t ht => ?_
  · rwa [List.length_map] at this
  · induction K with
    | nil => exact List.nodup_nil
    | cons r K ih =>
      rw [List.nodup_cons] at hd
      rw [List.map_cons, List.nodup_cons]
      refine ⟨fun z => ?_, ih hd.2 fun x hx => h x (List.mem_cons_of_mem _ hx)⟩
      obtain ⟨r', hr', e⟩ := List.mem_map.mp z
      have := padR_inj (fun a ha => ((h r' (List.mem_cons_of_mem _ hr')).rng a ha).1) (fun a ha => ((h r (List.mem_cons_self ..)).rng a ha).1) e
      exact hd.1 (this ▸ hr')
  · obtain ⟨r, hr, rfl⟩ := List.mem_map.mp ht
    have q := h r hr
    have ql := q.len
    refine ⟨by unfold padR; rw [List.length_append, List.length_replicate]; omega, fun s hs => ?_⟩
    unfold padR at hs
    rcases List.mem_append.mp hs with hs | hs
    · have := q.rng s hs; omega
    · rw [List.mem_replicate] at hs
      rw [hs.2]
      exact ⟨Int.le_refl _, by simp⟩
theorem met_ok (hR : RsOk n Rs) (h : RIn n row.length row) (k : Nat) : GOk (MPr Rs n row.length row) (gbfs (msucc Rs) [(row, [])] k) := by
  refine gbfs_ok (Pr := MPr Rs n row.length row) ⟨by simp, fun p hp => ?_, fun j p hp => ?_⟩ (fun x w q hx hq => mpr_step hR hx hq) k
  · rw [List.mem_singleton] at hp; subst hp
    exact ⟨rfl, h, by simp⟩
  · obtain rfl := List.mem_singleton.mp (List.mem_of_getElem? hp)
    exact Nat.zero_le _
theorem met_len (hR : RsOk n Rs) (h : RIn n row.length row) (k : Nat) : (gbfs (msucc Rs) [(row, [])] k).length ≤ (n + 1) ^ row.length := by
  have o := met_ok hR h k
  have := rows_bound (n := n) (m := row.length) o.nd fun r hr => by
    obtain ⟨p, hp, rfl⟩ := List.mem_map.mp hr
    exact (o.ok p hp).inn
  rwa [List.length_map] at this
end
section
variable {α L : Type} [DecidableEq α] {succ : α → List (α × L)} {P0 : List (α × List L)}
theorem fndK_app {P t : List (α × List L)} {x : α} (h : (fndK P x).isSome = true) : (fndK (P ++ t) x).isSome = true := by
  unfold fndK at h ⊢
  rw [List.find?_append]
  cases hf : P.find? (fun p => decide (p.1 = x)) with
  | none => rw [hf] at h; cases h
  | some p => rfl
theorem gext_has {w : List L} : ∀ {nx : List (α × L)} {P : List (α × List L)} {q : α × L}, q ∈ nx → (fndK (gext nx w P) q.1).isSome = true
  | r :: nx, P, q, h => by
    show (fndK (gext nx w (gadd w P r)) q.1).isSome = true
    rcases List.mem_cons.mp h with rfl | h
    · obtain ⟨t, e⟩ := gext_pre (w := w) (nx := nx) (P := gadd w P q)
      rw [e]
      refine fndK_app ?_
      unfold gadd
      split
      · assumption
      · unfold fndK
        rw [List.find?_append]
        cases hf : P.find? (fun p => decide (p.1 = q.1)) <;> simp
    · exact gext_has h
theorem gbfs_closed {N : Nat} (hN : ∀ k, (gbfs succ P0 k).length ≤ N) {p : α × List L} (h : p ∈ gbfs succ P0 N) {q : α × L} (hq : q ∈ succ p.1) : (fndK (gbfs succ P0 N) q.1).isSome = true := by
  obtain ⟨j, hj⟩ := List.getElem?_of_mem h
  have hjl := (List.getElem?_eq_some_iff.mp hj).1
  have hjN : j < N := Nat.lt_of_lt_of_le hjl (hN N)
  have hlt : j < (gbfs succ P0 j).length := by
    false_or_by_contra
    rename_i z
    have := gbfs_end hN (k := j) (by omega)
    rw [← this] at hjl
    omega
  have hy := gbfs_at (List.getElem?_eq_getElem hlt) (N - j)
  rw [show j + (N - j) = N by omega, hj] at hy
  injection hy with hy
  have hs := gbfs_succ (k := j) (p := p) (by rw [List.getElem?_eq_getElem hlt, ← hy])
  have h1 : (fndK (gbfs succ P0 (j + 1)) q.1).isSome = true := by rw [hs]; exact gext_has hq
  have key : ∀ i, (fndK (gbfs succ P0 (j + 1 + i)) q.1).isSome = true := by
    intro i
    induction i with
    | zero => exact h1
    | succ i ih =>
      obtain ⟨t, e⟩ := gbfs_pre (succ := succ) (P0 := P0) (j + 1 + i)
      rw [show j + 1 + (i + 1) = j + 1 + i + 1 by omega, e]
      exact fndK_app ih
  have := key (N - (j + 1))
  rwa [show j + 1 + (N - (j + 1)) = N by omega] at this
end
section
variable {Rs : List (Int × Int × Int)} {n m : Nat} {row : List Int}
theorem met_self : fndK (met Rs n row) row = some (row, []) := by
  have h : (gbfs (msucc Rs) [(row, [])] 0)[0]? = some (row, []) := rfl
  have := gbfs_at h ((n + 1) ^ row.length)
  rw [Nat.zero_add] at this
  unfold met fndK
  cases hg : gbfs (msucc Rs) [(row, [])] ((n + 1) ^ row.length) with
  | nil => rw [hg] at this; cases this
  | cons p r =>
    rw [hg] at this
    injection this with this
    subst this
    simp
def mends (Rs : List (Int × Int × Int)) (n : Nat) (row : List Int) : List (List Int) := ((met Rs n row).map (·.1)).filter fun r => (pls Rs r).isEmpty
theorem least_len : ∀ {K : List (List Int)}, K ≠ [] → ∃ r ∈ K, ∀ r' ∈ K, r.length ≤ r'.length
  | [r], _ => ⟨r, List.mem_singleton.mpr rfl, fun r' h => by rw [List.mem_singleton] at h; subst h; exact Nat.le_refl _⟩
  | r :: s :: K, _ => by
    obtain ⟨x, hx, hm⟩ := least_len (K := s :: K) (by simp)
    by_cases h : r.length ≤ x.length
    · exact ⟨r, List.mem_cons_self .., fun r' hr => (List.mem_cons.mp hr).elim (fun e => e ▸ Nat.le_refl _) fun q => Nat.le_trans h (hm r' q)⟩
    · exact ⟨x, List.mem_cons_of_mem _ hx, fun r' hr => (List.mem_cons.mp hr).elim (fun e => by rw [e]; omega) fun q => hm r' q⟩
theorem mends_ne (hR : RsOk n Rs) (h : RIn n row.length row) : mends Rs n row ≠ [] := by
  have hne : (met Rs n row).map (·.1) ≠ [] := by
    intro e
    have := met_self (Rs := Rs) (n := n) (row := row)
    have hm := (fndK_mem this).1
    have : row ∈ (met Rs n row).map (·.1) := List.mem_map.mpr ⟨_, hm, rfl⟩
    rw [e] at this
    cases this
  obtain ⟨r, hr, hmin⟩ := least_len hne
  obtain ⟨p, hp, rfl⟩ := List.mem_map.mp hr
  intro e
  have hemp : pls Rs p.1 = [] := by
    false_or_by_contra
    rename_i z
    obtain ⟨q, hq⟩ := List.exists_mem_of_ne_nil _ z
    have o := met_ok hR h ((n + 1) ^ row.length)
    have h1 := (mg_in hR (o.ok p hp).inn hq).2
    have h2 := gbfs_closed (succ := msucc Rs) (P0 := [(row, [])]) (met_len hR h) hp (q := (mg Rs p.1 q, (q : Int))) (List.mem_map.mpr ⟨q, hq, rfl⟩)
    obtain ⟨s, hs⟩ := Option.isSome_iff_exists.mp h2
    obtain ⟨h3, h4⟩ := fndK_mem hs
    have := hmin (mg Rs p.1 q) (List.mem_map.mpr ⟨s, h3, h4⟩)
    omega
  have : p.1 ∈ mends Rs n row := List.mem_filter.mpr ⟨hr, by rw [hemp]; rfl⟩
  rw [e] at this
  cases this
end
end LW

/-! SpL11: ints are known by their texts; values as places of merges. -/
namespace LW
open PySem SP PyProof PyProof.Rows
theorem map_inj' {α β : Type} {f : α → β} (hf : ∀ a b, f a = f b → a = b) : ∀ {l m : List α}, l.map f = m.map f → l = m
  | [], [], _ => rfl
  | [], _ :: _, h => by cases h
  | _ :: _, [], h => by cases h
  | a :: l, b :: m, h => by
    rw [List.map_cons, List.map_cons] at h
    injection h with h1 h2
    rw [hf a b h1, map_inj' hf h2]
theorem ofString_inj {a b : String} (h : Str.ofString a = Str.ofString b) : a = b := by
  rw [Str.ofString_eq_toList, Str.ofString_eq_toList] at h
  have h := congrArg (fun s : Str => s.cps.toList) h
  have h : a.toList.map Char.toNat = b.toList.map Char.toNat := h
  have := map_inj' (fun c d e => Char.toNat_inj.mp e) h
  exact String.toList_inj.mp this
theorem shown_int_inj {i : Int} : ∀ {d : PyData}, (PyData.int i).shown = d.shown → d = .int i
  | .int j, h => by
    rw [PyData.shown_int, PyData.shown_int] at h
    have := ofString_inj h
    have : i.repr = j.repr := this
    rw [Int.repr_inj.mp this]
  | .none, h => absurd (h ▸ (by rw [PyData.shown_none]; decide : 78 ∈ (PyData.none).shown.cps.toList)) (shown_int_free' ⟨by decide, by decide⟩ i)
  | .bool true, h => absurd (h ▸ (by rw [PyData.shown_bool]; decide : 84 ∈ (PyData.bool true).shown.cps.toList)) (shown_int_free' ⟨by decide, by decide⟩ i)
  | .bool false, h => absurd (h ▸ (by rw [PyData.shown_bool]; decide : 70 ∈ (PyData.bool false).shown.cps.toList)) (shown_int_free' ⟨by decide, by decide⟩ i)
  | .str x, h => by
    have hm : reprQuote x ∈ (PyData.str x).shown.cps.toList := by
      rw [PyData.shown_str]
      unfold reprText
      simp
    rw [← h] at hm
    exact absurd hm (shown_int_free' (by unfold reprQuote; split <;> decide) i)
  | .list xs, h => by
    have hm : 91 ∈ (PyData.list xs).shown.cps.toList := by
      rw [PyData.shown_list, mem_cps_append, mem_cps_append]
      exact .inl (.inl (by decide))
    rw [← h] at hm
    exact absurd hm (shown_int_free' ⟨by decide, by decide⟩ i)
  | .tuple xs, h => by
    have hm : 40 ∈ (PyData.tuple xs).shown.cps.toList := by
      rw [PyData.shown_tuple, mem_cps_append, mem_cps_append]
      exact .inl (.inl (by decide))
    rw [← h] at hm
    exact absurd hm (shown_int_free' ⟨by decide, by decide⟩ i)
  | .dict kvs, h => by
    have hm : 123 ∈ (PyData.dict kvs).shown.cps.toList := by
      rw [PyData.shown_dict, mem_cps_append, mem_cps_append]
      exact .inl (.inl (by decide))
    rw [← h] at hm
    exact absurd hm (shown_int_free' ⟨by decide, by decide⟩ i)
theorem smAll_strs {n : Nat} : ∀ xs : List Str, smAll n (xs.map .str) = true
  | [] => by simp [smAll]
  | x :: xs => by rw [List.map_cons]; simp only [smAll, Bool.and_eq_true]; exact ⟨by cases n <;> rfl, smAll_strs xs⟩
theorem notin_strs {x : Str} {xs : List Str} : cmpD .NotIn (.str x) (.list (xs.map .str)) = some (!xs.contains x) := by
  show (inD (.str x) (.list (xs.map .str))).map (!·) = _
  have h : inD (.str x) (.list (xs.map .str)) = some (xs.contains x) := by
    unfold inD
    have h3 : sm deepest (.str x) = true := rfl
    simp only [smAll_strs, h3, Bool.and_self, if_true]
    congr 1
    rw [List.any_map, Bool.eq_iff_iff, List.any_eq_true, List.contains_iff_mem]
    constructor
    · rintro ⟨y, hy, e⟩
      have e : (PyData.eqv (.str y) (.str x)) = true := e
      simp [PyData.eqv] at e
      exact e ▸ hy
    · intro hx
      exact ⟨x, hx, by show PyData.eqv (.str x) (.str x) = true; simp [PyData.eqv]⟩
  rw [h, Option.map_some]
/-- a value as a place -/
def inP (ps : List Nat) : PyData → Bool
  | .int p => decide (0 ≤ p) && ps.contains p.toNat
  | _ => false
theorem inP_shown {ps : List Nat} {d : PyData} : (ps.map fun (p : Nat) => (PyData.int (p : Int)).shown).contains d.shown = inP ps d := by
  rw [Bool.eq_iff_iff, List.contains_iff_mem, List.mem_map]
  constructor
  · rintro ⟨p, hp, e⟩
    have := shown_int_inj e
    subst this
    show (decide (0 ≤ (p : Int)) && ps.contains (p : Int).toNat) = true
    simp [hp]
  · intro h
    cases d with
    | int i =>
      have h : (decide (0 ≤ i) && ps.contains i.toNat) = true := h
      rw [Bool.and_eq_true, decide_eq_true_eq, List.contains_iff_mem] at h
      exact ⟨i.toNat, h.2, by rw [show ((i.toNat : Nat) : Int) = i by omega]⟩
    | _ => cases h
section
variable {Rs : List (Int × Int × Int)} {n m : Nat} {row : List Int}
def plc : PyData → Nat
  | .int p => p.toNat
  | _ => 0
/-- the merges of any row of values, one behind the other -/
def drun (Rs : List (Int × Int × Int)) : List Int → List PyData → Option (List Int)
  | row, [] => some row
  | row, d :: ds => if inP (pls Rs row) d = true then drun Rs (mg Rs row (plc d)) ds else none
def leadB (Rs : List (Int × Int × Int)) (row goal : List Int) : PyData → Bool
  | .tuple xs => match drun Rs row xs with | some x => decide (x = goal) | none => false
  | _ => false
theorem leadB_some {goal x : List Int} {xs : List PyData} (h : drun Rs row xs = some x) : leadB Rs row goal (.tuple xs) = decide (x = goal) := by
  show (match drun Rs row xs with | some x => decide (x = goal) | none => false) = _
  rw [h]
theorem leadB_none {goal : List Int} {xs : List PyData} (h : drun Rs row xs = none) : leadB Rs row goal (.tuple xs) = false := by
  show (match drun Rs row xs with | some x => decide (x = goal) | none => false) = _
  rw [h]
theorem show_elem {n w : Nat} {xs : List PyData} (h : ShowOk (n + 1) w (.tuple xs)) : ∀ d ∈ xs, ShowOk n w d := by
  obtain ⟨h1, h2, h3, h4⟩ := h
  have e1 : PyData.leavesShortAll 24 xs = true := by simpa [PyData.leavesShort] using h1
  have e2 : PyData.showableAll xs = true := by simpa [PyData.showable] using h2
  have e3 : PyData.depthAll xs ≤ n := by simp only [PyData.depth] at h3; omega
  have e4 : PyData.weightAll xs ≤ w := by simpa [PyData.weight] using h4
  clear h1 h2 h3 h4
  induction xs with
  | nil => intro d hd; cases hd
  | cons x r ih =>
    simp only [PyData.leavesShortAll, Bool.and_eq_true] at e1
    simp only [PyData.showableAll, Bool.and_eq_true] at e2
    simp only [PyData.depthAll] at e3
    simp only [PyData.weightAll] at e4
    intro d hd
    rcases List.mem_cons.mp hd with rfl | hd
    · exact ⟨e1.1, e2.1, by omega, by omega⟩
    · exact ih e1.2 e2.2 (by omega) (by omega) d hd
end
end LW

/-! SpL12: effects followed by one another. -/
namespace LW
open PySem SP
section
variable {v : Int}
def EffR (v : Int) (l : List Int) : Prop := (l.length : Int) = v + 1 ∧ ∀ x ∈ l, -1 ≤ x ∧ x < v
def eat (r : List Int) (s : Int) : Int := (r[(s + 1).toNat]?).getD 0
def cmpE (l r : List Int) : List Int := l.map (eat r)
def idE (v : Int) : List Int := (List.range (v + 1).toNat).map fun (i : Nat) => (i : Int) - 1
theorem eat_ok {r : List Int} (h : EffR v r) {s : Int} (h0 : -1 ≤ s) (h1 : s < v) : idxD (iT r) (.int (s + 1)) = some (.int (eat r s)) ∧ -1 ≤ eat r s ∧ eat r s < v := by
  obtain ⟨x, hx, e1, e2⟩ := eff_at h.1 h0 h1
  have : eat r s = x := by unfold eat; rw [e1]; rfl
  rw [this]
  exact ⟨e2, h.2 x hx⟩
theorem cmpE_ok {l r : List Int} (hl : EffR v l) (hr : EffR v r) : EffR v (cmpE l r) := by
  refine ⟨by unfold cmpE; rw [List.length_map]; exact hl.1, fun x hx => ?_⟩
  obtain ⟨s, hs, rfl⟩ := List.mem_map.mp hx
  exact (eat_ok hr (hl.2 s hs).1 (hl.2 s hs).2).2
theorem idE_at {s : Int} (h0 : -1 ≤ s) (h1 : s < v) : eat (idE v) s = s := by
  unfold eat idE
  rw [List.getElem?_map, List.getElem?_range (by omega)]
  show (((s + 1).toNat : Nat) : Int) - 1 = s
  omega
theorem idE_ok (hv : 0 ≤ v) : EffR v (idE v) := by
  refine ⟨by unfold idE; rw [List.length_map, List.length_range]; omega, fun x hx => ?_⟩
  obtain ⟨i, hi, rfl⟩ := List.mem_map.mp hx
  rw [List.mem_range] at hi
  omega
theorem id_cmp {r : List Int} (h : EffR v r) : cmpE (idE v) r = r := by
  refine List.ext_getElem? fun i => ?_
  unfold cmpE idE
  rw [List.getElem?_map, List.getElem?_map]
  have hl := h.1
  by_cases hi : i < r.length
  · rw [List.getElem?_range (by omega)]
    show some (eat r ((i : Int) - 1)) = r[i]?
    unfold eat
    rw [show ((i : Int) - 1 + 1).toNat = i by omega, List.getElem?_eq_getElem hi]
    rfl
  · rw [List.getElem?_eq_none (by rw [List.length_range]; omega), List.getElem?_eq_none (by omega)]
    rfl
theorem eat_cmp {x a : List Int} {s : Int} (hx : EffR v x) (h0 : -1 ≤ s) (h1 : s < v) : eat (cmpE x a) s = eat a (eat x s) := by
  obtain ⟨y, hy, e1, e2⟩ := eff_at hx.1 h0 h1
  have h : eat x s = y := by unfold eat; rw [e1]; rfl
  rw [h]
  unfold cmpE
  rw [show eat (x.map (eat a)) s = ((x.map (eat a))[(s + 1).toNat]?).getD 0 from rfl, List.getElem?_map, e1]
  rfl
theorem cmp_assoc {e x a : List Int} (he : EffR v e) (hx : EffR v x) : cmpE (cmpE e x) a = cmpE e (cmpE x a) := by
  show (e.map (eat x)).map (eat a) = e.map (eat (cmpE x a))
  rw [List.map_map]
  refine List.map_congr_left fun s hs => ?_
  exact (eat_cmp hx (he.2 s hs).1 (he.2 s hs).2).symm
theorem fold_ok {w : List (List Int)} (hw : ∀ g ∈ w, EffR v g) : ∀ {e : List Int}, EffR v e → EffR v (w.foldl cmpE e) := by
  induction w with
  | nil => intro e he; exact he
  | cons a w ih =>
    intro e he
    exact ih (fun g hg => hw g (List.mem_cons_of_mem _ hg)) (cmpE_ok he (hw a (List.mem_cons_self ..)))
theorem fold_cmp (hv : 0 ≤ v) {w : List (List Int)} (hw : ∀ g ∈ w, EffR v g) : ∀ {e x : List Int}, EffR v e → EffR v x → cmpE e (w.foldl cmpE x) = w.foldl cmpE (cmpE e x) := by
  induction w with
  | nil => intro e x _ _; rfl
  | cons a w ih =>
    intro e x he hx
    show cmpE e (w.foldl cmpE (cmpE x a)) = w.foldl cmpE (cmpE (cmpE e x) a)
    have ha := hw a (List.mem_cons_self ..)
    rw [ih (fun g hg => hw g (List.mem_cons_of_mem _ hg)) he (cmpE_ok hx ha), cmp_assoc he hx]
theorem cmp_id {e : List Int} (he : EffR v e) : cmpE e (idE v) = e := by
  unfold cmpE
  conv => rhs; rw [← List.map_id e]
  exact List.map_congr_left fun s hs => idE_at (he.2 s hs).1 (he.2 s hs).2
/-- closed under the generators, made by them: closed -/
theorem closed_all (hv : 0 ≤ v) {G Ls : List (List Int)} (hE : ∀ e ∈ Ls, EffR v e) (hG : ∀ g ∈ G, g ∈ Ls) (hg : ∀ e ∈ Ls, ∃ w : List (List Int), (∀ g ∈ w, g ∈ G) ∧ e = w.foldl cmpE (idE v))
    (hc : ∀ e ∈ Ls, ∀ g ∈ G, cmpE e g ∈ Ls ∨ cmpE e g = idE v) : ∀ e ∈ Ls, ∀ f ∈ Ls, cmpE e f ∈ Ls ∨ cmpE e f = idE v := by
  intro e he f hf
  obtain ⟨w, hw, rfl⟩ := hg f hf
  have hwE : ∀ g ∈ w, EffR v g := fun g hg => hE g (hG g (hw g hg))
  rw [fold_cmp hv hwE (hE e he) (idE_ok hv), cmp_id (hE e he)]
  have key : ∀ (w : List (List Int)), (∀ g ∈ w, g ∈ G) → ∀ e, (e ∈ Ls ∨ e = idE v) → (w.foldl cmpE e ∈ Ls ∨ w.foldl cmpE e = idE v) := by
    intro w
    induction w with
    | nil => intro _ e h; exact h
    | cons a w ih =>
      intro hw e h
      refine ih (fun g hg => hw g (List.mem_cons_of_mem _ hg)) (cmpE e a) ?_
      have ha := hw a (List.mem_cons_self ..)
      rcases h with h | rfl
      · exact hc e h a ha
      · rw [id_cmp (hE a (hG a ha))]
        exact .inl (hG a ha)
  exact key w hw e (.inl he)
end
theorem eq_lI {a b : List Int} : cmpD .Eq (.list (a.map .int)) (.list (b.map .int)) = some (decide (a = b)) := by
  rw [eq_sm (by show sm (59 + 1) _ = true; simp [sm, sm_ints]) (by show sm (59 + 1) _ = true; simp [sm, sm_ints])]
  show some (PyData.eqvAll (a.map .int) (b.map .int)) = _
  rw [eqvAll_ints]
theorem ne_lI {a b : List Int} : cmpD .NotEq (.list (a.map .int)) (.list (b.map .int)) = some (!decide (a = b)) := by
  rw [ne_sm (by show sm (59 + 1) _ = true; simp [sm, sm_ints]) (by show sm (59 + 1) _ = true; simp [sm, sm_ints])]
  show some (!PyData.eqvAll (a.map .int) (b.map .int)) = _
  rw [eqvAll_ints]
theorem rng_idE {v : Int} : rngL (-1) v = (idE v).map .int := by
  unfold rngL idE
  rw [List.map_map]
  rw [show (v - -1).toNat = (v + 1).toNat by omega]
  refine List.map_congr_left fun i _ => ?_
  show PyData.int (-1 + (i : Int)) = .int ((i : Int) - 1)
  rw [show (-1 + (i : Int)) = (i : Int) - 1 by omega]
section
variable {F : Type} {Φ : F → List Sl → Option (Sl × List MO)} {ρ : SP.Env}
/-- the first argument is an object lent; it may be frozen by the call -/
theorem v_lentU {f : F} {i : Nat} {m : MO} {ds : List PyData} {s : Sl} (h5 : Φ f (.dat m.data :: ds.map .dat) = some (s, [])) (h : slot ρ i = some (.own m)) :
    ∃ X : Sl, (X = .own m ∨ X = .dat m.data) ∧ callE Φ f (.val (.loc i) :: ds.map fun d => .val (.dat d)) ρ = some (s.res, ρ.set i (some X)) := by
  by_cases hc : cleanS s = true
  · refine ⟨.own m, .inl rfl, ?_⟩
    rw [v_lent1 h5 hc h]
    have : ρ.set i (some (.own m)) = ρ := by
      unfold slot at h
      clear h5 hc
      induction ρ generalizing i with
      | nil => rfl
      | cons x r ih =>
        cases i with
        | zero =>
          have h : x = some (.own m) := by
            cases x with
            | none => simp at h
            | some y => simpa using h
          rw [h]; rfl
        | succ i =>
          rw [List.set_cons_succ, ih (by simpa using h)]
    rw [this]
  · refine ⟨.dat m.data, .inr rfl, ?_⟩
    have e1 : argSls ρ (ds.map fun d => Arg.val (.dat d)) = some (ds.map .dat) := by
      clear h5
      induction ds with
      | nil => rfl
      | cons d r ih => rw [List.map_cons, v_ass1, ih]; rfl
    have e2 : refsOf (ds.map fun d => Arg.val (.dat d)) = [] := by
      clear e1 h5
      induction ds with
      | nil => rfl
      | cons d r ih => exact ih
    have e3 : lentOf (ds.map fun d => Arg.val (.dat d)) = [] := by
      clear e1 e2 h5
      induction ds with
      | nil => rfl
      | cons d r ih => exact ih
    have e4 : argSls ρ (.val (.loc i) :: ds.map fun d => Arg.val (.dat d)) = some (.dat m.data :: ds.map .dat) := by
      rw [v_ass1, e1, v_as1, v_res3, h]; rfl
    have e5 : refsOf (.val (.loc i) :: ds.map fun d => Arg.val (.dat d)) = [] := e2
    have e6 : lentOf (.val (.loc i) :: ds.map fun d => Arg.val (.dat d)) = [i] := by
      show i :: lentOf (ds.map fun d => Arg.val (.dat d)) = [i]
      rw [e3]
    have hc : cleanS s = false := by simpa using hc
    unfold callE
    rw [e4]
    simp only [e5, List.nodup_nil, List.not_mem_nil, false_implies, implies_true, not_false_eq_true, and_self, if_true, h5, List.isEmpty_nil, hc, Bool.and_false, putBack, Option.map_some, e6, freezeAll]
    simp [freezeAll, h, putBack]
end
end LW

/-! SpL13: rows that merging leads to; ends of short rows; overlaps. -/
namespace LW
open PySem SP
section
variable {Rs : List (Int × Int × Int)} {n m : Nat} {row : List Int}
def Rch (Rs : List (Int × Int × Int)) (row x : List Int) : Prop := ∃ w, mrun Rs row w = some x
theorem Rch.refl : Rch Rs row row := ⟨[], rfl⟩
theorem Rch.step {p : Nat} {x : List Int} (hp : p ∈ pls Rs row) (h : Rch Rs (mg Rs row p) x) : Rch Rs row x := by
  obtain ⟨w, hw⟩ := h
  refine ⟨(p : Int) :: w, ?_⟩
  show (if 0 ≤ (p : Int) ∧ (p : Int).toNat ∈ pls Rs row then mrun Rs (mg Rs row (p : Int).toNat) w else none) = some x
  rw [if_pos ⟨by omega, by simpa using hp⟩]
  simpa using hw
theorem Rch.cases {x : List Int} (h : Rch Rs row x) : x = row ∨ ∃ p ∈ pls Rs row, Rch Rs (mg Rs row p) x := by
  obtain ⟨w, hw⟩ := h
  cases w with
  | nil => injection hw with hw; exact .inl hw.symm
  | cons p w =>
    have hw : (if 0 ≤ p ∧ p.toNat ∈ pls Rs row then mrun Rs (mg Rs row p.toNat) w else none) = some x := hw
    by_cases c : 0 ≤ p ∧ p.toNat ∈ pls Rs row
    · rw [if_pos c] at hw
      exact .inr ⟨p.toNat, c.2, w, hw⟩
    · rw [if_neg c] at hw; cases hw
theorem met_keys (hR : RsOk n Rs) (h : RIn n row.length row) {x : List Int} : x ∈ (met Rs n row).map (·.1) ↔ Rch Rs row x := by
  have o := met_ok hR h ((n + 1) ^ row.length)
  constructor
  · intro hx
    obtain ⟨p, hp, rfl⟩ := List.mem_map.mp hx
    exact ⟨p.2, (o.ok p hp).run⟩
  · rintro ⟨w, hw⟩
    have key : ∀ (w y : List Int), y ∈ (met Rs n row).map (·.1) → mrun Rs y w = some x → x ∈ (met Rs n row).map (·.1) := by
      intro w
      induction w with
      | nil => intro y hy e; injection e with e; exact e ▸ hy
      | cons p w ih =>
        intro y hy e
        have e : (if 0 ≤ p ∧ p.toNat ∈ pls Rs y then mrun Rs (mg Rs y p.toNat) w else none) = some x := e
        by_cases c : 0 ≤ p ∧ p.toNat ∈ pls Rs y
        · rw [if_pos c] at e
          obtain ⟨q, hq, rfl⟩ := List.mem_map.mp hy
          have h2 := gbfs_closed (succ := msucc Rs) (P0 := [(row, [])]) (met_len hR h) hq (q := (mg Rs q.1 p.toNat, (p.toNat : Int))) (List.mem_map.mpr ⟨p.toNat, c.2, rfl⟩)
          obtain ⟨s, hs⟩ := Option.isSome_iff_exists.mp h2
          obtain ⟨h3, h4⟩ := fndK_mem hs
          exact ih _ (List.mem_map.mpr ⟨s, h3, h4⟩) e
        · rw [if_neg c] at e; cases e
    refine key w row ?_ hw
    have := (fndK_mem (met_self (Rs := Rs) (n := n) (row := row))).1
    exact List.mem_map.mpr ⟨_, this, rfl⟩
theorem mends_mem (hR : RsOk n Rs) (h : RIn n row.length row) {x : List Int} : x ∈ mends Rs n row ↔ Rch Rs row x ∧ pls Rs x = [] := by
  unfold mends
  rw [List.mem_filter, met_keys hR h, List.isEmpty_iff]
theorem mends_nd (hR : RsOk n Rs) (h : RIn n row.length row) : (mends Rs n row).Nodup := (met_ok hR h ((n + 1) ^ row.length)).nd.filter _
theorem list_one {α : Type} {l : List α} {a : α} (hn : l.Nodup) (h : ∀ x, x ∈ l ↔ x = a) : l = [a] := by
  match l, hn with
  | [], _ => exact absurd ((h a).mpr rfl) (by simp)
  | [x], _ => rw [(h x).mp (List.mem_singleton.mpr rfl)]
  | x :: y :: r, hn =>
    have h1 := (h x).mp (List.mem_cons_self ..)
    have h2 := (h y).mp (List.mem_cons_of_mem _ (List.mem_cons_self ..))
    rw [h1, h2] at hn
    simp at hn
theorem pls_short (h : row.length ≤ 1) : pls Rs row = [] := by
  unfold pls
  rw [show row.length - 1 = 0 by omega]
  rfl
theorem rch_short (h : row.length ≤ 1) {x : List Int} (hx : Rch Rs row x) : x = row := by
  rcases hx.cases with e | ⟨p, hp, _⟩
  · exact e
  · rw [pls_short h] at hp; cases hp
/-- the end of a row of at most two -/
def e2 (Rs : List (Int × Int × Int)) (row : List Int) : List Int := if pls Rs row = [] then row else mg Rs row 0
theorem mends2 (hR : RsOk n Rs) (h : RIn n row.length row) (h2 : row.length ≤ 2) : mends Rs n row = [e2 Rs row] := by
  refine list_one (mends_nd hR h) fun x => ?_
  rw [mends_mem hR h]
  unfold e2
  by_cases c : pls Rs row = []
  · rw [if_pos c]
    constructor
    · rintro ⟨hx, _⟩
      rcases hx.cases with e | ⟨p, hp, _⟩
      · exact e
      · rw [c] at hp; cases hp
    · rintro rfl; exact ⟨Rch.refl, c⟩
  · rw [if_neg c]
    have all0 : ∀ p ∈ pls Rs row, p = 0 := fun p hp => by have := (pls_mem.mp hp).1; omega
    obtain ⟨p, hp⟩ := List.exists_mem_of_ne_nil _ c
    have hp0 := all0 p hp
    subst hp0
    have hl := (mg_in hR h hp).2
    constructor
    · rintro ⟨hx, he⟩
      rcases hx.cases with e | ⟨q, hq, hy⟩
      · subst e; exact absurd he c
      · rw [all0 q hq] at hy
        exact rch_short (by omega) hy
    · rintro rfl
      exact ⟨Rch.step hp Rch.refl, pls_short (by omega)⟩
theorem e2_end (h2 : row.length ≤ 2) (hR : RsOk n Rs) (h : RIn n row.length row) : Rch Rs row (e2 Rs row) ∧ pls Rs (e2 Rs row) = [] := by
  rw [← mends_mem hR h, mends2 hR h h2]
  exact List.mem_singleton.mpr rfl
/-- three operands, two merges -/
structure Ov (Rs : List (Int × Int × Int)) (n : Nat) (row : List Int) : Prop where
  len : row.length = 3
  inn : RIn n row.length row
  p0 : 0 ∈ pls Rs row
  p1 : 1 ∈ pls Rs row
def oe (Rs : List (Int × Int × Int)) (row : List Int) (p : Nat) : List Int := e2 Rs (mg Rs row p)
theorem Ov.two (hR : RsOk n Rs) (o : Ov Rs n row) {p : Nat} (hp : p ∈ pls Rs row) : RIn n (mg Rs row p).length (mg Rs row p) ∧ (mg Rs row p).length ≤ 2 := by
  obtain ⟨h1, h2⟩ := mg_in hR o.inn hp
  have := o.len
  exact ⟨⟨Nat.le_refl _, h1.rng⟩, by omega⟩
theorem Ov.mends (hR : RsOk n Rs) (o : Ov Rs n row) {x : List Int} : x ∈ mends Rs n row ↔ x = oe Rs row 0 ∨ x = oe Rs row 1 := by
  have hne : pls Rs row ≠ [] := fun z => by have := o.p0; rw [z] at this; cases this
  have all : ∀ p ∈ pls Rs row, p = 0 ∨ p = 1 := fun p hp => by have := (pls_mem.mp hp).1; have := o.len; omega
  have one : ∀ p ∈ pls Rs row, (Rch Rs (mg Rs row p) x ∧ pls Rs x = []) ↔ x = oe Rs row p := fun p hp => by
    obtain ⟨h1, h2⟩ := o.two hR hp
    rw [← mends_mem hR h1, mends2 hR h1 h2, List.mem_singleton]
    rfl
  rw [mends_mem hR o.inn]
  constructor
  · rintro ⟨hx, he⟩
    rcases hx.cases with e | ⟨p, hp, hy⟩
    · subst e; exact absurd he hne
    · have := (one p hp).mp ⟨hy, he⟩
      rcases all p hp with rfl | rfl
      · exact .inl this
      · exact .inr this
  · rintro (rfl | rfl)
    · obtain ⟨h1, h2⟩ := (one 0 o.p0).mpr rfl
      exact ⟨Rch.step o.p0 h1, h2⟩
    · obtain ⟨h1, h2⟩ := (one 1 o.p1).mpr rfl
      exact ⟨Rch.step o.p1 h1, h2⟩
theorem list_two {α : Type} {l : List α} {a b : α} (hn : l.Nodup) (hab : a ≠ b) (h : ∀ x, x ∈ l ↔ x = a ∨ x = b) : l.Perm [a, b] := by
  rw [List.perm_ext_iff_of_nodup hn (by simp [hab])]
  intro x
  rw [h x]
  simp
theorem Ov.same (hR : RsOk n Rs) (o : Ov Rs n row) (e : oe Rs row 0 = oe Rs row 1) : LW.mends Rs n row = [oe Rs row 0] := by
  refine list_one (mends_nd hR o.inn) fun x => ?_
  rw [o.mends hR, ← e]
  exact or_self_iff
theorem Ov.other (hR : RsOk n Rs) (o : Ov Rs n row) (e : oe Rs row 0 ≠ oe Rs row 1) : (LW.mends Rs n row).Perm [oe Rs row 0, oe Rs row 1] := list_two (mends_nd hR o.inn) e fun x => o.mends hR
end
/-! ### sorted rows of rows -/
theorem toks_iT : ∀ {a b : List Int}, PySem.W.keyToksAll (a.map .int) = PySem.W.keyToksAll (b.map .int) → a = b
  | [], [], _ => rfl
  | [], _ :: _, h => by rw [List.map_nil, List.map_cons, PySem.W.toks_all_cons] at h; simp [PySem.W.keyToksAll] at h
  | _ :: _, [], h => by rw [List.map_nil, List.map_cons, PySem.W.toks_all_cons] at h; simp [PySem.W.keyToksAll] at h
  | x :: a, y :: b, h => by
    rw [List.map_cons, List.map_cons, PySem.W.toks_all_cons, PySem.W.toks_all_cons] at h
    injection h with _ h
    have h : [Sum.inl x] ++ PySem.W.keyToksAll (a.map .int) = [Sum.inl y] ++ PySem.W.keyToksAll (b.map .int) := by
      have e : ∀ z : Int, PySem.W.keyToks (.int z) = [Sum.inl z] := fun z => by simp [PySem.W.keyToks]
      rwa [e, e] at h
    injection h with h1 h2
    injection h1 with h1
    rw [h1, toks_iT h2]
theorem sort_rows {xs ys : List (List Int)} (h : xs.Perm ys) : sortD (xs.map iT) = sortD (ys.map iT) := by
  refine sortD_perm (h.map iT) fun x hx y hy e => ?_
  obtain ⟨a, _, rfl⟩ := List.mem_map.mp hx
  obtain ⟨b, _, rfl⟩ := List.mem_map.mp hy
  have e : PySem.W.keyToksAll (a.map .int) = PySem.W.keyToksAll (b.map .int) := by
    have : ∀ l : List PyData, PySem.W.keyToks (.tuple l) = PySem.W.keyToksAll l := fun l => by simp [PySem.W.keyToks]
    unfold iT at e
    rwa [this, this] at e
  rw [toks_iT e]
theorem sortD_one {d : PyData} : sortD [d] = [d] := by
  have : (sortD [d]).Perm [d] := List.mergeSort_perm ..
  exact List.perm_singleton.mp this
theorem lt_iT {a b : List Int} : PySem.W.dataLt (iT a) (iT b) = decide (a < b) := by
  unfold iT
  rw [PySem.W.dataLt_tuple]
  exact PySem.W.dataLt_ints a b
theorem lt_cmp {a b : List Int} : cmpD .Lt (iT a) (iT b) = some (decide (a < b)) := by
  show ltD (iT a) (iT b) = _
  unfold ltD ordD
  have h1 : sm deepest (iT a) = true := sm_iT (n := 59) a
  have h2 : sm deepest (iT b) = true := sm_iT (n := 59) b
  rw [h1, h2, alike_rows]
  show some (PySem.W.dataLt (iT a) (iT b)) = _
  rw [lt_iT]
/-- two rows sorted -/
theorem sort_two {a b : List Int} (h : a ≠ b) : ∃ u w : List Int, sortD [iT a, iT b] = [iT u, iT w] ∧ u < w ∧ ((u = a ∧ w = b) ∨ (u = b ∧ w = a)) := by
  have hp : (sortD [iT a, iT b]).Perm [iT a, iT b] := List.mergeSort_perm ..
  have tr : ∀ x y z : PyData, x ∈ [iT a, iT b] → True := fun _ _ _ _ => trivial
  by_cases c : a < b
  · refine ⟨a, b, ?_, c, .inl ⟨rfl, rfl⟩⟩
    unfold sortD
    refine List.mergeSort_of_pairwise ?_
    refine List.Pairwise.cons (fun y hy => ?_) (List.pairwise_singleton ..)
    rw [List.mem_singleton] at hy
    subst hy
    show PySem.W.dataLe false id (iT a) (iT b) = true
    rw [PySem.W.dataLe_eq]
    show (!PySem.W.dataLt (iT b) (iT a)) = true
    rw [lt_iT]
    simp only [Bool.not_eq_true', decide_eq_false_iff_not]
    exact List.lt_asymm c
  · have c2 : b < a := by
      rcases List.le_total a b with q | q
      · rcases List.le_iff_lt_or_eq.mp q with q | q
        · exact absurd q c
        · exact absurd q h
      · rcases List.le_iff_lt_or_eq.mp q with q | q
        · exact q
        · exact absurd q.symm h
    refine ⟨b, a, ?_, c2, .inr ⟨rfl, rfl⟩⟩
    rw [show [iT a, iT b] = [a, b].map iT from rfl, sort_rows (List.Perm.swap b a [])]
    unfold sortD
    refine List.mergeSort_of_pairwise ?_
    refine List.Pairwise.cons (fun y hy => ?_) (List.pairwise_singleton ..)
    have hy : y ∈ [iT a] := hy
    rw [List.mem_singleton] at hy
    subst hy
    show PySem.W.dataLe false id (iT b) (iT a) = true
    rw [PySem.W.dataLe_eq]
    show (!PySem.W.dataLt (iT a) (iT b)) = true
    rw [lt_iT]
    simp only [Bool.not_eq_true', decide_eq_false_iff_not]
    exact List.lt_asymm c2
end LW

/-! SpL14: overlaps, their ends; dicts with rows for keys filled by comprehensions. -/
namespace LW
open PySem SP
section
variable {F : Type} {Φ : F → List Sl → Option (Sl × List MO)}
/-- {row: .. for row in rows} -/
theorem dcomp_rows {β : Type} {e : β → PyData} {ke ve : E F} {t : Nat} {own : List Nat} {ρ : SP.Env} : ∀ {P : List (List Int × β)}, (P.map (·.1)).Nodup → P.length < 1000000 →
    (∀ p ∈ P, ∃ r1 ρ1 r2 ρ2, evE Φ ke (ρ.set t (some (.dat (iT p.1)))) = some (r1, ρ1) ∧ esc (r1, ρ1) = some (iT p.1, ρ1) ∧ evE Φ ve ρ1 = some (r2, ρ2) ∧ esc (r2, ρ2) = some (e p.2, ρ2) ∧ wipeE ρ2 own = ρ) →
    dcompE Φ ke ve .nil (.name t) own ((P.map (·.1)).map iT) (.dct []) ρ = some (.dct (encK iT e P), ρ) := by
  have key : ∀ (Q P : List (List Int × β)), ((Q ++ P).map (·.1)).Nodup → (Q ++ P).length < 1000000 →
      (∀ p ∈ P, ∃ r1 ρ1 r2 ρ2, evE Φ ke (ρ.set t (some (.dat (iT p.1)))) = some (r1, ρ1) ∧ esc (r1, ρ1) = some (iT p.1, ρ1) ∧ evE Φ ve ρ1 = some (r2, ρ2) ∧ esc (r2, ρ2) = some (e p.2, ρ2) ∧ wipeE ρ2 own = ρ) →
      dcompE Φ ke ve .nil (.name t) own ((P.map (·.1)).map iT) (.dct (encK iT e Q)) ρ = some (.dct (encK iT e (Q ++ P)), ρ) := by
    intro Q P
    induction P generalizing Q with
    | nil => intro _ _ _; rw [List.append_nil]; rfl
    | cons p r ih =>
      intro nd hl hs
      obtain ⟨r1, ρ1, r2, ρ2, a1, a2, a3, a4, a5⟩ := hs p (List.mem_cons_self ..)
      have hn : fndK Q p.1 = none := by
        rw [fndK_none]
        intro hm
        rw [List.map_append, List.nodup_append] at nd
        exact nd.2.2 p.1 hm p.1 (by simp) rfl
      have hp := putF_k (e := e) (P := Q) keyE_rows (x := p.1) (b := p.2) hn (by rw [List.length_append] at hl; omega)
      have ih2 := ih (Q ++ [p]) (by rw [List.append_assoc]; exact nd) (by rw [List.append_assoc]; exact hl) fun q hq => hs q (List.mem_cons_of_mem _ hq)
      unfold dcompE at ih2 ⊢
      show turnsM _ _ _ own (iT p.1 :: (r.map (·.1)).map iT) _ ρ = _
      unfold turnsM
      show (some (ρ.set t (some (.dat (iT p.1))))).bind _ = _
      simp only [Option.bind_some, evC, elD, a1, a2, a3, a4, hp, Option.map_some, a5]
      refine Eq.trans ih2 ?_
      rw [List.append_assoc]
      rfl
  intro P nd hl hs
  exact key [] P nd hl hs
end
section
variable {α β : Type} [DecidableEq α] {ek : α → PyData} {kk : α → NestedKey} {e : β → PyData} {P : List (α × β)}
theorem put_sameK (K : KeyE ek kk) (nd : (P.map (·.1)).Nodup) {x : α} {p : α × β} (h : fndK P x = some p) (hl : P.length < 1000000) : stoM (.dct (encK ek e P)) (ek x) (e p.2) = some (.dct (encK ek e P)) := by
  obtain ⟨hp, rfl⟩ := fndK_mem h
  show (putF (encK ek e P) (ek p.1) (e p.2)).map MO.dct = _
  have h2 : (encK ek e P).length < szMax := by unfold encK; rw [List.length_map]; exact hl
  unfold putF
  rw [fam_k K]
  simp only [h2, if_true, Option.map_some]
  congr 2
  unfold put
  rw [look_k K, h]
  simp only [Option.map_some, Option.isSome_some, if_true]
  unfold encK
  rw [List.map_map]
  refine List.map_congr_left fun q hq => ?_
  show (if (keyOf (ek q.1) == some (kk p.1)) = true then (ek q.1, e p.2) else (ek q.1, e q.2)) = _
  rw [key_k K]
  by_cases c : q.1 = p.1
  · obtain ⟨j, hj⟩ := List.getElem?_of_mem hq
    have := fndK_at nd hj
    rw [c, h] at this
    injection this with this
    rw [decide_eq_true c, if_pos rfl, this]
  · rw [decide_eq_false c, if_neg (by decide)]
/-- a key with its value, at its first coming -/
def addK (f : α → β) (P : List (α × β)) (x : α) : List (α × β) := if (fndK P x).isSome then P else P ++ [(x, f x)]
structure AK (f : α → β) (P : List (α × β)) : Prop where
  nd : (P.map (·.1)).Nodup
  ok : ∀ p ∈ P, p.2 = f p.1
theorem AK.add {f : α → β} (a : AK f P) (x : α) : AK f (addK f P x) := by
  unfold addK
  split
  · exact a
  · rename_i hn
    have hk : x ∉ P.map (·.1) := fndK_none.mp (by simpa using hn)
    refine ⟨?_, fun p hp => ?_⟩
    · rw [List.map_append, List.nodup_append]
      refine ⟨a.nd, by simp, fun y hy z hz => ?_⟩
      have hz' : z = x := by simpa using hz
      rintro rfl
      exact hk (hz' ▸ hy)
    · rcases List.mem_append.mp hp with h | h
      · exact a.ok p h
      · rw [List.mem_singleton] at h; subst h; rfl
theorem addK_keys {f : α → β} {x y : α} : y ∈ (addK f P x).map (·.1) ↔ y ∈ P.map (·.1) ∨ y = x := by
  unfold addK
  split
  · rename_i h
    constructor
    · exact .inl
    · rintro (h2 | rfl)
      · exact h2
      · obtain ⟨p, hp⟩ := Option.isSome_iff_exists.mp h
        obtain ⟨h3, h4⟩ := fndK_mem hp
        exact List.mem_map.mpr ⟨p, h3, h4⟩
  · rw [List.map_append, List.mem_append]
    simp
theorem fold_AK {f : α → β} : ∀ {xs : List α} {P : List (α × β)}, AK f P → AK f (xs.foldl (addK f) P)
  | [], _, a => a
  | x :: xs, _, a => fold_AK (xs := xs) (a.add x)
theorem fold_keys {f : α → β} {y : α} : ∀ {xs : List α} {P : List (α × β)}, y ∈ (xs.foldl (addK f) P).map (·.1) ↔ y ∈ P.map (·.1) ∨ y ∈ xs
  | [], P => by simp
  | x :: xs, P => by
    show y ∈ (xs.foldl (addK f) (addK f P x)).map (·.1) ↔ _
    rw [fold_keys (xs := xs), addK_keys, List.mem_cons, or_assoc]
/-- one store -/
theorem sto_add (K : KeyE ek kk) {f : α → β} (a : AK f P) (x : α) (hl : P.length < 1000000) : stoM (.dct (encK ek e P)) (ek x) (e (f x)) = some (.dct (encK ek e (addK f P x))) := by
  unfold addK
  cases h : fndK P x with
  | some p =>
    obtain ⟨h1, h2⟩ := fndK_mem h
    have := put_sameK (e := e) K a.nd h hl
    rw [a.ok p h1, h2] at this
    simpa using this
  | none =>
    simpa using sto_k (e := e) K (x := x) (b := f x) h hl
end
/-! ### overlaps -/
section
variable {Rs : List (Int × Int × Int)} {n : Nat}
def srtP (a b : List Int) : List Int × List Int := if a < b then (a, b) else (b, a)
theorem sort_P {a b : List Int} : sortD [iT a, iT b] = [iT (srtP a b).1, iT (srtP a b).2] := by
  by_cases h : a = b
  · subst h
    have : srtP a a = (a, a) := by unfold srtP; split <;> rfl
    rw [this]
    have hp : (sortD [iT a, iT a]).Perm [iT a, iT a] := List.mergeSort_perm ..
    have hl := hp.length_eq
    have hm : ∀ d ∈ sortD [iT a, iT a], d = iT a := fun d hd => by
      have := hp.mem_iff.mp hd
      simpa using this
    match hq : sortD [iT a, iT a] with
    | [] => rw [hq] at hl; cases hl
    | [_] => rw [hq] at hl; cases hl
    | [x, y] =>
      rw [hq] at hm
      rw [hm x (List.mem_cons_self ..), hm y (List.mem_cons_of_mem _ (List.mem_cons_self ..))]
    | _ :: _ :: _ :: _ => rw [hq] at hl; simp at hl
  · obtain ⟨u, w, e, hlt, h2⟩ := sort_two h
    rw [e]
    unfold srtP
    rcases h2 with ⟨rfl, rfl⟩ | ⟨rfl, rfl⟩
    · rw [if_pos hlt]
    · rw [if_neg (List.lt_asymm hlt)]
theorem srtP_ne {a b : List Int} : (srtP a b).1 = (srtP a b).2 ↔ a = b := by
  unfold srtP
  split
  · exact Iff.rfl
  · exact eq_comm
/-- the ends of an overlap, sorted -/
def esF (Rs : List (Int × Int × Int)) (t : List Int) : List (List Int) := if oe Rs t 0 = oe Rs t 1 then [oe Rs t 0] else [(srtP (oe Rs t 0) (oe Rs t 1)).1, (srtP (oe Rs t 0) (oe Rs t 1)).2]
theorem esF_ok (hR : RsOk n Rs) {t : List Int} (o : Ov Rs n t) : (esF Rs t).map iT = sortD ((mends Rs n t).map iT) := by
  unfold esF
  by_cases c : oe Rs t 0 = oe Rs t 1
  · rw [if_pos c, o.same hR c]
    exact sortD_one.symm
  · rw [if_neg c, sort_rows (o.other hR c)]
    exact sort_P.symm
def rulesK (Rs : List (Int × Int × Int)) (K : Int → Bool) : List (Int × Int × Int) := Rs.filter fun r => K r.1 && K r.2.1
def OV (Rs : List (Int × Int × Int)) (K : Int → Bool) : List (List Int) := (rulesK Rs K).flatMap fun one => ((rulesK Rs K).filter fun other => decide (one.2.1 = other.1)).map fun other => [one.1, one.2.1, other.2.1]
theorem ov_mem {K : Int → Bool} {t : List Int} : t ∈ OV Rs K ↔ ∃ a b c, t = [a, b, c] ∧ K a = true ∧ K b = true ∧ K c = true ∧ (rlF Rs a b).isSome = true ∧ (rlF Rs b c).isSome = true := by
  have hrl : ∀ a b, (rlF Rs a b).isSome = true ↔ ∃ r ∈ Rs, r.1 = a ∧ r.2.1 = b := fun a b => by
    unfold rlF
    rw [Option.isSome_map, List.find?_isSome]
    constructor
    · rintro ⟨r, h1, h2⟩
      unfold hits at h2
      simp only [Bool.and_eq_true, decide_eq_true_eq] at h2
      exact ⟨r, h1, h2⟩
    · rintro ⟨r, h1, h2, h3⟩
      exact ⟨r, h1, by simp [hits, h2, h3]⟩
  unfold OV
  rw [List.mem_flatMap]
  constructor
  · rintro ⟨one, h1, h2⟩
    obtain ⟨other, h3, rfl⟩ := List.mem_map.mp h2
    obtain ⟨h3, h4⟩ := List.mem_filter.mp h3
    obtain ⟨q1, q2⟩ := List.mem_filter.mp h1
    obtain ⟨q3, q4⟩ := List.mem_filter.mp h3
    simp only [Bool.and_eq_true, decide_eq_true_eq] at q2 q4 h4
    exact ⟨_, _, _, rfl, q2.1, q2.2, q4.2, (hrl _ _).mpr ⟨one, q1, rfl, rfl⟩, (hrl _ _).mpr ⟨other, q3, h4.symm, rfl⟩⟩
  · rintro ⟨a, b, c, rfl, ka, kb, kc, r1, r2⟩
    obtain ⟨one, q1, q2, q3⟩ := (hrl _ _).mp r1
    obtain ⟨other, p1, p2, p3⟩ := (hrl _ _).mp r2
    refine ⟨one, List.mem_filter.mpr ⟨q1, by rw [q2, q3, ka, kb]; rfl⟩, List.mem_map.mpr ⟨other, List.mem_filter.mpr ⟨List.mem_filter.mpr ⟨p1, by rw [p2, p3, kb, kc]; rfl⟩, by simp [q3, p2]⟩, by rw [q2, q3, p3]⟩⟩
theorem ov_nd {K : Int → Bool} (hA : Rs.Pairwise fun r r' => r.1 < r'.1 ∨ (r.1 = r'.1 ∧ r.2.1 < r'.2.1)) : (OV Rs K).Nodup := by
  have hA2 : (rulesK Rs K).Pairwise fun r r' => r.1 < r'.1 ∨ (r.1 = r'.1 ∧ r.2.1 < r'.2.1) := hA.sublist List.filter_sublist
  unfold OV
  unfold List.Nodup
  rw [List.pairwise_flatMap]
  refine ⟨fun one _ => ?_, hA2.imp fun {x y} h => ?_⟩
  · rw [List.pairwise_map]
    have h3 : ((rulesK Rs K).filter fun other => decide (one.2.1 = other.1)).Pairwise fun r r' => r.1 < r'.1 ∨ (r.1 = r'.1 ∧ r.2.1 < r'.2.1) := hA2.sublist List.filter_sublist
    refine (List.Pairwise.and_mem.mp h3).imp fun {x y} h => ?_
    obtain ⟨hx, hy, h⟩ := h
    have e1 := (List.mem_filter.mp hx).2
    have e2 := (List.mem_filter.mp hy).2
    simp only [decide_eq_true_eq] at e1 e2
    intro e
    injection e with _ e
    injection e with _ e
    injection e with e
    omega
  · intro t ht s hs e
    obtain ⟨o1, _, rfl⟩ := List.mem_map.mp ht
    obtain ⟨o2, _, rfl⟩ := List.mem_map.mp hs
    injection e with e1 e
    injection e with e2
    omega
theorem ov_is {K : Int → Bool} (hK : ∀ a, K a = true → 0 ≤ a ∧ a < n) {t : List Int} (h : t ∈ OV Rs K) : Ov Rs n t := by
  obtain ⟨a, b, c, rfl, ka, kb, kc, r1, r2⟩ := ov_mem.mp h
  refine ⟨rfl, ⟨Nat.le_refl _, fun x hx => ?_⟩, pls_mem.mpr ⟨by simp, r1⟩, pls_mem.mpr ⟨by simp, r2⟩⟩
  simp only [List.mem_cons, List.not_mem_nil, or_false] at hx
  rcases hx with rfl | rfl | rfl
  · exact hK _ ka
  · exact hK _ kb
  · exact hK _ kc
/-- the triples of known operands, as the law walks them -/
def tris (Rs : List (Int × Int × Int)) (ks : List Int) (a b : Int) : List (List Int) := (ks.filter fun c => (rlF Rs a b).isSome && (rlF Rs b c).isSome).map fun c => [a, b, c]
end
end LW

/-! SpL15: rows that end alike. -/
namespace LW
open PySem SP
section
variable {Rs : List (Int × Int × Int)} {n : Nat}
theorem atR_mid {X Y : List Int} {a b : Int} : atR (X ++ a :: b :: Y) X.length = a ∧ atR (X ++ a :: b :: Y) (X.length + 1) = b := by
  unfold atR
  constructor
  · rw [List.getD_eq_getElem?_getD, List.getElem?_append_right (Nat.le_refl _)]; simp
  · rw [List.getD_eq_getElem?_getD, List.getElem?_append_right (by omega)]; simp
theorem mg_at {X Y : List Int} {a b z : Int} (h : rlF Rs a b = some z) : X.length ∈ pls Rs (X ++ a :: b :: Y) ∧ mg Rs (X ++ a :: b :: Y) X.length = X ++ mid z ++ Y := by
  obtain ⟨h1, h2⟩ := atR_mid (X := X) (Y := Y) (a := a) (b := b)
  constructor
  · rw [pls_mem]
    refine ⟨by simp, ?_⟩
    unfold isP
    rw [h1, h2, h]; rfl
  · unfold mg
    rw [h1, h2, h]
    have e1 : (X ++ a :: b :: Y).take X.length = X := by simp
    have e2 : (X ++ a :: b :: Y).drop (X.length + 2) = Y := by
      rw [List.drop_append]
      simp
    rw [e1, e2]
theorem at_mg {row : List Int} {p : Nat} (hp : p ∈ pls Rs row) : ∃ X a b Y z, row = X ++ a :: b :: Y ∧ rlF Rs a b = some z ∧ mg Rs row p = X ++ mid z ++ Y := by
  obtain ⟨h1, h2⟩ := pls_mem.mp hp
  unfold isP at h2
  obtain ⟨z, hz⟩ := Option.isSome_iff_exists.mp h2
  have e : row = row.take p ++ atR row p :: atR row (p + 1) :: row.drop (p + 2) := by
    have g1 := atR_get (row := row) (p := p) (by omega)
    have g2 := atR_get (row := row) (p := p + 1) h1
    conv => lhs; rw [← List.take_append_drop p row]
    congr 1
    rw [List.drop_eq_getElem_cons (by omega), List.drop_eq_getElem_cons (by omega)]
    rw [List.getElem?_eq_getElem (by omega)] at g1
    rw [List.getElem?_eq_getElem h1] at g2
    injection g1 with g1
    injection g2 with g2
    rw [g1, g2]
  exact ⟨_, _, _, _, z, e, hz, by unfold mg; rw [hz]⟩
def Stp1 (Rs : List (Int × Int × Int)) (row y : List Int) : Prop := ∃ X a b Y z, row = X ++ a :: b :: Y ∧ rlF Rs a b = some z ∧ y = X ++ mid z ++ Y
theorem stp1_rch {row y x : List Int} (h : Stp1 Rs row y) (hx : Rch Rs y x) : Rch Rs row x := by
  obtain ⟨X, a, b, Y, z, rfl, hz, rfl⟩ := h
  obtain ⟨h1, h2⟩ := mg_at (Rs := Rs) (X := X) (Y := Y) hz
  exact Rch.step h1 (by rw [h2]; exact hx)
theorem rch_stp1 {row x : List Int} (h : Rch Rs row x) : x = row ∨ ∃ y, Stp1 Rs row y ∧ Rch Rs y x := by
  rcases h.cases with e | ⟨p, hp, hx⟩
  · exact .inl e
  · obtain ⟨X, a, b, Y, z, e, hz, em⟩ := at_mg hp
    exact .inr ⟨_, ⟨X, a, b, Y, z, e, hz, em⟩, hx⟩
theorem stp1_len {row y : List Int} (h : Stp1 Rs row y) : y.length + 1 ≤ row.length := by
  obtain ⟨X, a, b, Y, z, rfl, hz, rfl⟩ := h
  have hm : (mid z).length ≤ 1 := by unfold mid; split <;> simp
  simp only [List.length_append, List.length_cons]
  omega
theorem stp1_ctx {X Y u w : List Int} (h : Stp1 Rs u w) : Stp1 Rs (X ++ u ++ Y) (X ++ w ++ Y) := by
  obtain ⟨P, a, b, Q, z, rfl, hz, rfl⟩ := h
  exact ⟨X ++ P, a, b, Q ++ Y, z, by simp, hz, by simp⟩
theorem rch_ctx {X Y : List Int} : ∀ {k : Nat} {u w : List Int}, u.length ≤ k → Rch Rs u w → Rch Rs (X ++ u ++ Y) (X ++ w ++ Y) := by
  intro k
  induction k with
  | zero =>
    intro u w hu h
    rcases rch_stp1 h with e | ⟨y, hy, _⟩
    · rw [e]; exact Rch.refl
    · have := stp1_len hy; omega
  | succ k ih =>
    intro u w hu h
    rcases rch_stp1 h with e | ⟨y, hy, hw⟩
    · rw [e]; exact Rch.refl
    · have := stp1_len hy
      exact stp1_rch (stp1_ctx hy) (ih (by omega) hw)
theorem pls_stp {row : List Int} (h : pls Rs row ≠ []) : ∃ y, Stp1 Rs row y := by
  obtain ⟨p, hp⟩ := List.exists_mem_of_ne_nil _ h
  obtain ⟨X, a, b, Y, z, e, hz, _⟩ := at_mg hp
  exact ⟨_, X, a, b, Y, z, e, hz, rfl⟩
theorem stp_pls {row y : List Int} (h : Stp1 Rs row y) : pls Rs row ≠ [] := by
  obtain ⟨X, a, b, Y, z, rfl, hz, rfl⟩ := h
  intro e
  have := (mg_at (Rs := Rs) (X := X) (Y := Y) hz).1
  rw [e] at this
  cases this
theorem has_end : ∀ (k : Nat) (row : List Int), row.length ≤ k → ∃ e, Rch Rs row e ∧ pls Rs e = [] := by
  intro k
  induction k with
  | zero => intro row h; exact ⟨row, Rch.refl, pls_short (by omega)⟩
  | succ k ih =>
    intro row h
    by_cases c : pls Rs row = []
    · exact ⟨row, Rch.refl, c⟩
    · obtain ⟨y, hy⟩ := pls_stp c
      have := stp1_len hy
      obtain ⟨e, h1, h2⟩ := ih y (by omega)
      exact ⟨e, stp1_rch hy h1, h2⟩
/-- rows of known operands stay such -/
structure KClosed (Rs : List (Int × Int × Int)) (K : Int → Bool) : Prop where
  cl : ∀ a b z, K a = true → K b = true → rlF Rs a b = some z → z ≠ -1 → K z = true
theorem stp1_K {K : Int → Bool} (hK : KClosed Rs K) {row y : List Int} (hr : ∀ a ∈ row, K a = true) (h : Stp1 Rs row y) : ∀ a ∈ y, K a = true := by
  obtain ⟨X, a, b, Y, z, rfl, hz, rfl⟩ := h
  intro c hc
  simp only [List.mem_append] at hc
  rcases hc with (hc | hc) | hc
  · exact hr c (List.mem_append_left _ hc)
  · unfold mid at hc
    split at hc
    · cases hc
    · rename_i hne
      rw [List.mem_singleton] at hc
      subst hc
      exact hK.cl a b c (hr a (by simp)) (hr b (by simp)) hz hne
  · exact hr c (by simp [hc])
/-- two steps from one row come together again -/
theorem local_conf {K : Int → Bool} (hR : RsOk n Rs) (hKn : ∀ a, K a = true → 0 ≤ a ∧ a < n) (ho : ∀ t ∈ OV Rs K, oe Rs t 0 = oe Rs t 1) {row y1 y2 : List Int} (hr : ∀ a ∈ row, K a = true) (h1 : Stp1 Rs row y1) (h2 : Stp1 Rs row y2) : ∃ w, Rch Rs y1 w ∧ Rch Rs y2 w := by
  have key : ∀ (X : List Int) (a b : Int) (Y : List Int) (z : Int) (X2 : List Int) (c d : Int) (Y2 : List Int) (z2 : Int) (as : List Int), (∀ x ∈ X ++ a :: b :: Y, K x = true) → rlF Rs a b = some z → rlF Rs c d = some z2 → X2 = X ++ as → a :: b :: Y = as ++ c :: d :: Y2 →
      ∃ w, Rch Rs (X ++ mid z ++ Y) w ∧ Rch Rs (X2 ++ mid z2 ++ Y2) w := by
    intro X a b Y z X2 c d Y2 z2 as hr hz hz2 e1 e2
    subst e1
    match as, e2 with
    | [], e2 =>
      injection e2 with q1 q2
      injection q2 with q2 q3
      subst q1 q2 q3
      rw [hz] at hz2
      injection hz2 with hz2
      subst hz2
      exact ⟨_, Rch.refl, by simpa using Rch.refl⟩
    | [x], e2 =>
      injection e2 with q1 q2
      injection q2 with q2 q3
      subst q1 q2 q3
      -- the overlap a, b, d
      have kt : [a, b, d] ∈ OV Rs K := ov_mem.mpr ⟨a, b, d, rfl, hr a (by simp), hr b (by simp), hr d (by simp), by rw [hz]; rfl, by rw [hz2]; rfl⟩
      have o := ov_is hKn kt
      have he := ho _ kt
      have m0 : mg Rs [a, b, d] 0 = mid z ++ [d] := by
        have := (mg_at (Rs := Rs) (X := []) (Y := [d]) hz).2
        simpa using this
      have m1 : mg Rs [a, b, d] 1 = [a] ++ mid z2 := by
        have := (mg_at (Rs := Rs) (X := [a]) (Y := []) hz2).2
        simpa using this
      obtain ⟨a1, a2⟩ := o.two hR o.p0
      obtain ⟨b1, b2⟩ := o.two hR o.p1
      have r0 : Rch Rs (mid z ++ [d]) (oe Rs [a, b, d] 0) := by rw [← m0]; exact (e2_end a2 hR a1).1
      have r1 : Rch Rs ([a] ++ mid z2) (oe Rs [a, b, d] 1) := by rw [← m1]; exact (e2_end b2 hR b1).1
      rw [← he] at r1
      refine ⟨X ++ oe Rs [a, b, d] 0 ++ Y2, ?_, ?_⟩
      · have := rch_ctx (X := X) (Y := Y2) (Nat.le_refl _) r0
        simpa using this
      · have := rch_ctx (X := X) (Y := Y2) (Nat.le_refl _) r1
        simpa using this
    | x :: y :: M, e2 =>
      injection e2 with q1 q2
      injection q2 with q2 q3
      subst q1 q2 q3
      refine ⟨X ++ mid z ++ M ++ mid z2 ++ Y2, ?_, ?_⟩
      · refine stp1_rch (y := X ++ mid z ++ M ++ mid z2 ++ Y2) ⟨X ++ mid z ++ M, c, d, Y2, z2, by simp, hz2, rfl⟩ Rch.refl
      · refine stp1_rch (y := X ++ mid z ++ M ++ mid z2 ++ Y2) ⟨X, a, b, M ++ mid z2 ++ Y2, z, by simp, hz, by simp⟩ Rch.refl
  obtain ⟨X, a, b, Y, z, rfl, hz, rfl⟩ := h1
  obtain ⟨X2, c, d, Y2, z2, e, hz2, rfl⟩ := h2
  rcases List.append_eq_append_iff.mp e with ⟨as, e1, e2⟩ | ⟨as, e1, e2⟩
  · exact key X a b Y z X2 c d Y2 z2 as hr hz hz2 e1 e2
  · obtain ⟨w, g1, g2⟩ := key X2 c d Y2 z2 X a b Y z as (by rw [← e]; exact hr) hz2 hz e1 e2
    exact ⟨w, g2, g1⟩
/-- one end -/
theorem one_end {K : Int → Bool} (hR : RsOk n Rs) (hKn : ∀ a, K a = true → 0 ≤ a ∧ a < n) (hK : KClosed Rs K) (ho : ∀ t ∈ OV Rs K, oe Rs t 0 = oe Rs t 1) : ∀ (k : Nat) {row x y : List Int}, row.length ≤ k → (∀ a ∈ row, K a = true) → Rch Rs row x → pls Rs x = [] → Rch Rs row y → pls Rs y = [] → x = y := by
  intro k
  induction k with
  | zero =>
    intro row x y hl hr hx ex hy ey
    rw [rch_short (by omega) hx, rch_short (by omega) hy]
  | succ k ih =>
    intro row x y hl hr hx ex hy ey
    rcases rch_stp1 hx with e1 | ⟨y1, s1, g1⟩
    · subst e1
      rcases rch_stp1 hy with e2 | ⟨y2, s2, _⟩
      · exact e2.symm
      · exact absurd ex (stp_pls s2)
    · rcases rch_stp1 hy with e2 | ⟨y2, s2, g2⟩
      · subst e2
        exact absurd ey (stp_pls s1)
      · obtain ⟨w, w1, w2⟩ := local_conf hR hKn ho hr s1 s2
        obtain ⟨e, h1, h2⟩ := has_end (Rs := Rs) w.length w (Nat.le_refl _)
        have tr : ∀ {a b c : List Int}, Rch Rs a b → Rch Rs b c → Rch Rs a c := fun {a b c} h1 h2 => by
          obtain ⟨u1, h1⟩ := h1
          obtain ⟨u2, h2⟩ := h2
          refine ⟨u1 ++ u2, ?_⟩
          induction u1 generalizing a with
          | nil => injection h1 with h1; rw [h1]; exact h2
          | cons p u ih2 =>
            have h1 : (if 0 ≤ p ∧ p.toNat ∈ pls Rs a then mrun Rs (mg Rs a p.toNat) u else none) = some b := h1
            show (if 0 ≤ p ∧ p.toNat ∈ pls Rs a then mrun Rs (mg Rs a p.toNat) (u ++ u2) else none) = some c
            by_cases q : 0 ≤ p ∧ p.toNat ∈ pls Rs a
            · rw [if_pos q] at h1 ⊢
              exact ih2 h1
            · rw [if_neg q] at h1; cases h1
        have l1 := stp1_len s1
        have l2 := stp1_len s2
        rw [ih (by omega) (stp1_K hK hr s1) g1 ex (tr w1 h1) h2, ih (by omega) (stp1_K hK hr s2) g2 ey (tr w2 h1) h2]
end
end LW

namespace LW
open PySem SP
inductive Fn where
  | is_integer
  | is_within
  | are_positions
  | is_standing
  | law_open
  | law_spread
  | law_take
  | law_same
  | law_one_of
  | law_is_integer
  | law_odd
  | law_bent
  | law_draw_effect
  | law_then
  | law_draw_rules
  | law_draw_scheme
  | law_fold
  | law_rule
  | law_steps
  | law_next
  | law_is_standing
  | law_near
  | law
  deriving DecidableEq, Inhabited
-- is_integer: 0 value
def d_is_integer : Def Fn := ⟨1, 1, [],
  (.cons (.ret (.and (.isi false [.int] (.loc 0)) (.not (.isi false [.bool] (.loc 0)))))
  .nil)⟩
-- is_within: 0 value, 1 low, 2 high
def d_is_within : Def Fn := ⟨3, 3, [],
  (.cons (.ret (.and (.call .is_integer (.cons (.loc 0) .nil)) (.chain .LtE .LtE (.loc 1) (.loc 0) (.loc 2))))
  .nil)⟩
-- are_positions: 0 value, 1 most, 2 one
def c_are_positions_0 : E Fn :=
  (.call .is_within (.cons (.loc 2) (.cons (.cst (.int 0)) (.cons (.loc 1) .nil))))
def d_are_positions : Def Fn := ⟨2, 3, [],
  (.cons (.ite (.or (.not (.isi false [.tuple] (.loc 0))) (.cmp .Gt (.blt .len (.cons (.loc 0) .nil)) (.glo (.int 3)))) (.cons (.ret (.cst (.bool false)))
  .nil) .nil)
  (.cons (.ite (.not (.blt .all (.cons (.comp c_are_positions_0 (.name 2) (.val (.loc 0)) .nil [2]) .nil))) (.cons (.ret (.cst (.bool false)))
  .nil) .nil)
  (.cons (.ret (.cmp .Eq (.blt .list (.cons (.loc 0) .nil)) (.blt .sorted (.cons (.loc 0) .nil))))
  .nil)))⟩
-- is_standing: 0 scheme, 1 value, 2 one
def c_is_standing_0 : E Fn :=
  (.call .is_within (.cons (.loc 2) (.cons (.cst (.int 0)) (.cons (.bin .Sub (.blt .len (.cons (.idx (.loc 0) (.cst (.int 1))) .nil)) (.cst (.int 1))) .nil))))
def d_is_standing : Def Fn := ⟨2, 3, [],
  (.cons (.ite (.or (.not (.isi false [.tuple] (.loc 1))) (.or (.cmp .NotEq (.blt .len (.cons (.loc 1) .nil)) (.cst (.int 3))) (.not (.call .is_within (.cons (.idx (.loc 1) (.cst (.int 0))) (.cons (.glo (.int (-1))) (.cons (.bin .Sub (.idx (.loc 0) (.cst (.int 0))) (.cst (.int 1))) .nil))))))) (.cons (.ret (.cst (.bool false)))
  .nil) .nil)
  (.cons (.ite (.not (.isi false [.tuple] (.idx (.loc 1) (.cst (.int 1))))) (.cons (.ret (.cst (.bool false)))
  .nil) .nil)
  (.cons (.ite (.not (.blt .all (.cons (.comp c_is_standing_0 (.name 2) (.val (.idx (.loc 1) (.cst (.int 1)))) .nil [2]) .nil))) (.cons (.ret (.cst (.bool false)))
  .nil) .nil)
  (.cons (.ret (.call .are_positions (.cons (.idx (.loc 1) (.cst (.int 2))) (.cons (.blt .len (.cons (.idx (.loc 1) (.cst (.int 1))) .nil)) .nil))))
  .nil))))⟩
-- _law_open: 0 script, 1 cells, 2 k, 3 cell
def b_law_open_0 : Cs Fn :=
  (.cons (.sto 1 (.bin .Mod (.blt .int (.cons (.loc 2) .nil)) (.cst (.int 12))) (.bin .Add (.idx (.loc 1) (.bin .Mod (.blt .int (.cons (.loc 2) .nil)) (.cst (.int 12)))) (.loc 3)))
  .nil)
def d_law_open : Def Fn := ⟨1, 4, [],
  (.cons (.setO 1 (.blt .list (.cons (.slc (.loc 0) none none .nil (.cons (.cst (.int 12)) .nil)) .nil)))
  (.cons (.for (.tup [2, 3]) (.enum (.slc (.loc 0) none none (.cons (.cst (.int 12)) .nil) (.cons (.cst (.int 63)) .nil))) b_law_open_0)
  (.cons (.ret (.lst (.cons (.loc 1) (.cons (.cst (.int 0)) (.cons (.cst (.int 0)) .nil)))))
  .nil)))⟩
-- _law_spread: 0 cell, 1 at, 2 primes, 3 one, 4 two, 5 three
def d_law_spread : Def Fn := ⟨2, 6, [],
  (.cons (.ite (.cmp .GtE (.loc 0) (.bin .Pow (.cst (.int 10)) (.cst (.int 18)))) (.cons (.ret (.loc 0))
  .nil) .nil)
  (.cons (.set 2 (.lst (.cons (.cst (.int 2147483629)) (.cons (.cst (.int 2147483587)) (.cons (.cst (.int 2147483579)) (.cons (.cst (.int 2147483563)) (.cons (.cst (.int 2147483549)) (.cons (.cst (.int 2147483543)) (.cons (.cst (.int 2147483497)) (.cons (.cst (.int 2147483489)) .nil))))))))))
  (.cons (.set 2 (.bin .Add (.loc 2) (.lst (.cons (.cst (.int 2147483477)) (.cons (.cst (.int 2147483423)) (.cons (.cst (.int 2147483399)) (.cons (.cst (.int 2147483353)) (.cons (.cst (.int 2147483323)) .nil))))))))
  (.cons (.set 3 (.bin .Add (.bin .Add (.bin .Mult (.bin .Mod (.blt .int (.cons (.loc 0) .nil)) (.cst (.int 1000000007))) (.bin .Add (.bin .Mult (.cst (.int 2)) (.loc 1)) (.cst (.int 69069)))) (.bin .Mult (.loc 1) (.cst (.int 40503)))) (.cst (.int 977))))
  (.cons (.set 3 (.bin .Mod (.blt .int (.cons (.bin .Pow (.loc 3) (.cst (.int 3))) .nil)) (.idx (.loc 2) (.bin .Mod (.blt .int (.cons (.loc 1) .nil)) (.cst (.int 13))))))
  (.cons (.set 4 (.bin .Mod (.blt .int (.cons (.bin .Pow (.bin .Add (.bin .Add (.bin .Mult (.loc 3) (.bin .Add (.loc 1) (.cst (.int 3)))) (.bin .Mod (.blt .int (.cons (.loc 0) .nil)) (.cst (.int 65537)))) (.cst (.int 5))) (.cst (.int 5))) .nil)) (.idx (.loc 2) (.bin .Mod (.blt .int (.cons (.bin .Add (.loc 1) (.cst (.int 5))) .nil)) (.cst (.int 13))))))
  (.cons (.set 5 (.bin .Mod (.blt .int (.cons (.bin .Pow (.bin .Add (.bin .Add (.loc 4) (.bin .Mod (.blt .int (.cons (.loc 3) .nil)) (.cst (.int 1009)))) (.loc 1)) (.cst (.int 3))) .nil)) (.idx (.loc 2) (.bin .Mod (.blt .int (.cons (.bin .Add (.loc 1) (.cst (.int 7))) .nil)) (.cst (.int 13))))))
  (.cons (.ret (.bin .Add (.bin .Mult (.bin .Add (.bin .Mult (.loc 3) (.cst (.int 2147483647))) (.loc 4)) (.cst (.int 2147483647))) (.loc 5)))
  .nil))))))))⟩
-- _law_take: 0 pen, 1 amount, 2 found, 3 at, 4 cell
def d_law_take : Def Fn := ⟨2, 5, [0],
  (.cons (.ite (.cmp .Lt (.idx (.loc 0) (.cst (.int 2))) (.loc 1)) (.cons (.set 3 (.idx (.loc 0) (.cst (.int 1))))
  (.cons (.set 4 (.cst (.int 0)))
  (.cons (.ite (.cmp .Lt (.loc 3) (.blt .len (.cons (.idx (.loc 0) (.cst (.int 0))) .nil))) (.cons (.set 4 (.idx (.idx (.loc 0) (.cst (.int 0))) (.loc 3)))
  .nil) (.cons (.ite (.cmp .Gt (.blt .len (.cons (.idx (.loc 0) (.cst (.int 0))) .nil)) (.cst (.int 0))) (.cons (.set 4 (.bin .Mod (.blt .int (.cons (.idx (.idx (.loc 0) (.cst (.int 0))) (.bin .Mod (.blt .int (.cons (.bin .Add (.bin .Mult (.loc 3) (.cst (.int 5))) (.cst (.int 3))) .nil)) (.blt .len (.cons (.idx (.loc 0) (.cst (.int 0))) .nil)))) .nil)) (.bin .Add (.bin .Pow (.cst (.int 10)) (.cst (.int 17))) (.loc 3))))
  .nil) .nil)
  .nil))
  (.cons (.sto 0 (.cst (.int 1)) (.bin .Add (.loc 3) (.cst (.int 1))))
  (.cons (.sto 0 (.cst (.int 2)) (.call .law_spread (.cons (.loc 4) (.cons (.loc 3) .nil))))
  .nil))))) .nil)
  (.cons (.set 2 (.bin .Mod (.blt .int (.cons (.idx (.loc 0) (.cst (.int 2))) .nil)) (.loc 1)))
  (.cons (.sto 0 (.cst (.int 2)) (.bin .FloorDiv (.idx (.loc 0) (.cst (.int 2))) (.loc 1)))
  (.cons (.ret (.loc 2))
  .nil))))⟩
-- _law_same: 0 found, 1 due, 2 one, 3 other
def c_law_same_0 : E Fn :=
  (.call .law_same (.cons (.loc 2) (.cons (.loc 3) .nil)))
def d_law_same : Def Fn := ⟨2, 4, [],
  (.cons (.ite (.or (.cmp .Is (.loc 1) (.cst .none)) (.cmp .Is (.loc 0) (.cst .none))) (.cons (.ret (.and (.cmp .Is (.loc 1) (.cst .none)) (.cmp .Is (.loc 0) (.cst .none))))
  .nil) .nil)
  (.cons (.ite (.or (.isi false [.bool] (.loc 1)) (.isi false [.bool] (.loc 0))) (.cons (.ret (.and (.isi false [.bool] (.loc 1)) (.and (.isi false [.bool] (.loc 0)) (.cmp .Eq (.loc 0) (.loc 1)))))
  .nil) .nil)
  (.cons (.ite (.isi true [.int, .str] (.loc 1)) (.cons (.ite (.cmp .NotEq (.isi false [.int] (.loc 0)) (.isi false [.int] (.loc 1))) (.cons (.ret (.cst (.bool false)))
  .nil) .nil)
  (.cons (.ret (.and (.isi true [.int, .str] (.loc 0)) (.cmp .Eq (.loc 0) (.loc 1))))
  .nil)) .nil)
  (.cons (.ite (.or (.cmp .NotEq (.isi false [.tuple] (.loc 1)) (.isi false [.tuple] (.loc 0))) (.cmp .NotEq (.isi false [.list] (.loc 1)) (.isi false [.list] (.loc 0)))) (.cons (.ret (.cst (.bool false)))
  .nil) .nil)
  (.cons (.ite (.cmp .NotEq (.blt .len (.cons (.loc 0) .nil)) (.blt .len (.cons (.loc 1) .nil))) (.cons (.ret (.cst (.bool false)))
  .nil) .nil)
  (.cons (.ret (.cmp .NotIn (.cst (.bool false)) (.comp c_law_same_0 (.tup [2, 3]) (.zip (.loc 0) (.loc 1)) .nil [2, 3])))
  .nil))))))⟩
-- _law_one_of: 0 pen, 1 some
def d_law_one_of : Def Fn := ⟨2, 2, [0],
  (.cons (.ret (.idx (.loc 1) (.call .law_take (.ref 0 (.cons (.blt .len (.cons (.loc 1) .nil)) .nil)))))
  .nil)⟩
-- _law_is_integer: 0 value, 1 low, 2 high
def d_law_is_integer : Def Fn := ⟨3, 3, [],
  (.cons (.ret (.and (.isi false [.int] (.loc 0)) (.and (.not (.isi false [.bool] (.loc 0))) (.chain .LtE .LtE (.loc 1) (.loc 0) (.loc 2)))))
  .nil)⟩
-- _law_odd: 0 pen
def d_law_odd : Def Fn := ⟨1, 1, [0],
  (.cons (.ret (.call .law_one_of (.ref 0 (.cons (.lst (.cons (.cst .none) (.cons (.cst (.bool true)) (.cons (.cst (.bool false)) (.cons (.cst (.int 0)) (.cons (.cst (.int 1)) (.cons (.neg (.cst (.int 1))) (.cons (.cst (.str (Str.ofString ""))) (.cons (.cst (.str (Str.ofString "a"))) (.cons (.tup .nil) (.cons (.lst .nil) (.cons .dct0 (.cons (.tup (.cons (.cst (.int 0)) .nil)) (.cons (.tup (.cons (.cst (.int 0)) (.cons (.cst (.int 0)) .nil))) (.cons (.lst (.cons (.tup .nil) .nil)) (.cons (.tup (.cons (.tup .nil) .nil)) (.cons (.cst (.int 99)) (.cons (.bin .Pow (.cst (.int 10)) (.cst (.int 20))) .nil)))))))))))))))))) .nil))))
  .nil)⟩
-- _law_bent: 0 pen, 1 value, 2 found, 3 way, 4 k
def d_law_bent : Def Fn := ⟨2, 5, [0],
  (.cons (.ite (.and (.isi false [.int] (.loc 1)) (.cmp .Gt (.call .law_take (.ref 0 (.cons (.cst (.int 4)) .nil))) (.cst (.int 0)))) (.cons (.ret (.call .law_one_of (.ref 0 (.cons (.lst (.cons (.bin .Add (.loc 1) (.cst (.int 1))) (.cons (.bin .Sub (.loc 1) (.cst (.int 1))) (.cons (.ite (.chain .LtE .Lt (.cst (.int 0)) (.loc 1) (.cst (.int 2))) (.cmp .Eq (.loc 1) (.cst (.int 1))) (.neg (.loc 1))) (.cons (.bin .Mult (.loc 1) (.cst (.int 1000))) .nil))))) .nil))))
  .nil) .nil)
  (.cons (.ite (.or (.not (.isi true [.tuple, .list] (.loc 1))) (.or (.cmp .Eq (.blt .len (.cons (.loc 1) .nil)) (.cst (.int 0))) (.cmp .Eq (.call .law_take (.ref 0 (.cons (.cst (.int 8)) .nil))) (.cst (.int 0))))) (.cons (.ret (.call .law_odd (.ref 0 .nil)))
  .nil) .nil)
  (.cons (.par [(2, true), (3, false), (4, false)] (.cons (.blt .list (.cons (.loc 1) .nil)) (.cons (.call .law_take (.ref 0 (.cons (.cst (.int 10)) .nil))) (.cons (.call .law_take (.ref 0 (.cons (.blt .len (.cons (.loc 1) .nil)) .nil))) .nil))))
  (.cons (.ite (.cmp .Lt (.loc 3) (.cst (.int 7))) (.cons (.sto 2 (.loc 4) (.call .law_bent (.ref 0 (.cons (.idx (.loc 2) (.loc 4)) .nil))))
  .nil) (.cons (.setO 2 (.idx (.lst (.cons (.bin .Add (.slc (.loc 2) none none .nil (.cons (.loc 4) .nil)) (.slc (.loc 2) none none (.cons (.bin .Add (.loc 4) (.cst (.int 1))) .nil) .nil)) (.cons (.bin .Add (.loc 2) (.slc (.loc 2) none none (.cons (.loc 4) .nil) (.cons (.bin .Add (.loc 4) (.cst (.int 1))) .nil))) (.cons (.rev (.loc 2)) .nil)))) (.bin .Sub (.loc 3) (.cst (.int 7)))))
  .nil))
  (.cons (.ret (.ite (.cmp .Eq (.isi false [.tuple] (.loc 1)) (.cmp .Gt (.call .law_take (.ref 0 (.cons (.cst (.int 12)) .nil))) (.cst (.int 0)))) (.blt .tuple (.cons (.loc 2) .nil)) (.loc 2)))
  .nil)))))⟩
-- _law_draw_effect: 0 pen, 1 v, 2 way, 3 state
def c_law_draw_effect_0 : E Fn :=
  (.blt .min (.cons (.bin .Add (.loc 3) (.cst (.int 1))) (.cons (.bin .Sub (.loc 1) (.cst (.int 1))) .nil)))
def c_law_draw_effect_1 : E Fn :=
  (.blt .max (.cons (.bin .Sub (.loc 3) (.cst (.int 1))) (.cons (.neg (.cst (.int 1))) .nil)))
def c_law_draw_effect_2 : E Fn :=
  (.bin .Sub (.call .law_take (.ref 0 (.cons (.bin .Add (.loc 1) (.cst (.int 1))) .nil))) (.cst (.int 1)))
def d_law_draw_effect : Def Fn := ⟨2, 4, [0],
  (.cons (.set 2 (.call .law_take (.ref 0 (.cons (.cst (.int 6)) .nil))))
  (.cons (.ite (.cmp .Lt (.loc 2) (.cst (.int 2))) (.cons (.ret (.bin .Mult (.tup (.cons (.bin .Sub (.call .law_take (.ref 0 (.cons (.bin .Add (.loc 1) (.cst (.int 1))) .nil))) (.cst (.int 1))) .nil)) (.bin .Add (.loc 1) (.cst (.int 1)))))
  .nil) .nil)
  (.cons (.ite (.cmp .Lt (.loc 2) (.cst (.int 4))) (.cons (.ret (.blt .tuple (.cons (.comp c_law_draw_effect_0 (.name 3) (.rng2 (.neg (.cst (.int 1))) (.loc 1)) .nil [3]) .nil)))
  .nil) .nil)
  (.cons (.ite (.cmp .Eq (.loc 2) (.cst (.int 4))) (.cons (.ret (.blt .tuple (.cons (.comp c_law_draw_effect_1 (.name 3) (.rng2 (.neg (.cst (.int 1))) (.loc 1)) .nil [3]) .nil)))
  .nil) .nil)
  (.cons (.ret (.blt .tuple (.cons (.comp c_law_draw_effect_2 (.name 3) (.rng2 (.neg (.cst (.int 1))) (.loc 1)) .nil [3]) .nil)))
  .nil)))))⟩
-- _law_then: 0 one, 1 other, 2 state
def c_law_then_0 : E Fn :=
  (.idx (.loc 1) (.bin .Add (.loc 2) (.cst (.int 1))))
def d_law_then : Def Fn := ⟨2, 3, [],
  (.cons (.ret (.blt .tuple (.cons (.comp c_law_then_0 (.name 2) (.val (.loc 0)) .nil [2]) .nil)))
  .nil)⟩
-- _law_draw_rules: 0 pen, 1 effects, 2 often, 3 wild, 4 found, 5 same, 6 a, 7 one, 8 b, 9 other, 10 due, 11 right, 12 way, 13 state, 14 c
def c_law_draw_rules_0 : E Fn :=
  (.bin .Sub (.loc 13) (.cst (.int 1)))
def c_law_draw_rules_1 : E Fn :=
  (.loc 14)
def q_law_draw_rules_2 : Es Fn :=
  (.cons (.cmp .Eq (.idx (.loc 1) (.loc 14)) (.loc 10)) .nil)
def b_law_draw_rules_3 : Cs Fn :=
  (.cons (.set 10 (.call .law_then (.cons (.loc 7) (.cons (.loc 9) .nil))))
  (.cons (.set 11 (.bin .Add (.comp c_law_draw_rules_1 (.name 14) (.rng1 (.blt .len (.cons (.loc 1) .nil))) q_law_draw_rules_2 [14]) (.bin .Mult (.lst (.cons (.neg (.cst (.int 1))) .nil)) (.blt .int (.cons (.cmp .Eq (.loc 10) (.loc 5)) .nil)))))
  (.cons (.set 12 (.call .law_take (.ref 0 (.cons (.loc 3) .nil))))
  (.cons (.ite (.and (.cmp .NotEq (.loc 11) (.lst .nil)) (.cmp .Gt (.call .law_take (.ref 0 (.cons (.loc 2) .nil))) (.cst (.int 0)))) (.cons (.app 4 (.tup (.cons (.loc 6) (.cons (.loc 8) (.cons (.call .law_one_of (.ref 0 (.cons (.loc 11) .nil))) .nil)))))
  .nil) (.cons (.ite (.cmp .Eq (.loc 12) (.cst (.int 0))) (.cons (.app 4 (.tup (.cons (.loc 6) (.cons (.loc 8) (.cons (.bin .Sub (.call .law_take (.ref 0 (.cons (.bin .Add (.blt .len (.cons (.loc 1) .nil)) (.cst (.int 1))) .nil))) (.cst (.int 1))) .nil)))))
  .nil) .nil)
  .nil))
  .nil))))
def b_law_draw_rules_4 : Cs Fn :=
  (.cons (.for (.tup [8, 9]) (.enum (.loc 1)) b_law_draw_rules_3)
  .nil)
def d_law_draw_rules : Def Fn := ⟨4, 15, [0],
  (.cons (.par [(4, true), (5, false)] (.cons (.lst .nil) (.cons (.blt .tuple (.cons (.comp c_law_draw_rules_0 (.name 13) (.rng1 (.blt .len (.cons (.idx (.loc 1) (.cst (.int 0))) .nil))) .nil [13]) .nil)) .nil)))
  (.cons (.for (.tup [6, 7]) (.enum (.loc 1)) b_law_draw_rules_4)
  (.cons (.ret (.blt .tuple (.cons (.loc 4) .nil)))
  .nil)))⟩
-- _law_draw_scheme: 0 pen, 1 most, 2 often, 3 wild, 4 again, 5 effects, 6 written, 7 v, 8 a
def b_law_draw_scheme_0 : Cs Fn :=
  (.cons (.app 5 (.call .law_draw_effect (.ref 0 (.cons (.loc 7) .nil))))
  (.cons (.ite (.and (.cmp .Gt (.blt .len (.cons (.loc 5) .nil)) (.cst (.int 1))) (.and (.cmp .Lt (.blt .len (.cons (.loc 5) .nil)) (.loc 1)) (.cmp .Eq (.call .law_take (.ref 0 (.cons (.cst (.int 2)) .nil))) (.cst (.int 0))))) (.cons (.app 5 (.call .law_then (.cons (.idx (.loc 5) (.neg (.cst (.int 2)))) (.cons (.idx (.loc 5) (.neg (.cst (.int 1)))) .nil))))
  .nil) .nil)
  .nil))
def c_law_draw_scheme_1 : E Fn :=
  (.loc 8)
def q_law_draw_scheme_2 : Es Fn :=
  (.cons (.cmp .Gt (.call .law_take (.ref 0 (.cons (.cst (.int 3)) .nil))) (.cst (.int 0))) .nil)
def d_law_draw_scheme : Def Fn := ⟨4, 9, [0],
  (.cons (.par [(7, false), (5, true)] (.cons (.bin .Add (.cst (.int 1)) (.call .law_take (.ref 0 (.cons (.cst (.int 3)) .nil)))) (.cons (.lst .nil) .nil)))
  (.cons (.for (.name 4) (.rng1 (.bin .Add (.cst (.int 1)) (.call .law_take (.ref 0 (.cons (.loc 1) .nil))))) b_law_draw_scheme_0)
  (.cons (.setO 5 (.blt .tuple (.cons (.slc (.loc 5) none none .nil (.cons (.loc 1) .nil)) .nil)))
  (.cons (.set 6 (.blt .tuple (.cons (.comp c_law_draw_scheme_1 (.name 8) (.rng1 (.blt .len (.cons (.loc 5) .nil))) q_law_draw_scheme_2 [8]) .nil)))
  (.cons (.ite (.cmp .Eq (.loc 6) (.tup .nil)) (.cons (.set 6 (.tup (.cons (.call .law_take (.ref 0 (.cons (.blt .len (.cons (.loc 5) .nil)) .nil))) .nil)))
  .nil) .nil)
  (.cons (.ret (.tup (.cons (.loc 7) (.cons (.loc 5) (.cons (.loc 6) (.cons (.call .law_draw_rules (.ref 0 (.cons (.loc 5) (.cons (.loc 2) (.cons (.loc 3) .nil))))) .nil))))))
  .nil))))))⟩
-- _law_fold: 0 scheme, 1 row, 2 state, 3 a
def b_law_fold_0 : Cs Fn :=
  (.cons (.set 2 (.idx (.idx (.idx (.loc 0) (.cst (.int 1))) (.loc 3)) (.bin .Add (.loc 2) (.cst (.int 1)))))
  .nil)
def d_law_fold : Def Fn := ⟨3, 4, [],
  (.cons (.for (.name 3) (.val (.loc 1)) b_law_fold_0)
  (.cons (.ret (.loc 2))
  .nil))⟩
-- _law_rule: 0 scheme, 1 a, 2 b, 3 found, 4 rule
def c_law_rule_0 : E Fn :=
  (.idx (.loc 4) (.cst (.int 2)))
def q_law_rule_1 : Es Fn :=
  (.cons (.cmp .Eq (.slc (.loc 4) none none .nil (.cons (.cst (.int 2)) .nil)) (.tup (.cons (.loc 1) (.cons (.loc 2) .nil)))) .nil)
def d_law_rule : Def Fn := ⟨3, 5, [],
  (.cons (.set 3 (.comp c_law_rule_0 (.name 4) (.val (.idx (.loc 0) (.cst (.int 3)))) q_law_rule_1 [4]))
  (.cons (.ret (.ite (.cmp .NotEq (.loc 3) (.lst .nil)) (.idx (.loc 3) (.cst (.int 0))) (.cst .none)))
  .nil))⟩
-- _law_steps: 0 scheme, 1 standing, 2 found, 3 k, 4 base, 5 cells, 6 holds, 7 i, 8 a
def c_law_steps_0 : E Fn :=
  (.tup (.cons (.cst (.str (Str.ofString "let"))) (.cons (.loc 7) .nil)))
def b_law_steps_1 : Cs Fn :=
  (.cons (.ite (.and (.cmp .NotIn (.bin .Add (.loc 3) (.cst (.int 1))) (.loc 6)) (.cmp .IsNot (.call .law_rule (.cons (.loc 0) (.cons (.idx (.loc 5) (.loc 3)) (.cons (.idx (.loc 5) (.bin .Add (.loc 3) (.cst (.int 1)))) .nil)))) (.cst .none))) (.cons (.app 2 (.tup (.cons (.cst (.str (Str.ofString "merge"))) (.cons (.loc 3) .nil))))
  .nil) .nil)
  .nil)
def c_law_steps_2 : E Fn :=
  (.tup (.cons (.cst (.str (Str.ofString "write"))) (.cons (.loc 8) .nil)))
def d_law_steps : Def Fn := ⟨2, 9, [],
  (.cons (.unp [4, 5, 6] (.loc 1))
  (.cons (.setO 2 (.bin .Add (.bin .Mult (.lst (.cons (.tup (.cons (.cst (.str (Str.ofString "hold"))) .nil)) .nil)) (.blt .int (.cons (.cmp .Lt (.blt .len (.cons (.loc 6) .nil)) (.cst (.int 3))) .nil))) (.comp c_law_steps_0 (.name 7) (.rng1 (.blt .len (.cons (.loc 6) .nil))) .nil [7])))
  (.cons (.for (.name 3) (.rng1 (.bin .Sub (.blt .len (.cons (.loc 5) .nil)) (.cst (.int 1)))) b_law_steps_1)
  (.cons (.ite (.and (.cmp .NotEq (.loc 5) (.tup .nil)) (.cmp .NotIn (.cst (.int 0)) (.loc 6))) (.cons (.app 2 (.tup (.cons (.cst (.str (Str.ofString "settle"))) .nil)))
  .nil) .nil)
  (.cons (.ret (.bin .Add (.loc 2) (.comp c_law_steps_2 (.name 8) (.val (.idx (.loc 0) (.cst (.int 2)))) .nil [8])))
  .nil)))))⟩
-- _law_next: 0 scheme, 1 standing, 2 step, 3 middle, 4 less, 5 base, 6 cells, 7 holds, 8 k, 9 c, 10 p, 11 i
def c_law_next_0 : E Fn :=
  (.bin .Sub (.loc 10) (.cst (.int 1)))
def c_law_next_1 : E Fn :=
  (.loc 10)
def q_law_next_2 : Es Fn :=
  (.cons (.cmp .NotEq (.loc 11) (.idx (.loc 2) (.cst (.int 1)))) .nil)
def c_law_next_3 : E Fn :=
  (.bin .Sub (.loc 10) (.bin .Mult (.loc 4) (.blt .int (.cons (.cmp .Gt (.loc 10) (.loc 8)) .nil))))
def d_law_next : Def Fn := ⟨3, 12, [],
  (.cons (.unp [5, 6, 7] (.loc 1))
  (.cons (.ite (.cmp .Eq (.idx (.loc 2) (.cst (.int 0))) (.cst (.str (Str.ofString "write")))) (.cons (.ret (.tup (.cons (.loc 5) (.cons (.bin .Add (.loc 6) (.slc (.loc 2) none none (.cons (.cst (.int 1)) .nil) .nil)) (.cons (.loc 7) .nil)))))
  .nil) .nil)
  (.cons (.ite (.cmp .Eq (.idx (.loc 2) (.cst (.int 0))) (.cst (.str (Str.ofString "settle")))) (.cons (.ret (.tup (.cons (.call .law_fold (.cons (.loc 0) (.cons (.slc (.loc 6) none none .nil (.cons (.cst (.int 1)) .nil)) (.cons (.loc 5) .nil)))) (.cons (.slc (.loc 6) none none (.cons (.cst (.int 1)) .nil) .nil) (.cons (.blt .tuple (.cons (.comp c_law_next_0 (.name 10) (.val (.loc 7)) .nil [10]) .nil)) .nil)))))
  .nil) .nil)
  (.cons (.ite (.cmp .Eq (.idx (.loc 2) (.cst (.int 0))) (.cst (.str (Str.ofString "hold")))) (.cons (.ret (.tup (.cons (.loc 5) (.cons (.loc 6) (.cons (.bin .Add (.loc 7) (.tup (.cons (.blt .len (.cons (.loc 6) .nil)) .nil))) .nil)))))
  .nil) .nil)
  (.cons (.ite (.cmp .Eq (.idx (.loc 2) (.cst (.int 0))) (.cst (.str (Str.ofString "let")))) (.cons (.ret (.tup (.cons (.loc 5) (.cons (.loc 6) (.cons (.blt .tuple (.cons (.comp c_law_next_1 (.tup [11, 10]) (.enum (.loc 7)) q_law_next_2 [11, 10]) .nil)) .nil)))))
  .nil) .nil)
  (.cons (.par [(8, false), (9, false)] (.cons (.idx (.loc 2) (.cst (.int 1))) (.cons (.call .law_rule (.cons (.loc 0) (.cons (.idx (.loc 6) (.idx (.loc 2) (.cst (.int 1)))) (.cons (.idx (.loc 6) (.bin .Add (.idx (.loc 2) (.cst (.int 1))) (.cst (.int 1)))) .nil)))) .nil)))
  (.cons (.set 3 (.ite (.cmp .Eq (.loc 9) (.neg (.cst (.int 1)))) (.tup .nil) (.tup (.cons (.loc 9) .nil))))
  (.cons (.set 4 (.bin .Sub (.cst (.int 2)) (.blt .len (.cons (.loc 3) .nil))))
  (.cons (.ret (.tup (.cons (.loc 5) (.cons (.bin .Add (.bin .Add (.slc (.loc 6) none none .nil (.cons (.loc 8) .nil)) (.loc 3)) (.slc (.loc 6) none none (.cons (.bin .Add (.loc 8) (.cst (.int 2))) .nil) .nil)) (.cons (.blt .tuple (.cons (.comp c_law_next_3 (.name 10) (.val (.loc 7)) .nil [10]) .nil)) .nil)))))
  .nil)))))))))⟩
-- _law_is_standing: 0 scheme, 1 value, 2 base, 3 cells, 4 holds, 5 one
def c_law_is_standing_0 : E Fn :=
  (.call .law_is_integer (.cons (.loc 5) (.cons (.cst (.int 0)) (.cons (.bin .Sub (.blt .len (.cons (.idx (.loc 0) (.cst (.int 1))) .nil)) (.cst (.int 1))) .nil))))
def c_law_is_standing_1 : E Fn :=
  (.call .law_is_integer (.cons (.loc 5) (.cons (.cst (.int 0)) (.cons (.blt .len (.cons (.loc 3) .nil)) .nil))))
def d_law_is_standing : Def Fn := ⟨2, 6, [],
  (.cons (.ite (.or (.not (.isi false [.tuple] (.loc 1))) (.or (.cmp .NotEq (.blt .len (.cons (.loc 1) .nil)) (.cst (.int 3))) (.not (.call .law_is_integer (.cons (.idx (.loc 1) (.cst (.int 0))) (.cons (.neg (.cst (.int 1))) (.cons (.bin .Sub (.idx (.loc 0) (.cst (.int 0))) (.cst (.int 1))) .nil))))))) (.cons (.ret (.cst (.bool false)))
  .nil) .nil)
  (.cons (.unp [2, 3, 4] (.loc 1))
  (.cons (.ite (.or (.not (.isi false [.tuple] (.loc 3))) (.or (.not (.isi false [.tuple] (.loc 4))) (.cmp .Gt (.blt .len (.cons (.loc 4) .nil)) (.cst (.int 3))))) (.cons (.ret (.cst (.bool false)))
  .nil) .nil)
  (.cons (.ite (.cmp .In (.cst (.bool false)) (.comp c_law_is_standing_0 (.name 5) (.val (.loc 3)) .nil [5])) (.cons (.ret (.cst (.bool false)))
  .nil) .nil)
  (.cons (.ite (.cmp .In (.cst (.bool false)) (.comp c_law_is_standing_1 (.name 5) (.val (.loc 4)) .nil [5])) (.cons (.ret (.cst (.bool false)))
  .nil) .nil)
  (.cons (.ret (.cmp .Eq (.blt .list (.cons (.loc 4) .nil)) (.blt .sorted (.cons (.loc 4) .nil))))
  .nil))))))⟩
-- _law_near: 0 pen, 1 scheme, 2 standing, 3 way, 4 base, 5 cells, 6 holds, 7 odd, 8 size, 9 some
def d_law_near : Def Fn := ⟨3, 10, [0],
  (.cons (.unp [4, 5, 6] (.loc 2))
  (.cons (.set 3 (.call .law_take (.ref 0 (.cons (.cst (.int 7)) .nil))))
  (.cons (.ite (.cmp .Eq (.loc 3) (.cst (.int 0))) (.cons (.ret (.tup (.cons (.call .law_one_of (.ref 0 (.cons (.lst (.cons (.neg (.cst (.int 2))) (.cons (.neg (.cst (.int 1))) (.cons (.idx (.loc 1) (.cst (.int 0))) (.cons (.bin .Sub (.idx (.loc 1) (.cst (.int 0))) (.cst (.int 1))) (.cons (.cst (.bool true)) (.cons (.cst .none) .nil))))))) .nil))) (.cons (.loc 5) (.cons (.loc 6) .nil)))))
  .nil) .nil)
  (.cons (.ite (.cmp .Eq (.loc 3) (.cst (.int 1))) (.cons (.set 7 (.call .law_one_of (.ref 0 (.cons (.lst (.cons (.blt .len (.cons (.idx (.loc 1) (.cst (.int 1))) .nil)) (.cons (.neg (.cst (.int 1))) (.cons (.cst (.int 0)) (.cons (.cst (.bool false)) (.cons (.cst .none) .nil)))))) .nil))))
  (.cons (.ret (.tup (.cons (.loc 4) (.cons (.call .law_one_of (.ref 0 (.cons (.lst (.cons (.bin .Add (.loc 5) (.tup (.cons (.loc 7) .nil))) (.cons (.blt .list (.cons (.loc 5) .nil)) (.cons (.slc (.loc 5) none none (.cons (.cst (.int 1)) .nil) .nil) (.cons (.bin .Add (.tup (.cons (.loc 7) .nil)) (.loc 5)) .nil))))) .nil))) (.cons (.loc 6) .nil)))))
  .nil)) .nil)
  (.cons (.ite (.cmp .Lt (.loc 3) (.cst (.int 4))) (.cons (.set 8 (.blt .len (.cons (.loc 5) .nil)))
  (.cons (.set 9 (.lst (.cons (.rev (.loc 6)) (.cons (.bin .Add (.loc 6) (.tup (.cons (.loc 8) .nil))) (.cons (.bin .Add (.loc 6) (.tup (.cons (.bin .Add (.loc 8) (.cst (.int 1))) .nil))) (.cons (.bin .Add (.tup (.cons (.neg (.cst (.int 1))) .nil)) (.loc 6)) (.cons (.bin .Mult (.tup (.cons (.cst (.int 0)) .nil)) (.cst (.int 3))) (.cons (.bin .Mult (.tup (.cons (.cst (.int 0)) .nil)) (.cst (.int 4))) (.cons (.tup (.cons (.loc 8) (.cons (.cst (.int 0)) .nil))) .nil)))))))))
  (.cons (.ret (.tup (.cons (.loc 4) (.cons (.loc 5) (.cons (.call .law_one_of (.ref 0 (.cons (.bin .Add (.loc 9) (.lst (.cons (.blt .list (.cons (.loc 6) .nil)) (.cons (.tup (.cons (.cst (.bool true)) .nil)) (.cons (.tup (.cons (.cst (.bool false)) .nil)) (.cons (.tup (.cons (.cst .none) .nil)) .nil)))))) .nil))) .nil)))))
  .nil))) .nil)
  (.cons (.ite (.and (.cmp .Eq (.loc 3) (.cst (.int 4))) (.cmp .Eq (.call .law_take (.ref 0 (.cons (.cst (.int 3)) .nil))) (.cst (.int 0)))) (.cons (.set 9 (.lst (.cons (.tup (.cons (.neg (.cst (.int 2))) (.cons (.loc 5) (.cons (.bin .Add (.loc 6) (.tup (.cons (.cst (.int 9)) .nil))) .nil)))) (.cons (.tup (.cons (.idx (.loc 1) (.cst (.int 0))) (.cons (.bin .Add (.loc 5) (.tup (.cons (.neg (.cst (.int 1))) .nil))) (.cons (.loc 6) .nil)))) (.cons (.tup (.cons (.loc 4) (.cons (.tup (.cons (.cst (.int 9)) .nil)) (.cons (.tup (.cons (.cst (.int 5)) .nil)) .nil)))) .nil)))))
  (.cons (.ret (.call .law_one_of (.ref 0 (.cons (.loc 9) .nil))))
  .nil)) .nil)
  (.cons (.ite (.cmp .Eq (.loc 3) (.cst (.int 4))) (.cons (.ret (.call .law_one_of (.ref 0 (.cons (.lst (.cons (.slc (.loc 2) none none .nil (.cons (.cst (.int 2)) .nil)) (.cons (.blt .list (.cons (.loc 2) .nil)) (.cons (.bin .Add (.loc 2) (.tup (.cons (.cst (.int 0)) .nil))) (.cons (.tup (.cons (.loc 5) (.cons (.loc 4) (.cons (.loc 6) .nil)))) (.cons (.cst .none) .nil)))))) .nil))))
  .nil) .nil)
  (.cons (.ret (.call .law_bent (.ref 0 (.cons (.loc 2) .nil))))
  .nil))))))))⟩
-- law: 0 script, 1 pen, 2 turn, 3 again, 4 value, 5 scheme, 6 standing, 7 text
def b_law_0 : Cs Fn :=
  (.cons (.set 6 (.call .law_next (.cons (.loc 5) (.cons (.loc 6) (.cons (.call .law_one_of (.ref 1 (.cons (.call .law_steps (.cons (.loc 5) (.cons (.loc 6) .nil))) .nil))) .nil)))))
  .nil)
def c_law_1 : E Fn :=
  (.call .law_near (.ref 1 (.cons (.loc 5) (.cons (.loc 6) .nil))))
def b_law_2 : Cs Fn :=
  (.cons (.set 7 (.blt .repr (.cons (.loc 4) .nil)))
  (.cons (.ite (.or (.not (.call .law_same (.cons (.call .is_standing (.cons (.loc 5) (.cons (.loc 4) .nil))) (.cons (.call .law_is_standing (.cons (.loc 5) (.cons (.loc 4) .nil))) .nil)))) (.cmp .NotEq (.blt .repr (.cons (.loc 4) .nil)) (.loc 7))) (.cons (.ret (.cst (.bool false)))
  .nil) .nil)
  .nil))
def b_law_3 : Cs Fn :=
  (.cons (.par [(5, false), (6, false)] (.cons (.call .law_draw_scheme (.ref 1 (.cons (.cst (.int 5)) (.cons (.cst (.int 3)) (.cons (.cst (.int 6)) .nil))))) (.cons (.tup (.cons (.neg (.cst (.int 1))) (.cons (.tup .nil) (.cons (.tup .nil) .nil)))) .nil)))
  (.cons (.for (.name 3) (.rng1 (.call .law_take (.ref 1 (.cons (.cst (.int 9)) .nil)))) b_law_0)
  (.cons (.for (.name 4) (.val (.bin .Add (.lst (.cons (.loc 6) (.cons (.cst .none) (.cons (.tup .nil) (.cons .dct0 .nil))))) (.comp c_law_1 (.name 3) (.rng1 (.cst (.int 12))) .nil [3]))) b_law_2)
  .nil)))
def d_law : Def Fn := ⟨1, 8, [],
  (.cons (.setO 1 (.call .law_open (.cons (.loc 0) .nil)))
  (.cons (.for (.name 2) (.rng1 (.cst (.int 3))) b_law_3)
  (.cons (.ret (.cst (.bool true)))
  .nil)))⟩
def T : Fn → Def Fn
  | .is_integer => d_is_integer
  | .is_within => d_is_within
  | .are_positions => d_are_positions
  | .is_standing => d_is_standing
  | .law_open => d_law_open
  | .law_spread => d_law_spread
  | .law_take => d_law_take
  | .law_same => d_law_same
  | .law_one_of => d_law_one_of
  | .law_is_integer => d_law_is_integer
  | .law_odd => d_law_odd
  | .law_bent => d_law_bent
  | .law_draw_effect => d_law_draw_effect
  | .law_then => d_law_then
  | .law_draw_rules => d_law_draw_rules
  | .law_draw_scheme => d_law_draw_scheme
  | .law_fold => d_law_fold
  | .law_rule => d_law_rule
  | .law_steps => d_law_steps
  | .law_next => d_law_next
  | .law_is_standing => d_law_is_standing
  | .law_near => d_law_near
  | .law => d_law

end LW

namespace LW
open PySem SP
section
variable {v : Int} {Ls : List (List Int)} {wr rs : List PyData} {ws : List Int} {Rs : List (Int × Int × Int)} {most : Nat}
theorem spread_ev (k : Nat) (cell at' : Int) (h0 : 0 ≤ at') (h1 : at' ≤ 1000000000) : ∃ r : Int, evF T (k + 1) .law_spread [.dat (.int cell), .dat (.int at')] = some (.dat (.int r), []) := by
  refine wv fun W hW => ?_
  rw [v_fn, v_run hW rfl (by decide) rfl]
  have p1 : binD .Pow (.int 10) (.int 18) = some (.dat (.int 1000000000000000000)) := by rw [y_pow (by decide) (by decide) (by decide)]; rfl
  by_cases hc : (1000000000000000000 : Int) ≤ cell
  · exact ⟨cell, by simp [T, d_law_spread, p1, hc]⟩
  · have m13 : ∀ i : Int, ∃ p : Int, 0 < p ∧ p < 2147483648 ∧ idxD (.list [.int 2147483629, .int 2147483587, .int 2147483579, .int 2147483563, .int 2147483549, .int 2147483543, .int 2147483497, .int 2147483489, .int 2147483477, .int 2147483423, .int 2147483399, .int 2147483353, .int 2147483323]) (.int (i % 13)) = some (.int p) := by
      intro i
      have h2 : 0 ≤ i % 13 := Int.emod_nonneg _ (by decide)
      have h3 : i % 13 < 13 := Int.emod_lt_of_pos _ (by decide)
      obtain ⟨n, hn⟩ : ∃ n : Nat, i % 13 = n := ⟨(i % 13).toNat, by omega⟩
      rw [hn] at h3 ⊢
      have h4 : n < 13 := by omega
      have : n = 0 ∨ n = 1 ∨ n = 2 ∨ n = 3 ∨ n = 4 ∨ n = 5 ∨ n = 6 ∨ n = 7 ∨ n = 8 ∨ n = 9 ∨ n = 10 ∨ n = 11 ∨ n = 12 := by omega
      rcases this with rfl | rfl | rfl | rfl | rfl | rfl | rfl | rfl | rfl | rfl | rfl | rfl | rfl <;> exact ⟨_, by decide, by decide, y_ixL rfl⟩
    obtain ⟨q1, q1a, q1b, e1⟩ := m13 at'
    obtain ⟨q2, q2a, q2b, e2⟩ := m13 (at' + 5)
    obtain ⟨q3, q3a, q3b, e3⟩ := m13 (at' + 7)
    have c0 : 0 ≤ cell % 1000000007 := Int.emod_nonneg _ (by decide)
    have c1 : cell % 1000000007 < 1000000007 := Int.emod_lt_of_pos _ (by decide)
    have c2 : 0 ≤ cell % 65537 := Int.emod_nonneg _ (by decide)
    have c3 : cell % 65537 < 65537 := Int.emod_lt_of_pos _ (by decide)
    have p2 : binD .Add (.list [.int 2147483629, .int 2147483587, .int 2147483579, .int 2147483563, .int 2147483549, .int 2147483543, .int 2147483497, .int 2147483489]) (.list [.int 2147483477, .int 2147483423, .int 2147483399, .int 2147483353, .int 2147483323]) = some (.own (.lst [.int 2147483629, .int 2147483587, .int 2147483579, .int 2147483563, .int 2147483549, .int 2147483543, .int 2147483497, .int 2147483489, .int 2147483477, .int 2147483423, .int 2147483399, .int 2147483353, .int 2147483323])) := by rw [y_cat (by decide)]; rfl
    have b1 : 0 ≤ cell % 1000000007 * (2 * at' + 69069) := Int.mul_nonneg c0 (by omega)
    have b2 : cell % 1000000007 * (2 * at' + 69069) ≤ 1000000007 * 2000069069 := Int.mul_le_mul (by omega) (by omega) (by omega) (by decide)
    generalize hy : cell % 1000000007 * (2 * at' + 69069) = y at *
    have d0 : 0 ≤ (y + at' * 40503 + 977) ^ 3 % q1 := Int.emod_nonneg _ (by omega)
    have d1 : (y + at' * 40503 + 977) ^ 3 % q1 < q1 := Int.emod_lt_of_pos _ q1a
    generalize hone : (y + at' * 40503 + 977) ^ 3 % q1 = one at *
    have b3 : 0 ≤ one * (at' + 3) := Int.mul_nonneg d0 (by omega)
    have b4 : one * (at' + 3) ≤ 2147483648 * 1000000003 := Int.mul_le_mul (by omega) (by omega) (by omega) (by decide)
    generalize hz : one * (at' + 3) = z at *
    have d2 : 0 ≤ (z + cell % 65537 + 5) ^ 5 % q2 := Int.emod_nonneg _ (by omega)
    have d3 : (z + cell % 65537 + 5) ^ 5 % q2 < q2 := Int.emod_lt_of_pos _ q2a
    generalize htwo : (z + cell % 65537 + 5) ^ 5 % q2 = two at *
    have d4 : 0 ≤ (two + one % 1009 + at') ^ 3 % q3 := Int.emod_nonneg _ (by omega)
    have d5 : (two + one % 1009 + at') ^ 3 % q3 < q3 := Int.emod_lt_of_pos _ q3a
    refine ⟨(one * 2147483647 + two) * 2147483647 + (two + one % 1009 + at') ^ 3 % q3, ?_⟩
    simp (disch := omega) [T, d_law_spread, p1, hc, szMax, p2, y_mul, y_mod, y_pow, e1, e2, e3, hy, hone, hz, htwo]

theorem take_ev (k b : Nat) (m : MO) (amount : Int) (h : PenOk b m) (hb : b ≤ 1000000000) (h1 : 1 ≤ amount) (h2 : amount < 1073741824) :
    ∃ (r : Int) (m' : MO), evF T (k + 2) .law_take [.own m, .dat (.int amount)] = some (.dat (.int r), [m']) ∧ 0 ≤ r ∧ r < amount ∧ PenOk (b + 1) m' := by
  obtain ⟨cells, a, x, rfl, ha⟩ := h
  have r0 : ∀ y : Int, 0 ≤ y % amount := fun y => Int.emod_nonneg _ (by omega)
  have r1 : ∀ y : Int, y % amount < amount := fun y => Int.emod_lt_of_pos _ (by omega)
  obtain ⟨P, hP, p1⟩ : ∃ P : Int, 0 < P ∧ binD .Pow (.int 10) (.int 17) = some (.dat (.int P)) := ⟨100000000000000000, by decide, by rw [y_pow (by decide) (by decide) (by decide)]; rfl⟩
  refine wv fun W hW => ?_
  rw [v_fn, v_run hW rfl (by decide) rfl]
  by_cases hx : x < amount
  · by_cases g1 : (a : Int) < cells.length
    · have g1' : a < cells.length := by omega
      obtain ⟨z, hz⟩ := spread_ev k cells[a] a (by omega) (by omega)
      refine ⟨z % amount, .lst [.list (cells.map .int), .int ((a : Int) + 1), .int (z / amount)], ?_, r0 _, r1 _, cells, a + 1, _, rfl, by omega⟩
      simp -implicitDefEqProofs (disch := omega) [T, d_law_take, hx, g1, ix_ints, hz, y_mod, y_fdiv, List.length_map]
    · by_cases g2 : 0 < cells.length
      · have e0 : 0 ≤ ((a : Int) * 5 + 3) % cells.length := Int.emod_nonneg _ (by omega)
        have e1 : ((a : Int) * 5 + 3) % cells.length < cells.length := Int.emod_lt_of_pos _ (by omega)
        obtain ⟨j, hj⟩ : ∃ j : Nat, ((a : Int) * 5 + 3) % cells.length = j := ⟨(((a : Int) * 5 + 3) % cells.length).toNat, by omega⟩
        have hjl : j < cells.length := by omega
        obtain ⟨z, hz⟩ := spread_ev k (cells[j] % (P + a)) a (by omega) (by omega)
        refine ⟨z % amount, .lst [.list (cells.map .int), .int ((a : Int) + 1), .int (z / amount)], ?_, r0 _, r1 _, cells, a + 1, _, rfl, by omega⟩
        simp -implicitDefEqProofs (disch := omega) [T, d_law_take, hx, g1, g2, ix_ints, hz, y_mul, y_mod, y_fdiv, List.length_map, p1, hj]
      · obtain ⟨z, hz⟩ := spread_ev k 0 a (by omega) (by omega)
        refine ⟨z % amount, .lst [.list (cells.map .int), .int ((a : Int) + 1), .int (z / amount)], ?_, r0 _, r1 _, cells, a + 1, _, rfl, by omega⟩
        simp -implicitDefEqProofs (disch := omega) [T, d_law_take, hx, g1, g2, ix_ints, hz, y_mul, y_mod, y_fdiv, List.length_map, p1]
  · refine ⟨x % amount, .lst [.list (cells.map .int), .int a, .int (x / amount)], ?_, r0 _, r1 _, cells, a, _, rfl, by omega⟩
    simp -implicitDefEqProofs (disch := omega) [T, d_law_take, hx, y_mod, y_fdiv]
end
section
variable {v : Int} {Ls : List (List Int)} {wr rs : List PyData} {ws : List Int} {Rs : List (Int × Int × Int)} {most : Nat}
theorem one_of_ev (k b : Nat) (m : MO) (xs : List PyData) (h : PenOk b m) (hb : b ≤ 1000000000) (h1 : xs ≠ []) (h2 : xs.length < 1073741824) :
    ∃ (r : PyData) (m' : MO), evF T (k + 3) .law_one_of [.own m, .dat (.list xs)] = some (.dat r, [m']) ∧ r ∈ xs ∧ PenOk (b + 1) m' := by
  have hl : 0 < xs.length := List.length_pos_iff.mpr h1
  obtain ⟨r, m', e, q0, q1, q2⟩ := take_ev k b m xs.length h hb (by omega) (by omega)
  obtain ⟨n, rfl⟩ : ∃ n : Nat, r = n := ⟨r.toNat, by omega⟩
  have hn : n < xs.length := by omega
  refine ⟨xs[n], m', ?_, List.getElem_mem hn, q2⟩
  have e2 : idxD (.list xs) (.int (n : Int)) = some xs[n] := y_ixL (List.getElem?_eq_getElem hn)
  refine wv fun W hW => ?_
  rw [v_fn, v_run hW rfl (by decide) rfl]
  simp -implicitDefEqProofs (disch := omega) [T, d_law_one_of, e, e2]
end
section
variable {v : Int} {Ls : List (List Int)} {wr rs : List PyData} {ws : List Int} {Rs : List (Int × Int × Int)} {most : Nat}
theorem draw_effect_ev (k b : Nat) (m : MO) (v : Int) (h : PenOk b m) (hb : b ≤ 999999000) (h1 : 1 ≤ v) (h2 : v ≤ 4) :
    ∃ (r : PyData) (m' : MO), evF T (k + 3) .law_draw_effect [.own m, .dat (.int v)] = some (.dat r, [m']) ∧ EffOk v r ∧ PenOk (b + 6) m' := by
  obtain ⟨way, m1, e1, w0, w1, hm1⟩ := take_ev k b m 6 h (by omega) (by omega) (by omega)
  have hok : okRng (-1) v = true := ok_rng (by omega) (by omega) (by omega) (by omega)
  have hlen : (rngL (-1) v).length = v.toNat + 1 := by rw [rngL_len]; omega
  have fin : ∀ {ys : List PyData}, ys.length = (rngL (-1) v).length → (∀ y ∈ ys, Ints v y) → EffOk v (.tuple ys) := fun {ys} hl hy => by
    obtain ⟨l, rfl, c⟩ := ints_of hy
    exact ⟨l, rfl, by rw [List.length_map] at hl; omega, c⟩
  refine wv fun W hW => ?_
  rw [v_fn, v_run hW rfl (by decide) rfl]
  by_cases c1 : way < 2
  · obtain ⟨r, m2, e2, r0, r1, hm2⟩ := take_ev k (b + 1) m1 (v + 1) hm1 (by omega) (by omega) (by omega)
    refine ⟨.tuple (List.replicate (v + 1).toNat [PyData.int (r - 1)]).flatten, m2, ?_, ?_, hm2.mono (by omega)⟩
    · simp -implicitDefEqProofs (disch := omega) [T, d_law_draw_effect, e1, e2, c1, szMax]
      rw [y_repT (by simp; omega)]
      simp
    · have hf : (List.replicate (v + 1).toNat [PyData.int (r - 1)]).flatten = (List.replicate (v + 1).toNat (r - 1)).map PyData.int := by
        generalize (v + 1).toNat = n
        induction n with
        | zero => rfl
        | succ n ih => rw [List.replicate_succ, List.flatten_cons, ih, List.replicate_succ]; rfl
      rw [hf]
      exact ⟨_, rfl, by simp; omega, fun x hx => by
        rw [List.mem_replicate] at hx
        omega⟩
  · have hmap : ∀ (elt : E Fn) (g : Int → Int) (m' : MO), (∀ i : Int, evE (evF T (k + 2)) elt [some (.own m'), some (.dat (.int v)), some (.dat (.int way)), some (.dat (.int i))] = some (.dat (.int (g i)), [some (.own m'), some (.dat (.int v)), some (.dat (.int way)), some (.dat (.int i))])) →
        (∀ i, -1 ≤ i → i < v → -1 ≤ g i ∧ g i < v) → ∃ ys, turnsE (evF T (k + 2)) elt .nil (.name 3) [3] (rngL (-1) v) [some (.own m'), some (.dat (.int v)), some (.dat (.int way)), none] = some (ys, [some (.own m'), some (.dat (.int v)), some (.dat (.int way)), none]) ∧ ys.length = (rngL (-1) v).length ∧ ∀ y ∈ ys, Ints v y := by
      intro elt g m' he hg
      refine ⟨_, comp_map (fun d => match d with | .int i => .int (g i) | d => d) fun d hd => ?_, by rw [List.length_map], fun y hy => ?_⟩
      · obtain ⟨i, rfl, i0, i1⟩ := rngL_mem hd
        exact ⟨_, _, _, rfl, he i, rfl, rfl⟩
      · obtain ⟨d, hd, rfl⟩ := List.mem_map.mp hy
        obtain ⟨i, rfl, i0, i1⟩ := rngL_mem hd
        exact ⟨g i, rfl, hg i i0 i1⟩
    by_cases c2 : way < 4
    · obtain ⟨ys, hc, hl, hy⟩ := hmap c_law_draw_effect_0 (fun i => if v - 1 < i + 1 then v - 1 else i + 1) m1 (fun i => by simp [c_law_draw_effect_0, c_law_draw_effect_1]) (fun i _ _ => by split <;> omega)
      refine ⟨_, m1, ?_, fin hl hy, hm1.mono (by omega)⟩
      have hys : ys.length ≤ 1000000 := by omega
      simp -implicitDefEqProofs (disch := omega) [T, d_law_draw_effect, e1, c1, c2, hok, hc, szMax, hys]
    · by_cases c3 : way = 4
      · subst c3
        obtain ⟨ys, hc, hl, hy⟩ := hmap c_law_draw_effect_1 (fun i => if -1 > i - 1 then -1 else i - 1) m1 (fun i => by simp [c_law_draw_effect_0, c_law_draw_effect_1]) (fun i _ _ => by split <;> omega)
        refine ⟨_, m1, ?_, fin hl hy, hm1.mono (by omega)⟩
        have hys : ys.length ≤ 1000000 := by omega
        simp -implicitDefEqProofs (disch := omega) [T, d_law_draw_effect, e1, hok, hc, szMax, hys]
      · obtain ⟨ys, ρ', hc, ⟨m2, hm2, hρ⟩, hy, hl⟩ := comp_all (Φ := evF T (k + 2)) (tg := .name 3) (own := [3]) (elt := c_law_draw_effect_2) (ds := rngL (-1) v)
          (fun j ρ => ∃ m', PenOk (b + 1 + j) m' ∧ ρ = [some (.own m'), some (.dat (.int v)), some (.dat (.int way)), none]) (Ints v) (ρ := [some (.own m1), some (.dat (.int v)), some (.dat (.int way)), none]) ⟨m1, hm1, rfl⟩ (fun j d ρ hd ⟨m', hm', hρ⟩ => by
            subst hρ
            have hj : j < (rngL (-1) v).length := (List.getElem?_eq_some_iff.mp hd).1
            obtain ⟨i, rfl, i0, i1⟩ := rngL_mem (List.mem_of_getElem? hd)
            obtain ⟨r, m2, e2, r0, r1, hm2⟩ := take_ev k (b + 1 + j) m' (v + 1) hm' (by omega) (by omega) (by omega)
            refine ⟨_, (.dat (.int (r - 1)), [some (.own m2), some (.dat (.int v)), some (.dat (.int way)), some (.dat (.int i))]), .int (r - 1), _, rfl, ?_, rfl, ⟨r - 1, rfl, by omega, by omega⟩, m2, hm2, rfl⟩
            simp -implicitDefEqProofs [e2, c_law_draw_effect_2])
        subst hρ
        refine ⟨_, m2, ?_, fin hl hy, hm2.mono (by omega)⟩
        have hys : ys.length ≤ 1000000 := by omega
        simp -implicitDefEqProofs (disch := omega) [T, d_law_draw_effect, e1, c1, c2, c3, hok, hc, szMax, hys]
end
section
variable {v : Int} {Ls : List (List Int)} {wr rs : List PyData} {ws : List Int} {Rs : List (Int × Int × Int)} {most : Nat}
theorem then_ev (k : Nat) (v : Int) (d e : PyData) (hd : EffOk v d) (he : EffOk v e) (hv : v ≤ 1000) : ∃ r, evF T (k + 1) .law_then [.dat d, .dat e] = some (.dat r, []) ∧ EffOk v r := by
  obtain ⟨l, rfl, hl, hlx⟩ := hd
  obtain ⟨l', rfl, hl', hlx'⟩ := he
  obtain ⟨ys, ρ', hc, hρ, hy, hn⟩ := comp_all (Φ := evF T k) (tg := .name 2) (own := [2]) (elt := c_law_then_0) (ds := l.map .int)
    (fun j ρ => ρ = [some (.dat (iT l)), some (.dat (iT l')), none]) (Ints v) rfl (fun j d ρ hd hρ => by
      subst hρ
      obtain ⟨s, hs, rfl⟩ := List.mem_map.mp (List.mem_of_getElem? hd)
      obtain ⟨x, hx, _, e2⟩ := eff_at hl' (hlx s hs).1 (hlx s hs).2
      refine ⟨_, (.dat (.int x), [some (.dat (iT l)), some (.dat (iT l')), some (.dat (.int s))]), .int x, _, rfl, ?_, rfl, ⟨x, rfl, hlx' x hx⟩, rfl⟩
      simp -implicitDefEqProofs [e2, c_law_then_0])
  subst hρ
  obtain ⟨r, rfl, hr⟩ := ints_of hy
  rw [List.length_map, List.length_map] at hn
  refine ⟨iT r, ?_, r, rfl, by omega, hr⟩
  refine wv fun W hW => ?_
  rw [v_fn, v_run hW rfl (by decide) rfl]
  have hit : itemsD (iT l) = some (l.map .int) := rfl
  have hr' : r.length ≤ 1000000 := by omega
  simp -implicitDefEqProofs (disch := omega) [T, d_law_then, hc, szMax, hit, hr']
  rfl
end
section
variable {v : Int} {Ls : List (List Int)} {wr rs : List PyData} {ws : List Int} {Rs : List (Int × Int × Int)} {most : Nat}
theorem rules_body (k : Nat) {n : Nat} {E : List PyData} {often wild v : Int} {same : PyData} (hE : E.length = n) (hn : n ≤ 100) (ho : ∀ d ∈ E, EffOk v d) (hv : v ≤ 1000) (hs : EffOk v same) (h1 : 1 ≤ often) (h2 : often < 1073741824) (h3 : 1 ≤ wild) (h4 : wild < 1073741824)
    {W : Nat} {c b a bb : Nat} (hb : b ≤ 999000000) (hc : c ≤ 100000) (ha : a < n) (hbb : bb < n) {one other : PyData} (e1 : E[a]? = some one) (e2 : E[bb]? = some other) {m : MO} {fs : List PyData} {s10 s11 s12 : Option Sl} (hm : PenOk b m) (hf : ∀ f ∈ fs, RuleOk n f) (hl : fs.length ≤ c) :
    ∃ ρ2, evB (evF T (k + 3)) W b_law_draw_rules_3 [some (.own m), some (.dat (.tuple E)), some (.dat (.int often)), some (.dat (.int wild)), some (.own (.lst fs)), some (.dat same), some (.dat (.int a)), some (.dat one), some (.dat (.int bb)), some (.dat other), s10, s11, s12, none, none] = some (.nx ρ2) ∧ RI n E often wild same (some (.dat (.int a))) (some (.dat one)) (c + 1) (b + 3) ρ2 := by
  have ho1 := ho one (List.mem_of_getElem? e1)
  have ho2 := ho other (List.mem_of_getElem? e2)
  obtain ⟨due, e3, hd⟩ := then_ev (k + 2) v one other ho1 ho2 hv
  obtain ⟨way, m1, e4, w0, w1, hm1⟩ := take_ev (k + 1) b m wild hm (by omega) h3 h4
  obtain ⟨u, m2, e5, u0, u1, hm2⟩ := take_ev (k + 1) (b + 1) m1 often hm1 (by omega) h1 h2
  have hr : okRng 0 (E.length : Int) = true := ok_rng (by omega) (by omega) (by omega) (by omega)
  obtain ⟨cs, ρ', hcc, hρ, hcs, hcl⟩ := comp_inv (Φ := evF T (k + 3)) (tg := .name 14) (own := [14]) (elt := c_law_draw_rules_1) (cond := q_law_draw_rules_2) (ds := rngL 0 (E.length : Int))
    (fun j ρ => ρ = [some (.own m), some (.dat (.tuple E)), some (.dat (.int often)), some (.dat (.int wild)), some (.own (.lst fs)), some (.dat same), some (.dat (.int a)), some (.dat one), some (.dat (.int bb)), some (.dat other), some (.dat due), s11, s12, none, none]) (Ints n) rfl (fun j d ρ hd' hρ => by
      subst hρ
      obtain ⟨i, rfl, i0, i1⟩ := rngL_mem (List.mem_of_getElem? hd')
      obtain ⟨p, rfl⟩ : ∃ p : Nat, i = p := ⟨i.toNat, by omega⟩
      have hp : p < E.length := by omega
      have e6 : idxD (.tuple E) (.int (p : Int)) = some E[p] := y_ixT (List.getElem?_eq_getElem hp)
      have e7 : cmpD .Eq E[p] due = some (PyData.eqv E[p] due) := eq_sm (sm_eff (ho _ (List.getElem_mem hp))) (sm_eff hd)
      refine ⟨_, PyData.eqv E[p] due, _, rfl, by simp -implicitDefEqProofs [e6, e7, q_law_draw_rules_2]; rfl, ?_⟩
      cases PyData.eqv E[p] due with
      | true => exact ⟨_, .int p, _, rfl, rfl, ⟨p, rfl, by omega, by omega⟩, rfl⟩
      | false => exact rfl)
  subst hρ
  have e8 : cmpD .Eq due same = some (PyData.eqv due same) := eq_sm (sm_eff hd) (sm_eff hs)
  -- what is right
  obtain ⟨right, e9, hright⟩ : ∃ right : List PyData, (binD .Mult (.list [.int (-1)]) (.int (if PyData.eqv due same = true then 1 else 0)) = some (.own (.lst (if PyData.eqv due same = true then [.int (-1)] else []))) ∧ right = cs ++ if PyData.eqv due same = true then [.int (-1)] else []) ∧ ∀ d ∈ right, Ints n d := by
    refine ⟨_, ⟨?_, rfl⟩, fun d hd => ?_⟩
    · rw [y_repL (by split <;> simp)]
      cases PyData.eqv due same <;> rfl
    · rcases List.mem_append.mp hd with hd | hd
      · exact hcs d hd
      · split at hd
        · rw [List.mem_singleton] at hd
          exact ⟨-1, hd, by omega, by omega⟩
        · cases hd
  have hrl : right.length ≤ n + 1 := by
    rw [e9.2, List.length_append]
    have : (rngL 0 (E.length : Int)).length = n := by rw [rngL_len]; omega
    split <;> simp <;> omega
  have hsm : sm deepest (.list right) = true := by
    obtain ⟨l, rfl, _⟩ := ints_of hright
    show sm (59 + 1) _ = true
    simp [sm, sm_ints]
  have hcat : binD .Add (.list cs) (.list (if PyData.eqv due same = true then [.int (-1)] else [])) = some (.own (.lst right)) := by
    rw [y_cat (by rw [← List.length_append, ← e9.2]; have : szMax = 1000000 := rfl; omega), ← e9.2]
  have hcsl : cs.length ≤ 1000000 := by
    have : (rngL 0 (E.length : Int)).length = n := by rw [rngL_len]; omega
    omega
  have hfl : fs.length < 1000000 := by omega
  have e10 : cmpD .NotEq (.list right) (.list []) = some (!PyData.eqv (.list right) (.list [])) := ne_sm hsm rfl
  have hna : PyData.eqv (.list right) (.list []) = right.isEmpty := by cases right <;> simp [PyData.eqv, PyData.eqvAll]
  rw [hna] at e10
  have rok : ∀ z : Int, -1 ≤ z → z < n → RuleOk n (.tuple [.int a, .int bb, .int z]) := fun z z0 z1 => ⟨a, bb, z, rfl, by omega, by omega, by omega, by omega, z0, z1⟩
  have fin : ∀ {m' : MO} {d11 d12 : Option Sl} {f : PyData}, PenOk (b + 3) m' → RuleOk n f → RI n E often wild same (some (.dat (.int a))) (some (.dat one)) (c + 1) (b + 3) [some (.own m'), some (.dat (.tuple E)), some (.dat (.int often)), some (.dat (.int wild)), some (.own (.lst (fs ++ [f]))), some (.dat same), some (.dat (.int a)), some (.dat one), some (.dat (.int bb)), some (.dat other), some (.dat due), d11, d12, none, none] :=
    fun {m' d11 d12 f} hm' hf' => ⟨m', fs ++ [f], _, _, _, _, _, hm', fun g hg => by
      rcases List.mem_append.mp hg with hg | hg
      · exact hf g hg
      · rw [List.mem_singleton] at hg; exact hg ▸ hf', by simp; omega, rfl⟩
  have fin0 : ∀ {m' : MO} {d11 d12 : Option Sl}, PenOk (b + 3) m' → RI n E often wild same (some (.dat (.int a))) (some (.dat one)) (c + 1) (b + 3) [some (.own m'), some (.dat (.tuple E)), some (.dat (.int often)), some (.dat (.int wild)), some (.own (.lst fs)), some (.dat same), some (.dat (.int a)), some (.dat one), some (.dat (.int bb)), some (.dat other), some (.dat due), d11, d12, none, none] :=
    fun {m' d11 d12} hm' => ⟨m', fs, _, _, _, _, _, hm', hf, by omega, rfl⟩
  -- a wild rule
  have wildly : ∀ {m' : MO}, PenOk (b + 2) m' → ∃ z m3, evF T (k + 3) .law_take [.own m', .dat (.int ((E.length : Int) + 1))] = some (.dat (.int z), [m3]) ∧ 0 ≤ z ∧ z < (E.length : Int) + 1 ∧ PenOk (b + 3) m3 := fun {m'} hm' => take_ev (k + 1) (b + 2) m' _ hm' (by omega) (by omega) (by omega)
  by_cases hne : right = []
  · have e10' := e10
    rw [hne] at e10'
    by_cases hw : way = 0
    · obtain ⟨z, m3, e11, z0, z1, hm3⟩ := wildly (hm1.mono (by omega) : PenOk (b + 2) m1)
      refine ⟨_, ?_, fin (d11 := some (.dat (.list right))) (d12 := some (.dat (.int way))) hm3 (rok (z - 1) (by omega) (by omega))⟩
      subst hw
      simp -implicitDefEqProofs (disch := omega) [b_law_draw_rules_3, szMax, e3, hr, hcc, hcsl, e8, e9.1, hcat, e4, e10', hne, e11, hfl]
    · refine ⟨_, ?_, fin0 (d11 := some (.dat (.list right))) (d12 := some (.dat (.int way))) (hm1.mono (by omega))⟩
      simp -implicitDefEqProofs (disch := omega) [b_law_draw_rules_3, szMax, e3, hr, hcc, hcsl, e8, e9.1, hcat, e4, e10', hne, hw, hfl]
  · have hne' : right.isEmpty = false := by
      cases hq : right with
      | nil => exact absurd hq hne
      | cons => rfl
    by_cases hu : 0 < u
    · obtain ⟨x, m3, e11, hx, hm3⟩ := one_of_ev k (b + 2) m2 right hm2 (by omega) hne (by omega)
      obtain ⟨z, rfl, z0, z1⟩ := hright x hx
      refine ⟨_, ?_, fin (d11 := some (.dat (.list right))) (d12 := some (.dat (.int way))) hm3 (rok z z0 z1)⟩
      simp -implicitDefEqProofs (disch := omega) [b_law_draw_rules_3, szMax, e3, hr, hcc, hcsl, e8, e9.1, hcat, e4, e10, hne', e5, hu, e11, hfl]
    · by_cases hw : way = 0
      · obtain ⟨z, m3, e11, z0, z1, hm3⟩ := wildly hm2
        refine ⟨_, ?_, fin (d11 := some (.dat (.list right))) (d12 := some (.dat (.int way))) hm3 (rok (z - 1) (by omega) (by omega))⟩
        subst hw
        simp -implicitDefEqProofs (disch := omega) [b_law_draw_rules_3, szMax, e3, hr, hcc, hcsl, e8, e9.1, hcat, e4, e10, hne', e5, hu, e11, hfl]
      · refine ⟨_, ?_, fin0 (d11 := some (.dat (.list right))) (d12 := some (.dat (.int way))) (hm2.mono (by omega))⟩
        simp -implicitDefEqProofs (disch := omega) [b_law_draw_rules_3, szMax, e3, hr, hcc, hcsl, e8, e9.1, hcat, e4, e10, hne', e5, hu, hw, hfl]
theorem draw_rules_ev (k b n : Nat) (m : MO) (E : List PyData) (often wild v : Int) (h : PenOk b m) (hE : E.length = n) (hn : n ≤ 100) (hn0 : 1 ≤ n) (ho : ∀ d ∈ E, EffOk v d) (hv : v ≤ 1000) (hv0 : 0 ≤ v) (h1 : 1 ≤ often) (h2 : often < 1073741824) (h3 : 1 ≤ wild) (h4 : wild < 1073741824) (hb : b ≤ 900000000) :
    ∃ (rs : List PyData) (m' : MO), evF T (k + 4) .law_draw_rules [.own m, .dat (.tuple E), .dat (.int often), .dat (.int wild)] = some (.dat (.tuple rs), [m']) ∧ (∀ f ∈ rs, RuleOk n f) ∧ rs.length ≤ n * n ∧ PenOk (b + 3 * (n * n)) m' := by
  have hnn : n * n ≤ 100 * 100 := Nat.mul_le_mul hn hn
  obtain ⟨e0, he0⟩ : ∃ e0, E[0]? = some e0 := ⟨E[0], List.getElem?_eq_getElem (by omega)⟩
  have hi0 : idxD (.tuple E) (.int 0) = some e0 := y_ixT (k := 0) he0
  obtain ⟨l0, rfl, hl0, _⟩ := ho e0 (List.mem_of_getElem? he0)
  have hlen : bltD .len [iT l0] = some (.dat (.int (v + 1))) := by
    show bltD .len [.tuple (l0.map .int)] = _
    rw [y_len2, List.length_map, hl0]
  have hr : okRng 0 (v + 1) = true := ok_rng (by omega) (by omega) (by omega) (by omega)
  obtain ⟨ys, ρ', hc, hρ, hy, hyl⟩ := comp_all (Φ := evF T (k + 3)) (tg := .name 13) (own := [13]) (elt := c_law_draw_rules_0) (ds := rngL 0 (v + 1))
    (fun j ρ => ρ = [some (.own m), some (.dat (.tuple E)), some (.dat (.int often)), some (.dat (.int wild)), none, none, none, none, none, none, none, none, none, none, none]) (Ints v) rfl (fun j d ρ hd hρ => by
      subst hρ
      obtain ⟨i, rfl, i0, i1⟩ := rngL_mem (List.mem_of_getElem? hd)
      exact ⟨_, _, _, _, rfl, (by simp -implicitDefEqProofs [c_law_draw_rules_0]; rfl), rfl, ⟨i - 1, rfl, by omega, by omega⟩, rfl⟩)
  subst hρ
  obtain ⟨ls, rfl, hls⟩ := ints_of hy
  rw [List.length_map, rngL_len] at hyl
  have hsame : EffOk v (.tuple (ls.map .int)) := ⟨ls, rfl, by omega, hls⟩
  have hysl : ls.length ≤ 1000000 := by omega
  have hseq : seqD (.tuple E) = some E := rfl
  refine wv fun W hW => ?_
  have inner : ∀ (i : Nat) (one : PyData) (ρ : SP.Env), E[i]? = some one → RI n E often wild (.tuple (ls.map .int)) (some (.dat (.int i))) (some (.dat one)) (i * n) (b + 3 * (i * n)) ρ → ∃ ρ2, evB (evF T (k + 3)) W b_law_draw_rules_4 ρ = some (.nx ρ2) ∧ RI n E often wild (.tuple (ls.map .int)) (some (.dat (.int i))) (some (.dat one)) ((i + 1) * n) (b + 3 * ((i + 1) * n)) ρ2 := by
    intro i one ρ hone h0
    have hi : i < n := by rw [← hE]; exact (List.getElem?_eq_some_iff.mp hone).1
    have hin : i * n ≤ 99 * n := Nat.mul_le_mul_right n (by omega)
    obtain ⟨ρ2, f1, f2⟩ := for_inv (Φ := evF T (k + 3)) (W := W) (tg := .tup [8, 9]) (b := b_law_draw_rules_3) (ds := E.zipIdx.map fun (x, i) => PyData.tuple [.int (i : Nat), x])
      (fun j ρ => RI n E often wild (.tuple (ls.map .int)) (some (.dat (.int i))) (some (.dat one)) (i * n + j) (b + 3 * (i * n + j)) ρ) (ρ := ρ) h0 (fun j d ρ hd ⟨m', fs, s8, s9, s10, s11, s12, p1, p2, p3, p4⟩ => by
        subst p4
        obtain ⟨other, ho2, rfl⟩ := zip_at hd
        have hj : j < n := by rw [← hE]; exact (List.getElem?_eq_some_iff.mp ho2).1
        obtain ⟨ρ2, g1, g2⟩ := rules_body k (W := W) hE hn ho hv hsame h1 h2 h3 h4 (b := b + 3 * (i * n + j)) (c := i * n + j) (by omega) (by omega) hi hj hone ho2 (s10 := s10) (s11 := s11) (s12 := s12) p1 p2 p3
        exact ⟨_, _, ρ2, rfl, g1, .inl rfl, g2⟩)
    rw [List.length_map, List.length_zipIdx, hE] at f2
    refine ⟨ρ2, ?_, by rw [Nat.succ_mul]; exact f2⟩
    obtain ⟨m', fs, s8, s9, s10, s11, s12, p1, p2, p3, rfl⟩ := h0
    simp -implicitDefEqProofs [b_law_draw_rules_4, hseq]
    simp -implicitDefEqProofs at f1
    rw [f1]
    rfl
  obtain ⟨ρ2, f1, f2⟩ := for_inv (Φ := evF T (k + 3)) (W := W) (tg := .tup [6, 7]) (b := b_law_draw_rules_4) (ds := E.zipIdx.map fun (x, i) => PyData.tuple [.int (i : Nat), x])
      (fun i ρ => ∃ s6 s7, RI n E often wild (.tuple (ls.map .int)) s6 s7 (i * n) (b + 3 * (i * n)) ρ) (ρ := [some (.own m), some (.dat (.tuple E)), some (.dat (.int often)), some (.dat (.int wild)), some (.own (.lst [])), some (.dat (.tuple (ls.map .int))), none, none, none, none, none, none, none, none, none])
      ⟨none, none, m, [], _, _, _, _, _, h.mono (by omega), (fun _ z => by cases z), by simp, rfl⟩ (fun i d ρ hd ⟨s6, s7, m', fs, s8, s9, s10, s11, s12, p1, p2, p3, p4⟩ => by
        subst p4
        obtain ⟨one, ho2, rfl⟩ := zip_at hd
        obtain ⟨ρ2, g1, g2⟩ := inner i one _ ho2 ⟨m', fs, s8, s9, s10, s11, s12, p1, p2, p3, rfl⟩
        exact ⟨_, _, ρ2, rfl, g1, .inl rfl, _, _, g2⟩)
  rw [List.length_map, List.length_zipIdx, hE] at f2
  obtain ⟨s6, s7, m', fs, s8, s9, s10, s11, s12, p1, p2, p3, rfl⟩ := f2
  refine ⟨fs, m', ?_, p2, p3, p1⟩
  rw [v_fn, v_run hW rfl (by decide) rfl]
  simp -implicitDefEqProofs [T, d_law_draw_rules, hi0, hlen, hr, hc, szMax, hysl, hseq]
  simp -implicitDefEqProofs at f1
  rw [f1]
  rfl
end
section
variable {v : Int} {Ls : List (List Int)} {wr rs : List PyData} {ws : List Int} {Rs : List (Int × Int × Int)} {most : Nat}
theorem scheme_body (k : Nat) {W most : Nat} {often wild v : Int} {b : Nat} {m : MO} {fs : List PyData} {s4 s6 s8 : Option Sl} (hmost : most ≤ 100) (hv : 1 ≤ v) (hv3 : v ≤ 3) (hm : PenOk b m) (hb : b ≤ 900000000) (hf : ∀ f ∈ fs, EffOk v f) (hl : fs.length ≤ 1000) :
    ∃ m' fs', evB (evF T (k + 4)) W b_law_draw_scheme_0 [some (.own m), some (.dat (.int most)), some (.dat (.int often)), some (.dat (.int wild)), s4, some (.own (.lst fs)), s6, some (.dat (.int v)), s8] =
      some (.nx [some (.own m'), some (.dat (.int most)), some (.dat (.int often)), some (.dat (.int wild)), s4, some (.own (.lst fs')), s6, some (.dat (.int v)), s8]) ∧ PenOk (b + 7) m' ∧ (∀ f ∈ fs', EffOk v f) ∧ fs.length + 1 ≤ fs'.length ∧ fs'.length ≤ fs.length + 2 := by
  obtain ⟨e, m1, e1, he, hm1⟩ := draw_effect_ev (k + 1) b m v hm (by omega) hv (by omega)
  have hfl : fs.length < 1000000 := by omega
  have hf1 : ∀ f ∈ fs ++ [e], EffOk v f := fun f h => by
    rcases List.mem_append.mp h with h | h
    · exact hf f h
    · rw [List.mem_singleton] at h; exact h ▸ he
  by_cases c1 : 1 < fs.length + 1
  · by_cases c2 : fs.length + 1 < most
    · obtain ⟨u, m2, e2, u0, u1, hm2⟩ := take_ev (k + 2) (b + 6) m1 2 hm1 (by omega) (by omega) (by omega)
      have c1' : (1 : Int) < (fs.length : Int) + 1 := by omega
      have c2' : (fs.length : Int) + 1 < most := by omega
      by_cases c3 : u = 0
      · have hx : ∃ x, (fs ++ [e])[(fs ++ [e]).length - 2]? = some x := ⟨(fs ++ [e])[(fs ++ [e]).length - 2]'(by simp; omega), List.getElem?_eq_getElem _⟩
        obtain ⟨x, hx⟩ := hx
        have i2 : idxD (.list (fs ++ [e])) (.int (-2)) = some x := y_ixLn (j := 2) (by omega) (by simp; omega) hx
        have i1 : idxD (.list (fs ++ [e])) (.int (-1)) = some e := y_ixLn (j := 1) (by omega) (by simp) (by simp)
        obtain ⟨r, e3, hr⟩ := then_ev (k + 3) v x e (hf1 x (List.mem_of_getElem? hx)) he (by omega)
        subst c3
        have hfl2 : fs.length + 1 < 1000000 := by omega
        refine ⟨m2, fs ++ [e] ++ [r], ?_, hm2.mono (by omega), fun f h => ?_, by simp, by simp⟩
        · simp -implicitDefEqProofs (disch := omega) [b_law_draw_scheme_0, e1, szMax, hfl, hfl2, c1', c2', e2, i1, i2, e3]
        · rcases List.mem_append.mp h with h | h
          · exact hf1 f h
          · rw [List.mem_singleton] at h; exact h ▸ hr
      · refine ⟨m2, fs ++ [e], ?_, hm2.mono (by omega), hf1, by simp, by simp⟩
        simp -implicitDefEqProofs (disch := omega) [b_law_draw_scheme_0, e1, szMax, hfl, c1', c2', e2, c3]
    · have c1' : (1 : Int) < (fs.length : Int) + 1 := by omega
      have c2' : ¬ (fs.length : Int) + 1 < most := by omega
      refine ⟨m1, fs ++ [e], ?_, hm1.mono (by omega), hf1, by simp, by simp⟩
      simp -implicitDefEqProofs (disch := omega) [b_law_draw_scheme_0, e1, szMax, hfl, c1', c2']
  · have c1' : ¬ (1 : Int) < (fs.length : Int) + 1 := by omega
    refine ⟨m1, fs ++ [e], ?_, hm1.mono (by omega), hf1, by simp, by simp⟩
    simp -implicitDefEqProofs (disch := omega) [b_law_draw_scheme_0, e1, szMax, hfl, c1']

theorem draw_scheme_ev (k b most : Nat) (m : MO) (often wild : Int) (h : PenOk b m) (hb : b ≤ 800000000) (hm0 : 1 ≤ most) (hmost : most ≤ 100) (h1 : 1 ≤ often) (h2 : often < 1073741824) (h3 : 1 ≤ wild) (h4 : wild < 1073741824) :
    ∃ (S : PyData) (m' : MO), evF T (k + 5) .law_draw_scheme [.own m, .dat (.int most), .dat (.int often), .dat (.int wild)] = some (.dat S, [m']) ∧ SchOk most S ∧ PenOk (b + 100000) m' := by
  obtain ⟨v0, m1, e1, v1, v2, hm1⟩ := take_ev (k + 2) b m 3 h (by omega) (by omega) (by omega)
  obtain ⟨t, m2, e2, t0, t1, hm2⟩ := take_ev (k + 2) (b + 1) m1 most hm1 (by omega) (by omega) (by omega)
  have hr : okRng 0 (1 + t) = true := ok_rng (by omega) (by omega) (by omega) (by omega)
  have hrl : (rngL 0 (1 + t)).length = t.toNat + 1 := by rw [rngL_len]; omega
  refine wv fun W hW => ?_
  obtain ⟨ρ2, f1, f2⟩ := for_inv (Φ := evF T (k + 4)) (W := W) (tg := .name 4) (b := b_law_draw_scheme_0) (ds := rngL 0 (1 + t))
    (fun j ρ => ∃ m' fs s4, ρ = [some (.own m'), some (.dat (.int most)), some (.dat (.int often)), some (.dat (.int wild)), s4, some (.own (.lst fs)), none, some (.dat (.int (1 + v0))), none] ∧ PenOk (b + 2 + 7 * j) m' ∧ (∀ f ∈ fs, EffOk (1 + v0) f) ∧ j ≤ fs.length ∧ fs.length ≤ 2 * j)
    (ρ := [some (.own m2), some (.dat (.int most)), some (.dat (.int often)), some (.dat (.int wild)), none, some (.own (.lst [])), none, some (.dat (.int (1 + v0))), none])
    ⟨m2, [], none, rfl, hm2, (fun _ z => by cases z), by simp, by simp⟩ (fun j d ρ hd ⟨m', fs, s4, hρ, p1, p2, p3, p4⟩ => by
      subst hρ
      have hj : j < (rngL 0 (1 + t)).length := (List.getElem?_eq_some_iff.mp hd).1
      obtain ⟨m3, fs', g1, g2, g3, g4, g5⟩ := scheme_body k (W := W) (most := most) (often := often) (wild := wild) (v := 1 + v0) (s4 := some (.dat d)) (s6 := none) (s8 := none) hmost (by omega) (by omega) p1 (by omega) p2 (by omega)
      exact ⟨_, _, _, rfl, g1, .inl rfl, m3, fs', _, rfl, g2.mono (by omega), g3, by omega, by omega⟩)
  rw [hrl] at f2
  obtain ⟨m3, fs, s4, rfl, hm3, hfs, l1, l2⟩ := f2
  -- the effects that are left
  obtain ⟨E, hEd⟩ : ∃ E, E = fs.take most := ⟨_, rfl⟩
  have hEl : 1 ≤ E.length ∧ E.length ≤ most := by rw [hEd, List.length_take]; omega
  have hE : ∀ d ∈ E, EffOk (1 + v0) d := fun d hd => hfs d (List.mem_of_mem_take (hEd ▸ hd))
  have hcut : slcD (.list fs) none (some (most : Int)) = some (.own (.lst E)) := by
    show some (Sl.own (.lst (cutL fs none (some (most : Int))))) = _
    rw [cut_to (by omega), hEd]
    simp
  have hr2 : okRng 0 (E.length : Int) = true := ok_rng (by omega) (by omega) (by omega) (by omega)
  have hr2l : (rngL 0 (E.length : Int)).length = E.length := by rw [rngL_len]; omega
  obtain ⟨ws, ρ', hc, ⟨m4, hm4, hρ⟩, hw, hwl⟩ := comp_inv (Φ := evF T (k + 4)) (tg := .name 8) (own := [8]) (elt := c_law_draw_scheme_1) (cond := q_law_draw_scheme_2) (ds := rngL 0 (E.length : Int))
    (fun j ρ => ∃ m', PenOk (b + 1000 + j) m' ∧ ρ = [some (.own m'), some (.dat (.int most)), some (.dat (.int often)), some (.dat (.int wild)), s4, some (.dat (.tuple E)), none, some (.dat (.int (1 + v0))), none]) (fun d => ∃ i : Int, d = .int i ∧ 0 ≤ i ∧ i < E.length)
    (ρ := [some (.own m3), some (.dat (.int most)), some (.dat (.int often)), some (.dat (.int wild)), s4, some (.dat (.tuple E)), none, some (.dat (.int (1 + v0))), none]) ⟨m3, hm3.mono (by omega), rfl⟩ (fun j d ρ hd ⟨m', p1, hρ⟩ => by
      subst hρ
      have hj : j < (rngL 0 (E.length : Int)).length := (List.getElem?_eq_some_iff.mp hd).1
      obtain ⟨i, rfl, i0, i1⟩ := rngL_mem (List.mem_of_getElem? hd)
      obtain ⟨u, m5, g1, u0, u1, g2⟩ := take_ev (k + 2) (b + 1000 + j) m' 3 p1 (by omega) (by omega) (by omega)
      refine ⟨_, decide (0 < u), _, rfl, by simp -implicitDefEqProofs [q_law_draw_scheme_2, g1]; rfl, ?_⟩
      cases decide (0 < u) with
      | true => exact ⟨_, .int i, _, rfl, rfl, ⟨i, rfl, i0, i1⟩, m5, g2, rfl⟩
      | false => exact ⟨m5, g2, rfl⟩)
  subst hρ
  rw [hr2l] at hm4 hwl
  have hwl2 : ws.length ≤ 1000000 := by omega
  have hEl2 : E.length ≤ 1000000 := by omega
  have hwsm : sm deepest (.tuple ws) = true := by
    obtain ⟨l, rfl, _⟩ : ∃ l : List Int, ws = l.map .int ∧ True := by
      clear hwl2 hwl hc
      induction ws with
      | nil => exact ⟨[], rfl, trivial⟩
      | cons w r ih =>
        obtain ⟨i, rfl, _⟩ := hw w (List.mem_cons_self ..)
        obtain ⟨l, rfl, _⟩ := ih fun d hd => hw d (List.mem_cons_of_mem _ hd)
        exact ⟨i :: l, rfl, trivial⟩
    show sm (59 + 1) _ = true
    simp [sm, sm_ints]
  have heq : cmpD .Eq (.tuple ws) (.tuple []) = some ws.isEmpty := by
    rw [eq_sm hwsm rfl]
    cases ws <;> simp [PyData.eqv, PyData.eqvAll]
  have hneq : E.length * E.length ≤ 100 * 100 := Nat.mul_le_mul (by omega) (by omega)
  by_cases hwe : ws = []
  · obtain ⟨u, m5, g1, u0, u1, g2⟩ := take_ev (k + 2) (b + 1000 + E.length) m4 E.length hm4 (by omega) (by omega) (by omega)
    obtain ⟨rs, m6, g3, g4, g5, g6⟩ := draw_rules_ev k (b + 1000 + E.length + 1) E.length m5 E often wild (1 + v0) g2 rfl (by omega) hEl.1 hE (by omega) (by omega) h1 h2 h3 h4 (by omega)
    refine ⟨.tuple [.int (1 + v0), .tuple E, .tuple [.int u], .tuple rs], m6, ?_, ⟨1 + v0, E, [.int u], rs, rfl, by omega, by omega, hEl.1, hEl.2, hE, fun d hd => ?_, by simp, by simp; omega, g4, g5⟩, g6.mono (by omega)⟩
    · rw [v_fn, v_run hW rfl (by decide) rfl]
      subst hwe
      simp -implicitDefEqProofs at heq
      simp -implicitDefEqProofs [T, d_law_draw_scheme, e1, e2, hr, f1, hcut, hr2, hc, szMax, heq, g1, g3]
    · rw [List.mem_singleton] at hd
      exact ⟨u, hd, u0, u1⟩
  · have hwe' : ws.isEmpty = false := by
      cases hq : ws with
      | nil => exact absurd hq hwe
      | cons => rfl
    obtain ⟨rs, m6, g3, g4, g5, g6⟩ := draw_rules_ev k (b + 1000 + E.length) E.length m4 E often wild (1 + v0) hm4 rfl (by omega) hEl.1 hE (by omega) (by omega) h1 h2 h3 h4 (by omega)
    refine ⟨.tuple [.int (1 + v0), .tuple E, .tuple ws, .tuple rs], m6, ?_, ⟨1 + v0, E, ws, rs, rfl, by omega, by omega, hEl.1, hEl.2, hE, hw, List.length_pos_iff.mpr hwe, hwl, g4, g5⟩, g6.mono (by omega)⟩
    rw [v_fn, v_run hW rfl (by decide) rfl]
    rw [hwe'] at heq
    simp -implicitDefEqProofs [T, d_law_draw_scheme, e1, e2, hr, f1, hcut, hr2, hc, szMax, hwl2, heq, g3]
end
section
variable {v : Int} {Ls : List (List Int)} {wr rs : List PyData} {ws : List Int} {Rs : List (Int × Int × Int)} {most : Nat}
/-- same(x, x) -/
theorem same_refl : ∀ (n k : Nat) (x : PyData), smz n x = true → evF T (k + n + 1) .law_same [.dat x, .dat x] = some (.dat (.bool true), [])
  | n, k, .none, _ => by
    refine wv fun W hW => ?_
    rw [v_fn, v_run hW rfl (by decide) rfl]
    simp -implicitDefEqProofs [T, d_law_same]
  | n, k, .bool b, _ => by
    refine wv fun W hW => ?_
    rw [v_fn, v_run hW rfl (by decide) rfl]
    have e : cmpD .Eq (.bool b) (.bool b) = some true := by cases b <;> rfl
    simp -implicitDefEqProofs [T, d_law_same, isTy, e]
  | n, k, .int i, _ => by
    refine wv fun W hW => ?_
    rw [v_fn, v_run hW rfl (by decide) rfl]
    have e : cmpD .NotEq (.bool true) (.bool true) = some false := rfl
    simp -implicitDefEqProofs [T, d_law_same, isTy, e]
  | n, k, .str s, _ => by
    refine wv fun W hW => ?_
    rw [v_fn, v_run hW rfl (by decide) rfl]
    have e : cmpD .NotEq (.bool false) (.bool false) = some false := rfl
    have e2 : cmpD .Eq (.str s) (.str s) = some true := by simp [cmpD, eqD, sm, deepest, PyData.eqv]
    have e3 : isNoneD (.str s) = false := rfl
    simp -implicitDefEqProofs [T, d_law_same, isTy, e, e2, e3]
  | n + 1, k, .tuple xs, h => by
    simp only [smz, Bool.and_eq_true, decide_eq_true_eq] at h
    have ih : ∀ x ∈ xs, evF T (k + (n + 1)) .law_same [.dat x, .dat x] = some (.dat (.bool true), []) := fun x hx => same_refl n k x (smzAll_mem h.2 x hx)
    refine wv fun W hW => ?_
    rw [v_fn, v_run hW rfl (by decide) rfl]
    have e : cmpD .NotEq (.bool true) (.bool true) = some false := rfl
    have e1 : cmpD .NotEq (.bool false) (.bool false) = some false := rfl
    have hz : zipD (.tuple xs) (.tuple xs) = some (xs.map fun x => .tuple [x, x]) := by
      exact congrArg some (zip_self xs)
    have hc := comp_map (Φ := evF T (k + (n + 1))) (tg := .tup [2, 3]) (own := [2, 3]) (elt := c_law_same_0) (ρ := [some (.dat (.tuple xs)), some (.dat (.tuple xs)), none, none]) (fun _ => .bool true) (ds := xs.map fun x => .tuple [x, x]) fun d hd => by
      obtain ⟨x, hx, rfl⟩ := List.mem_map.mp hd
      exact ⟨_, _, _, rfl, (by simp -implicitDefEqProofs [c_law_same_0, ih x hx]; rfl), rfl, rfl⟩
    have hb : cmpD .NotIn (.bool false) (.list (xs.map ((fun _ => PyData.bool true) ∘ fun x => PyData.tuple [x, x]))) = some true := bools_false xs
    have hl := h.1
    rw [show szMax = 1000000 from rfl] at hl
    simp -implicitDefEqProofs [T, d_law_same, isTy, e, e1, hz, hc, hb, hl, szMax]
  | n + 1, k, .list xs, h => by
    simp only [smz, Bool.and_eq_true, decide_eq_true_eq] at h
    have ih : ∀ x ∈ xs, evF T (k + (n + 1)) .law_same [.dat x, .dat x] = some (.dat (.bool true), []) := fun x hx => same_refl n k x (smzAll_mem h.2 x hx)
    refine wv fun W hW => ?_
    rw [v_fn, v_run hW rfl (by decide) rfl]
    have e : cmpD .NotEq (.bool true) (.bool true) = some false := rfl
    have e1 : cmpD .NotEq (.bool false) (.bool false) = some false := rfl
    have hz : zipD (.list xs) (.list xs) = some (xs.map fun x => .tuple [x, x]) := by
      exact congrArg some (zip_self xs)
    have hc := comp_map (Φ := evF T (k + (n + 1))) (tg := .tup [2, 3]) (own := [2, 3]) (elt := c_law_same_0) (ρ := [some (.dat (.list xs)), some (.dat (.list xs)), none, none]) (fun _ => .bool true) (ds := xs.map fun x => .tuple [x, x]) fun d hd => by
      obtain ⟨x, hx, rfl⟩ := List.mem_map.mp hd
      exact ⟨_, _, _, rfl, (by simp -implicitDefEqProofs [c_law_same_0, ih x hx]; rfl), rfl, rfl⟩
    have hb : cmpD .NotIn (.bool false) (.list (xs.map ((fun _ => PyData.bool true) ∘ fun x => PyData.tuple [x, x]))) = some true := bools_false xs
    have hl := h.1
    rw [show szMax = 1000000 from rfl] at hl
    simp -implicitDefEqProofs [T, d_law_same, isTy, e, e1, hz, hc, hb, hl, szMax]
end
section
variable {v : Int} {Ls : List (List Int)} {wr rs : List PyData} {ws : List Int} {Rs : List (Int × Int × Int)} {most : Nat}
theorem lfold_ev (k : Nat) (h : EffL v Ls) {row : List Int} {s : Int} (hr : ∀ a ∈ row, 0 ≤ a ∧ a < Ls.length) (s0 : -1 ≤ s) (s1 : s < v) : evF T (k + 1) .law_fold [.dat (encS v Ls wr rs), .dat (iT row), .dat (.int s)] = some (.dat (.int (fld Ls row s)), []) := by
  refine wv fun W hW => ?_
  rw [v_fn, v_run hW rfl (by decide) rfl]
  obtain ⟨ρ2, f1, s3, f2⟩ := for_inv (Φ := evF T k) (W := W) (tg := .name 3) (b := b_law_fold_0) (ds := row.map .int)
    (fun j ρ => ∃ s3, ρ = [some (.dat (encS v Ls wr rs)), some (.dat (iT row)), some (.dat (.int (fld Ls (row.take j) s))), s3])
    (ρ := [some (.dat (encS v Ls wr rs)), some (.dat (iT row)), some (.dat (.int s)), none]) ⟨none, rfl⟩ (fun j d ρ hd ⟨s3, hρ⟩ => by
      subst hρ
      rw [List.getElem?_map] at hd
      obtain ⟨a, ha, rfl⟩ := Option.map_eq_some_iff.mp hd
      obtain ⟨b, c⟩ := fld_ok h (row := row.take j) (s := s) (fun x hx => hr x (List.mem_of_mem_take hx)) s0 s1
      obtain ⟨y, e1, e2, _⟩ := stp_ok h (hr a (List.mem_of_getElem? ha)).1 (hr a (List.mem_of_getElem? ha)).2 b c
      refine ⟨_, _, _, rfl, ?_, .inl rfl, some (.dat (.int a)), by rw [fld_take ha]⟩
      simp -implicitDefEqProofs [b_law_fold_0, encS, e1, e2])
  subst f2
  rw [List.length_map, List.take_length] at f1
  have hit : itemsD (iT row) = some (row.map .int) := rfl
  simp -implicitDefEqProofs [T, d_law_fold, hit]
  rw [f1]
  simp -implicitDefEqProofs
end
section
variable {v : Int} {Ls : List (List Int)} {wr rs : List PyData} {ws : List Int} {Rs : List (Int × Int × Int)} {most : Nat}
theorem law_rule_ev (k : Nat) (a b : Int) (hl : Rs.length ≤ 1000000) : evF T (k + 1) .law_rule [.dat (encS v Ls wr (Rs.map encR)), .dat (.int a), .dat (.int b)] = some (.dat (ruleOf Rs a b), []) := by
  have hix : idxD (encS v Ls wr (Rs.map encR)) (.int 3) = some (.tuple (Rs.map encR)) := by unfold encS; exact y_ix3
  have hc := comp_filter (Φ := evF T k) (tg := .name 4) (own := [4]) (elt := c_law_rule_0) (cond := q_law_rule_1) (ρ := [some (.dat (encS v Ls wr (Rs.map encR))), some (.dat (.int a)), some (.dat (.int b)), none, none])
    (fun d => match d with | .tuple [_, _, z] => z | d => d) (fun d => match d with | .tuple [.int p, .int q, _] => decide (p = a) && decide (q = b) | _ => false) (ds := Rs.map encR) fun d hd => by
      obtain ⟨r, hr, rfl⟩ := List.mem_map.mp hd
      exact ⟨_, rfl, (by simp -implicitDefEqProofs [q_law_rule_1, encR, cut2, eq_pair, szMax]), rfl, fun _ => ⟨_, _, (by simp -implicitDefEqProofs [c_law_rule_0, encR]; rfl), rfl, rfl⟩⟩
  have hm : ((Rs.map encR).filter fun d => match d with | .tuple [.int p, .int q, _] => decide (p = a) && decide (q = b) | _ => false).map (fun d => match d with | .tuple [_, _, z] => z | d => d) = ((Rs.filter (hits a b)).map fun r => r.2.2).map PyData.int := by
    rw [List.filter_map, List.map_map, List.map_map]
    rfl
  rw [hm] at hc
  have hfl : (Rs.filter (hits a b)).length ≤ 1000000 := Nat.le_trans (List.length_filter_le ..) hl
  have hne : ∀ l : List Int, cmpD .NotEq (.list (l.map .int)) (.list []) = some (!l.isEmpty) := fun l => by
    rw [ne_sm (by show sm (59 + 1) _ = true; simp [sm, sm_ints]) rfl]
    cases l <;> simp [PyData.eqv, PyData.eqvAll]
  have hh : ruleOf Rs a b = match (Rs.filter (hits a b)).map fun r => r.2.2 with | [] => .none | z :: _ => .int z := by
    unfold ruleOf
    rw [← List.head?_filter]
    cases Rs.filter (hits a b) <;> rfl
  rw [hh]
  refine wv fun W hW => ?_
  rw [v_fn, v_run hW rfl (by decide) rfl]
  have hfl' : ((Rs.filter (hits a b)).map fun r => r.2.2).length ≤ 1000000 := by rw [List.length_map]; exact hfl
  generalize ((Rs.filter (hits a b)).map fun r => r.2.2) = l at *
  have hn := hne l
  cases l with
  | nil =>
    simp -implicitDefEqProofs at hc hn
    simp -implicitDefEqProofs [T, d_law_rule, hix, hc, hn, szMax]
  | cons z r =>
    simp -implicitDefEqProofs at hc hn hfl'
    simp -implicitDefEqProofs [T, d_law_rule, hix, hc, hn, szMax, hfl']
end
section
variable {v : Int} {Ls : List (List Int)} {wr rs : List PyData} {ws : List Int} {Rs : List (Int × Int × Int)} {most : Nat}
theorem open_ev (k : Nat) (ns : List Int) (hn : ns.length ≤ 63) : ∃ m, evF T (k + 1) .law_open [.dat (.list (ns.map .int))] = some (.own m, []) ∧ PenOk 0 m := by
  have h1 : slcD (.list (ns.map .int)) none (some 12) = some (.own (.lst ((ns.take 12).map PyData.int))) := by
    show some (Sl.own (.lst (cutL (ns.map .int) none (some 12)))) = _
    rw [cut_to (by decide), List.map_take]; rfl
  obtain ⟨rest, hrest, hrl⟩ : ∃ rest : List Int, slcD (.list (ns.map .int)) (some 12) (some 63) = some (.own (.lst (rest.map PyData.int))) ∧ (ns.length ≤ 12 → rest = []) := by
    refine ⟨(ns.drop 12).take (min 63 ns.length - min 12 ns.length), ?_, fun h => ?_⟩
    · show some (Sl.own (.lst (cutL (ns.map .int) (some 12) (some 63)))) = _
      rw [cut_from (by decide) (by decide), List.map_take, List.map_drop, List.length_map]; rfl
    · rw [List.drop_eq_nil_of_le h]; simp
  refine wv fun W hW => ?_
  obtain ⟨ρ2, f1, cs, s2, s3, rfl, hcs⟩ := for_inv (Φ := evF T k) (W := W) (tg := .tup [2, 3]) (b := b_law_open_0) (ds := (rest.map PyData.int).zipIdx.map fun (x, i) => PyData.tuple [.int (i : Nat), x])
    (fun j ρ => ∃ (cs : List Int) (s2 s3 : Option Sl), ρ = [some (.dat (.list (ns.map .int))), some (.own (.lst (cs.map .int))), s2, s3] ∧ cs.length = min 12 ns.length)
    (ρ := [some (.dat (.list (ns.map .int))), some (.own (.lst ((ns.take 12).map PyData.int))), none, none]) ⟨ns.take 12, none, none, rfl, by simp⟩ (fun j d ρ hd ⟨cs, s2, s3, hρ, hcs⟩ => by
      subst hρ
      obtain ⟨x, hx, rfl⟩ := zip_at hd
      rw [List.getElem?_map] at hx
      obtain ⟨z, hz, rfl⟩ := Option.map_eq_some_iff.mp hx
      have h12 : 12 < ns.length := by
        by_cases q : ns.length ≤ 12
        · rw [hrl q] at hz; simp at hz
        · omega
      have hcl : cs.length = 12 := by omega
      have m0 : 0 ≤ (j : Int) % 12 := Int.emod_nonneg _ (by decide)
      have m1 : (j : Int) % 12 < 12 := Int.emod_lt_of_pos _ (by decide)
      obtain ⟨p, hp⟩ : ∃ p : Nat, (j : Int) % 12 = p := ⟨((j : Int) % 12).toNat, by omega⟩
      have hpl : p < cs.length := by omega
      have e1 := ix_ints (cells := cs) hpl
      have e2 : stoM (.lst (cs.map PyData.int)) (.int (p : Int)) (.int (cs[p] + z)) = some (.lst ((cs.set p (cs[p] + z)).map PyData.int)) := by
        rw [y_st (by rw [List.length_map]; exact hpl), List.map_set]
      refine ⟨_, _, [some (.dat (.list (ns.map .int))), some (.own (.lst ((cs.set p (cs[p] + z)).map .int))), some (.dat (.int j)), some (.dat (.int z))], rfl, ?_, .inl rfl, cs.set p (cs[p] + z), _, _, rfl, by rw [List.length_set]; exact hcs⟩
      simp -implicitDefEqProofs (disch := omega) [b_law_open_0, y_mod, hp, e1, e2])
  refine ⟨.lst [.list (cs.map .int), .int 0, .int 0], ?_, cs, 0, 0, rfl, Nat.le_refl _⟩
  rw [v_fn, v_run hW rfl (by decide) rfl]
  simp -implicitDefEqProofs [T, d_law_open, h1, hrest, szMax]
  simp -implicitDefEqProofs at f1
  rw [f1]
  simp -implicitDefEqProofs [szMax]
end
section
variable {v : Int} {Ls : List (List Int)} {wr rs : List PyData} {ws : List Int} {Rs : List (Int × Int × Int)} {most : Nat}
theorem law_steps_loop (k W : Nat) {s : St} (o : StOk v Ls.length s) (hrl : Rs.length ≤ 1000000) (X : List Stp) (hX : X.length ≤ 1000) :
    ∃ s3, forE (evF T (k + 1)) W (.name 3) b_law_steps_1 ((List.range (s.cs.length - 1)).map fun i => .int ((i : Nat) : Int)) [some (.dat (encS v Ls (ws.map .int) (Rs.map encR))), some (.dat (encT s)), some (.own (.lst (X.map encP))), none, some (.dat (.int s.b)), some (.dat (iT s.cs)), some (.dat (iT s.hs)), none, none] =
      some (.nx [some (.dat (encS v Ls (ws.map .int) (Rs.map encR))), some (.dat (encT s)), some (.own (.lst ((X ++ mgP Rs s (s.cs.length - 1)).map encP))), s3, some (.dat (.int s.b)), some (.dat (iT s.cs)), some (.dat (iT s.hs)), none, none]) := by
  have hcl := o.cl
  obtain ⟨ρ2, f1, s3, f2⟩ := for_inv (Φ := evF T (k + 1)) (W := W) (tg := .name 3) (b := b_law_steps_1) (ds := (List.range (s.cs.length - 1)).map fun i => .int ((i : Nat) : Int))
    (fun j ρ => ∃ s3, ρ = [some (.dat (encS v Ls (ws.map .int) (Rs.map encR))), some (.dat (encT s)), some (.own (.lst ((X ++ mgP Rs s j).map encP))), s3, some (.dat (.int s.b)), some (.dat (iT s.cs)), some (.dat (iT s.hs)), none, none])
    (ρ := [some (.dat (encS v Ls (ws.map .int) (Rs.map encR))), some (.dat (encT s)), some (.own (.lst (X.map encP))), none, some (.dat (.int s.b)), some (.dat (iT s.cs)), some (.dat (iT s.hs)), none, none]) ⟨none, by simp [mgP]⟩ (fun j d ρ hd ⟨s3, hρ⟩ => by
      subst hρ
      rw [List.getElem?_map] at hd
      obtain ⟨i, hi, rfl⟩ := Option.map_eq_some_iff.mp hd
      obtain ⟨hj, rfl⟩ := List.getElem?_eq_some_iff.mp hi
      rw [List.length_range] at hj
      rw [List.getElem_range]
      have a1 := cell_at (s := s) (k := j) (by omega)
      have a2 := cell_at (s := s) (k := j + 1) (by omega)
      rw [show (((j + 1 : Nat)) : Int) = (j : Int) + 1 by omega] at a2
      have e := law_rule_ev (v := v) (Ls := Ls) (wr := ws.map .int) (Rs := Rs) k ((s.cs[j]?).getD 0) ((s.cs[j + 1]?).getD 0) hrl
      have hml : (mgP Rs s j).length ≤ 100 := by unfold mgP; rw [List.length_map]; exact Nat.le_trans (List.length_filter_le ..) (by rw [List.length_range]; omega)
      have hlt : X.length + (mgP Rs s j).length < 1000000 := by omega
      have sm : PyData.tuple [.str (Str.ofString "merge"), .int (j : Nat)] = encP (.mg j) := rfl
      refine ⟨_, _, _, rfl, ?_, .inl rfl, some (.dat (.int j)), by rw [mgP_succ]⟩
      by_cases h1 : ((j : Int) + 1) ∈ s.hs <;> cases h2 : isNoneD (ruleOf Rs ((s.cs[j]?).getD 0) ((s.cs[j + 1]?).getD 0)) <;>
        simp -implicitDefEqProofs [b_law_steps_1, notin_ints, a1, a2, e, h1, h2, gapB, ruleB, sm, szMax, hlt])
  subst f2
  rw [List.length_map, List.length_range] at f1
  exact ⟨s3, f1⟩
theorem law_steps_ev (k : Nat) {s : St} (o : StOk v Ls.length s) (hw : ws.length ≤ 1000) (hrl : Rs.length ≤ 1000000) : evF T (k + 2) .law_steps [.dat (encS v Ls (ws.map .int) (Rs.map encR)), .dat (encT s)] = some (.own (.lst ((lawL Rs ws s).map encP)), []) := by
  have hcl := o.cl
  have hhl := o.hl
  refine wv fun W hW => ?_
  obtain ⟨s3, f1⟩ := law_steps_loop (v := v) (Ls := Ls) (ws := ws) (Rs := Rs) k W o hrl (hoL s ++ leL s) (by unfold hoL leL; split <;> simp <;> omega)
  generalize hS : encS v Ls (ws.map .int) (Rs.map encR) = S at *
  have hix : idxD S (.int 2) = some (iT ws) := by rw [← hS]; unfold encS; exact y_ix2
  have c0 := comp_map (Φ := evF T (k + 1)) (tg := .name 7) (own := [7]) (elt := c_law_steps_0) (ρ := [some (.dat S), some (.dat (encT s)), none, none, some (.dat (.int s.b)), some (.dat (iT s.cs)), some (.dat (iT s.hs)), none, none]) leD (ds := (List.range s.hs.length).map fun i => .int ((i : Nat) : Int)) fun d hd => by
    obtain ⟨a, ha, rfl⟩ := List.mem_map.mp hd
    exact ⟨_, _, _, rfl, (by simp -implicitDefEqProofs [c_law_steps_0, szMax]; rfl), rfl, rfl⟩
  have c2 := fun (X : List PyData) => comp_map (Φ := evF T (k + 1)) (tg := .name 8) (own := [8]) (elt := c_law_steps_2) (ρ := [some (.dat S), some (.dat (encT s)), some (.own (.lst X)), s3, some (.dat (.int s.b)), some (.dat (iT s.cs)), some (.dat (iT s.hs)), none, none]) wrD (ds := ws.map .int) fun d hd => by
    obtain ⟨a, ha, rfl⟩ := List.mem_map.mp hd
    exact ⟨_, _, _, rfl, (by simp -implicitDefEqProofs [c_law_steps_2, szMax]; rfl), rfl, rfl⟩
  have m0 : (ws.map PyData.int).map wrD = (ws.map Stp.wr).map encP := by rw [List.map_map, List.map_map]; rfl
  have m2 : ((List.range s.hs.length).map fun i => PyData.int ((i : Nat) : Int)).map leD = (leL s).map encP := by unfold leL; rw [List.map_map, List.map_map]; rfl
  rw [m2] at c0
  simp only [m0] at c2
  have l1 : (ws.map Stp.wr).length ≤ 1000 := by rw [List.length_map]; exact hw
  have l2 : (mgP Rs s (s.cs.length - 1)).length ≤ 100 := by unfold mgP; rw [List.length_map]; exact Nat.le_trans (List.length_filter_le ..) (by rw [List.length_range]; omega)
  have l3 : (leL s).length ≤ 3 := by unfold leL; rw [List.length_map, List.length_range]; exact hhl
  have hok : okRng 0 (s.hs.length : Int) = true := ok_rng (by omega) (by omega) (by omega) (by omega)
  have hok2 : okRng 0 ((s.cs.length : Int) - 1) = true := ok_rng (by omega) (by omega) (by omega) (by omega)
  have hP : lawL Rs ws s = hoL s ++ leL s ++ mgP Rs s (s.cs.length - 1) ++ seL s ++ ws.map .wr := rfl
  rw [hP]
  generalize ws.map Stp.wr = A at *
  generalize mgP Rs s (s.cs.length - 1) = B at *
  generalize leL s = C at *
  have l1' : A.length ≤ 1000000 := by omega
  have l3' : C.length ≤ 1000000 := by omega
  have s1 : PyData.tuple [.str (Str.ofString "settle")] = encP .se := rfl
  have s2 : PyData.tuple [.str (Str.ofString "hold")] = encP .ho := rfl
  have a1 := fun (X : List PyData) (h : X.length ≤ 3000) => show binD .Add (.list X) (.list (C.map encP)) = some (.own (.lst (X ++ C.map encP))) from y_cat (by rw [List.length_map]; show _ ≤ 1000000; omega)
  have a2 := fun (X : List PyData) (h : X.length ≤ 3000) => show binD .Add (.list X) (.list (A.map encP)) = some (.own (.lst (X ++ A.map encP))) from y_cat (by rw [List.length_map]; show _ ≤ 1000000; omega)
  have g1 : C.length + B.length < 1000000 := by omega
  have g2 : C.length + B.length + 1 < 1000000 := by omega
  have g3 : C.length + 1 + B.length < 1000000 := by omega
  have g4 : C.length + (B.length + 1) < 1000000 := by omega
  have r0 : binD .Mult (.list [encP .ho]) (.int 0) = some (.own (.lst [])) := rfl
  have r1 : binD .Mult (.list [encP .ho]) (.int 1) = some (.own (.lst [encP .ho])) := rfl
  rw [v_fn, v_run hW rfl (by decide) rfl]
  by_cases hH : s.hs.length < 3 <;> simp -implicitDefEqProofs [encT, hoL, hH] at c0 c2 f1 ⊢
  all_goals
    have hH' : decide ((s.hs.length : Int) < 3) = decide (s.hs.length < 3) := by simp; omega
    cases hE : s.cs.isEmpty <;> by_cases hC : (0 : Int) ∈ s.hs <;>
    simp -implicitDefEqProofs (disch := first | omega | (simp; done) | (simp; omega)) [T, d_law_steps, encT, hix, c0, c2, f1, szMax, l1', l3', ne_nil, notin_ints, hE, hC, hH', hH, a1, a2, s1, s2, hok, hok2, rng0, rng1_len, r0, r1, seL, hoL, g1, g2, g3, g4]
end
section
variable {v : Int} {Ls : List (List Int)} {wr rs : List PyData} {ws : List Int} {Rs : List (Int × Int × Int)} {most : Nat}
theorem next_wr (k : Nat) (S : PyData) {s : St} (h : s.cs.length ≤ 1000) (a : Int) : evF T (k + 2) .law_next [.dat S, .dat (encT s), .dat (encP (.wr a))] = some (.dat (encT ⟨s.b, s.cs ++ [a], s.hs⟩), []) := by
  have c := cat_iT (a := s.cs) (b := [a]) (by show s.cs.length + 1 ≤ _; omega)
  have e : slcD (.tuple [.str (Str.ofString "write"), .int a]) (some 1) none = some (.dat (iT [a])) := rfl
  refine wv fun W hW => ?_
  rw [v_fn, v_run hW rfl (by decide) rfl]
  simp -implicitDefEqProofs [T, d_law_next, encT, encP, eq_str, e, c, szMax]
theorem next_ho (k : Nat) (S : PyData) {s : St} (h : s.hs.length ≤ 1000) : evF T (k + 2) .law_next [.dat S, .dat (encT s), .dat (encP .ho)] = some (.dat (encT ⟨s.b, s.cs, s.hs ++ [(s.cs.length : Int)]⟩), []) := by
  have c := cat_iT (a := s.hs) (b := [(s.cs.length : Int)]) (by show s.hs.length + 1 ≤ _; omega)
  have q1 : Str.ofString "hold" ≠ Str.ofString "write" := by decide
  have q3 : Str.ofString "hold" ≠ Str.ofString "settle" := by decide
  refine wv fun W hW => ?_
  rw [v_fn, v_run hW rfl (by decide) rfl]
  simp -implicitDefEqProofs [T, d_law_next, encT, encP, eq_str, one_iT, c, szMax, q1, q3]
theorem next_le (k : Nat) (S : PyData) {s : St} (h : s.hs.length ≤ 1000) (i : Nat) : evF T (k + 2) .law_next [.dat S, .dat (encT s), .dat (encP (.le i))] = some (.dat (encT ⟨s.b, s.cs, s.hs.take i ++ s.hs.drop (i + 1)⟩), []) := by
  have q1 : Str.ofString "let" ≠ Str.ofString "write" := by decide
  have q3 : Str.ofString "let" ≠ Str.ofString "settle" := by decide
  have q4 : Str.ofString "let" ≠ Str.ofString "hold" := by decide
  have cc := comp_filter (Φ := evF T (k + 1)) (tg := .tup [11, 10]) (own := [11, 10]) (elt := c_law_next_1) (cond := q_law_next_2) (ρ := [some (.dat S), some (.dat (encT s)), some (.dat (encP (.le i))), none, none, some (.dat (.int s.b)), some (.dat (iT s.cs)), some (.dat (iT s.hs)), none, none, none, none]) sndD (notI i) (ds := (s.hs.map PyData.int).zipIdx.map fun (x, i) => PyData.tuple [.int (i : Nat), x]) fun d hd => by
    obtain ⟨⟨x, j⟩, hx, rfl⟩ := List.mem_map.mp hd
    exact ⟨_, rfl, (by simp -implicitDefEqProofs [q_law_next_2, encP, notI]), rfl, fun _ => ⟨_, _, (by simp -implicitDefEqProofs [c_law_next_1]; rfl), rfl, rfl⟩⟩
  have m : (((s.hs.map PyData.int).zipIdx.map fun (x, i) => PyData.tuple [.int (i : Nat), x]).filter (notI i)).map sndD = (s.hs.take i ++ s.hs.drop (i + 1)).map .int := by
    rw [← skip_at i s.hs 0, List.filter_map, List.map_map, List.zipIdx_map, List.filter_map, List.map_map, List.map_map]
    simp [Function.comp_def, notI, sndD, Int.ofNat_inj]
  rw [m] at cc
  have hl : (s.hs.take i ++ s.hs.drop (i + 1)).length ≤ 1000000 := by rw [List.length_append, List.length_take, List.length_drop]; omega
  have sq : seqD (iT s.hs) = some (s.hs.map .int) := rfl
  have ft : ∀ l : List Int, PyData.tuple (l.map .int) = iT l := fun _ => rfl
  generalize s.hs.take i ++ s.hs.drop (i + 1) = r at *
  refine wv fun W hW => ?_
  rw [v_fn, v_run hW rfl (by decide) rfl]
  simp -implicitDefEqProofs [encT, encP] at cc
  simp -implicitDefEqProofs [T, d_law_next, encT, encP, eq_str, cc, szMax, q1, q3, q4, hl, ft, sq]
theorem next_se (k : Nat) (h : EffL v Ls) {s : St} (o : StOk v Ls.length s) (hc : s.cs ≠ []) : evF T (k + 2) .law_next [.dat (encS v Ls wr rs), .dat (encT s), .dat (encP .se)] = some (.dat (encT ⟨stp Ls s.b (s.cs.headD 0), s.cs.drop 1, s.hs.map (· - 1)⟩), []) := by
  obtain ⟨b, cs, hs⟩ := s
  cases cs with
  | nil => exact absurd rfl hc
  | cons a cs =>
    have hb0 := o.b0
    have hb1 := o.b1
    have ha := o.c a (List.mem_cons_self ..)
    have e := lfold_ev (wr := wr) (rs := rs) k h (row := [a]) (s := b) (fun x hx => by rw [List.mem_singleton] at hx; subst hx; omega) hb0 hb1
    have e1 := cut_iT (xs := a :: cs) (p := 1) (by decide)
    have c2 := cutf_iT (xs := a :: cs) (p := 1)
    have q1 : Str.ofString "settle" ≠ Str.ofString "write" := by decide
    have cc := comp_map (Φ := evF T (k + 1)) (tg := .name 10) (own := [10]) (elt := c_law_next_0) (ρ := [some (.dat (encS v Ls wr rs)), some (.dat (encT ⟨b, a :: cs, hs⟩)), some (.dat (encP .se)), none, none, some (.dat (.int b)), some (.dat (iT (a :: cs))), some (.dat (iT hs)), none, none, none, none]) decD (ds := hs.map .int) fun d hd => by
      obtain ⟨p, hp, rfl⟩ := List.mem_map.mp hd
      exact ⟨_, _, _, rfl, (by simp -implicitDefEqProofs [c_law_next_0]; rfl), rfl, rfl⟩
    have m : (hs.map PyData.int).map decD = (hs.map (· - 1)).map .int := by rw [List.map_map, List.map_map]; rfl
    rw [m] at cc
    have hl : hs.length ≤ 1000000 := by have := o.hl; exact Nat.le_trans this (by decide)
    rw [show ((1 : Nat) : Int) = 1 from rfl] at c2
    refine wv fun W hW => ?_
    rw [v_fn, v_run hW rfl (by decide) rfl]
    simp -implicitDefEqProofs [encT, encP] at cc
    simp -implicitDefEqProofs at e1 c2
    simp -implicitDefEqProofs [T, d_law_next, encT, encP, eq_str, e, e1, c2, cc, szMax, q1, hl]
    refine ⟨rfl, ?_⟩
    unfold iT; rw [List.map_map]
end
section
variable {v : Int} {Ls : List (List Int)} {wr rs : List PyData} {ws : List Int} {Rs : List (Int × Int × Int)} {most : Nat}
theorem next_mg (k : Nat) {s : St} (o : StOk v Ls.length s) {i : Nat} (hi : i + 1 < s.cs.length) {c : Int} (hrl : Rs.length ≤ 1000000) (hr : ruleOf Rs ((s.cs[i]?).getD 0) ((s.cs[i + 1]?).getD 0) = .int c) :
    evF T (k + 2) .law_next [.dat (encS v Ls wr (Rs.map encR)), .dat (encT s), .dat (encP (.mg i))] = some (.dat (encT (mrg s i c)), []) := by
  have hcl := o.cl
  have a1 := cell_at (s := s) (k := i) (by omega)
  have a2 := cell_at (s := s) (k := i + 1) (by omega)
  rw [show (((i + 1 : Nat)) : Int) = (i : Int) + 1 by omega] at a2
  have e := law_rule_ev (v := v) (Ls := Ls) (wr := wr) (Rs := Rs) k ((s.cs[i]?).getD 0) ((s.cs[i + 1]?).getD 0) hrl
  rw [hr] at e
  have c1 := cut_iT (xs := s.cs) (p := (i : Int)) (by omega)
  rw [show (i : Int).toNat = i by omega] at c1
  have c2 := cutf_iT (xs := s.cs) (p := i + 2)
  rw [show (((i + 2 : Nat)) : Int) = (i : Int) + 2 by omega] at c2
  have t1 := cat_iT (a := s.cs.take i) (b := midL c) (by unfold midL; rw [List.length_take]; split <;> simp <;> omega)
  have t2 := cat_iT (a := s.cs.take i ++ midL c) (b := s.cs.drop (i + 2)) (by unfold midL; rw [List.length_append, List.length_take, List.length_drop]; split <;> simp <;> omega)
  have q1 : Str.ofString "merge" ≠ Str.ofString "write" := by decide
  have q2 : Str.ofString "merge" ≠ Str.ofString "settle" := by decide
  have q3 : Str.ofString "merge" ≠ Str.ofString "hold" := by decide
  have q4 : Str.ofString "merge" ≠ Str.ofString "let" := by decide
  have cc := comp_map (Φ := evF T (k + 1)) (tg := .name 10) (own := [10]) (elt := c_law_next_3) (ρ := [some (.dat (encS v Ls wr (Rs.map encR))), some (.dat (encT s)), some (.dat (encP (.mg i))), some (.dat (iT (midL c))), some (.dat (.int (lessI c))), some (.dat (.int s.b)), some (.dat (iT s.cs)), some (.dat (iT s.hs)), some (.dat (.int (i : Nat))), some (.dat (.int c)), none, none]) (shD i c) (ds := s.hs.map .int) fun d hd => by
    obtain ⟨p, hp, rfl⟩ := List.mem_map.mp hd
    have m1 : binD .Mult (.int (lessI c)) (.int 1) = some (.dat (.int (lessI c))) := by rw [y_mul (.inr (by decide)), Int.mul_one]
    have m0 : binD .Mult (.int (lessI c)) (.int 0) = some (.dat (.int 0)) := by rw [y_mul (.inr (by decide)), Int.mul_zero]
    by_cases hp : p ≤ (i : Int)
    · have hp' : ¬ (i : Int) < p := by omega
      exact ⟨_, _, _, rfl, (by simp -implicitDefEqProofs [c_law_next_3, hp', m0]; rfl), (by simp [shD, shI, hp]; rfl), rfl⟩
    · have hp' : (i : Int) < p := by omega
      exact ⟨_, _, _, rfl, (by simp -implicitDefEqProofs [c_law_next_3, hp', m1]; rfl), (by simp [shD, shI, hp]; rfl), rfl⟩
  have m : (s.hs.map PyData.int).map (shD i c) = (s.hs.map (shI i c)).map .int := by rw [List.map_map, List.map_map]; rfl
  rw [m] at cc
  have hl : (s.hs.map (shI i c)).length ≤ 1000000 := by rw [List.length_map]; exact Nat.le_trans o.hl (by decide)
  have ft : ∀ l : List Int, PyData.tuple (l.map .int) = iT l := fun _ => rfl
  have e0 : PyData.tuple [] = iT [] := rfl
  have hm : mrg s i c = ⟨s.b, s.cs.take i ++ midL c ++ s.cs.drop (i + 2), s.hs.map (shI i c)⟩ := rfl
  rw [hm]
  generalize s.hs.map (shI i c) = r at *
  refine wv fun W hW => ?_
  rw [v_fn, v_run hW rfl (by decide) rfl]
  simp -implicitDefEqProofs [encT, encP] at cc
  by_cases hc : c = -1
  · simp -implicitDefEqProofs [midL, lessI, hc] at cc t1 t2 e ⊢
    simp -implicitDefEqProofs [T, d_law_next, encT, encP, eq_str, q1, q2, q3, q4, a1, a2, e, c1, c2, t1, t2, cc, szMax, hl, hc, e0, ft]
  · simp -implicitDefEqProofs [midL, lessI, hc] at cc t1 t2 e ⊢
    simp -implicitDefEqProofs [T, d_law_next, encT, encP, eq_str, q1, q2, q3, q4, a1, a2, e, c1, c2, t1, t2, cc, szMax, hl, hc, one_iT, ft]
theorem next_ev (k : Nat) (h : EffL v Ls) {s : St} (o : StOk v Ls.length s) (hrl : Rs.length ≤ 1000000) {p : Stp} (hp : p ∈ lawL Rs ws s) (wr : List PyData) : evF T (k + 2) .law_next [.dat (encS v Ls wr (Rs.map encR)), .dat (encT s), .dat (encP p)] = some (.dat (encT (nxt Ls Rs s p)), []) := by
  have hcl := o.cl
  have hhl := o.hl
  rcases law_mem hp with ⟨a, ha, rfl⟩ | ⟨rfl, h1⟩ | ⟨i, rfl, h1⟩ | ⟨rfl, h1, h2⟩ | ⟨i, r, rfl, h1, h2, hr, e⟩
  · exact next_wr k _ (by omega) a
  · exact next_ho k _ (by omega)
  · exact next_le k _ (by omega) i
  · exact next_se k h o h1
  · rw [next_mg k o h1 hrl e]
    simp only [nxt, e]
end
end LW

namespace LW
open PySem SP
section
def oddsA : List PyData := [.none, .bool true, .bool false, .int 0, .int 1, .int (-1), .str (Str.ofString ""), .str (Str.ofString "a"), .tuple [], .list [], .dict [], .tuple [.int 0], .tuple [.int 0, .int 0], .list [.tuple []], .tuple [.tuple []], .int 99, .int 100000000000000000000]
theorem oddsA_ok : (oddsA.all fun d => d.leavesShort 24 && d.showable && decide (d.depth ≤ 3) && decide (d.weight ≤ 100)) = true := by decide +kernel
theorem oddA_show {d : PyData} (h : d ∈ oddsA) : ShowOk 3 100 d := by
  have := List.all_eq_true.mp oddsA_ok d h
  simp only [Bool.and_eq_true, decide_eq_true_eq] at this
  exact ⟨this.1.1.1, this.1.1.2, this.1.2, this.2⟩
theorem oddA_ev (k b : Nat) (m : MO) (h : PenOk b m) (hb : b ≤ 900000000) : ∃ (r : PyData) (m' : MO), evF T (k + 4) .law_odd [.own m] = some (.dat r, [m']) ∧ r ∈ oddsA ∧ PenOk (b + 1) m' := by
  obtain ⟨r, m', e, hr, hm⟩ := one_of_ev k b m oddsA h (by omega) (by simp [oddsA]) (by simp [oddsA])
  refine ⟨r, m', ?_, hr, hm⟩
  have p1 : binD .Pow (.int 10) (.int 20) = some (.dat (.int 100000000000000000000)) := by rw [y_pow (by decide) (by decide) (by decide)]; rfl
  unfold oddsA at e
  refine wv fun W hW => ?_
  rw [v_fn, v_run hW rfl (by decide) rfl]
  simp -implicitDefEqProofs [T, d_law_odd, p1, szMax, e]
theorem show_mid {i : Int} (h : -1000000 ≤ i) (h2 : i ≤ 1000000) : ShowOk 0 30 (.int i) := by
  have hl : i.natAbs < 2 ^ 20 := by omega
  have hlog : i.natAbs.log2 < 20 := by
    by_cases c : i.natAbs = 0
    · rw [c]; decide
    · exact (Nat.log2_lt c).mpr hl
  refine ⟨?_, ?_, by simp [PyData.depth], ?_⟩
  · have := PyData.shown_int_le2 (i := i) (by omega) (by omega)
    simp only [PyData.leavesShort, decide_eq_true_eq]
    omega
  · simp only [PyData.showable, decide_eq_true_eq]; omega
  · simp only [PyData.weight]
    split <;> omega
end
section
mutual
/-- ints, and rows of such, so deep -/
def bi : Nat → PyData → Bool
  | _, .int i => decide (-90 ≤ i) && decide (i < 900)
  | _, .none | _, .bool _ | _, .str _ | _, .dict _ => false
  | 0, .list _ | 0, .tuple _ => false
  | n + 1, .list xs | n + 1, .tuple xs => decide (xs.length ≤ 1000) && biAll n xs
def biAll : Nat → List PyData → Bool
  | _, [] => true
  | n, x :: xs => bi n x && biAll n xs
end
theorem biAll_mem {n : Nat} : ∀ {xs : List PyData}, biAll n xs = true → ∀ x ∈ xs, bi n x = true
  | [], _, _, m => nomatch m
  | y :: ys, h, x, m => by
    simp only [biAll, Bool.and_eq_true] at h
    rcases List.mem_cons.mp m with rfl | m
    · exact h.1
    · exact biAll_mem h.2 x m
theorem biAll_of {n : Nat} : ∀ {xs : List PyData}, (∀ x ∈ xs, bi n x = true) → biAll n xs = true
  | [], _ => by simp [biAll]
  | x :: xs, h => by
    simp only [biAll, Bool.and_eq_true]
    exact ⟨h x (List.mem_cons_self ..), biAll_of fun y hy => h y (List.mem_cons_of_mem _ hy)⟩
mutual
theorem bi_bd : ∀ {n : Nat} {x : PyData}, bi n x = true → bd n x = true
  | 0, .int i, h => by simpa [bi, bd] using h
  | n + 1, .int i, h => by simpa [bi, bd] using h
  | 0, .none, h | 0, .bool _, h | 0, .str _, h | 0, .dict _, h | 0, .list _, h | 0, .tuple _, h => by simp [bi] at h
  | n + 1, .none, h | n + 1, .bool _, h | n + 1, .str _, h | n + 1, .dict _, h => by simp [bi] at h
  | n + 1, .list xs, h => by
    simp only [bi, Bool.and_eq_true] at h
    simp only [bd, Bool.and_eq_true]
    exact ⟨h.1, biAll_bd h.2⟩
  | n + 1, .tuple xs, h => by
    simp only [bi, Bool.and_eq_true] at h
    simp only [bd, Bool.and_eq_true]
    exact ⟨h.1, biAll_bd h.2⟩
theorem biAll_bd : ∀ {n : Nat} {xs : List PyData}, biAll n xs = true → bdAll n xs = true
  | n, [], _ => by simp [bdAll]
  | n, x :: xs, h => by
    simp only [biAll, Bool.and_eq_true] at h
    simp only [bdAll, Bool.and_eq_true]
    exact ⟨bi_bd h.1, biAll_bd h.2⟩
end
end
section
/-- what a bend wants of the level below -/
structure BentL (L : Nat) : Prop where
  tk : ∀ (b : Nat) (m : MO) (amount : Int), PenOk b m → b ≤ 900000000 → 1 ≤ amount → amount < 1000000 → ∃ (r : Int) (m' : MO), evF T L .law_take [.own m, .dat (.int amount)] = some (.dat (.int r), [m']) ∧ 0 ≤ r ∧ r < amount ∧ PenOk (b + 1) m'
  one : ∀ (b : Nat) (m : MO) (xs : List PyData), PenOk b m → b ≤ 900000000 → xs ≠ [] → xs.length < 1000000 → ∃ (r : PyData) (m' : MO), evF T L .law_one_of [.own m, .dat (.list xs)] = some (.dat r, [m']) ∧ r ∈ xs ∧ PenOk (b + 1) m'
  od : ∀ (b : Nat) (m : MO), PenOk b m → b ≤ 900000000 → ∃ (r : PyData) (m' : MO), evF T L .law_odd [.own m] = some (.dat r, [m']) ∧ r ∈ oddsA ∧ PenOk (b + 1) m'
theorem bentL (k : Nat) : BentL (k + 4) := ⟨fun b m amount h hb h1 h2 => take_ev (k + 2) b m amount h (by omega) h1 (by omega), fun b m xs h hb h1 h2 => one_of_ev (k + 1) b m xs h (by omega) h1 (by omega), fun b m h hb => oddA_ev k b m h hb⟩
theorem bent_row {L : Nat} (B : BentL L) (n b : Nat) (hn : n ≤ 1000) (m : MO) (x : PyData) (xs : List PyData) (hx : x = .list xs ∨ x = .tuple xs) (hl : xs.length ≤ 1000) (hxs : biAll n xs = true) (h : PenOk b m) (hb : b + 10 * (n + 1) ≤ 800000000)
    (ih : ∀ (b : Nat) (m : MO) (y : PyData), bi n y = true → PenOk b m → b + 10 * n ≤ 800000000 → ∃ (s : Sl) (m' : MO), evF T L .law_bent [.own m, .dat y] = some (s, [m']) ∧ ShowOk (n + 3) (2 * y.weight + 120) s.data ∧ PenOk (b + 5 * (n + 1)) m') :
    ∃ (s : Sl) (m' : MO), evF T (L + 1) .law_bent [.own m, .dat x] = some (s, [m']) ∧ ShowOk (n + 1 + 3) (2 * x.weight + 120) s.data ∧ PenOk (b + 5 * (n + 1 + 1)) m' := by
  have hxw : x.weight = (xs.map fun d => d.weight + 1).sum := by
    rcases hx with rfl | rfl <;> simp [PyData.weight, weightAll_sum]
  have ni : isTy x .int = false := by rcases hx with rfl | rfl <;> rfl
  have n4 : (isTy x .tuple || isTy x .list) = true := by rcases hx with rfl | rfl <;> rfl
  have ex : bltD .len [x] = some (.dat (.int xs.length)) := by rcases hx with rfl | rfl <;> rfl
  have el : bltD .list [x] = some (.own (.lst xs)) := by rcases hx with rfl | rfl <;> rfl
  refine wv fun W hW => ?_
  rw [v_fn, v_run hW rfl (by decide) rfl]
  by_cases c1 : xs.length = 0
  · obtain ⟨r, m2, e2, hr, hm2⟩ := B.od b m h (by omega)
    refine ⟨.dat r, m2, ?_, (oddA_show hr).mono (by omega) (by omega), hm2.mono (by omega)⟩
    simp -implicitDefEqProofs [T, d_law_bent, ni, n4, e2, ex, c1]
  · have hpos : 0 < xs.length := by omega
    obtain ⟨t, m1, e1, t0, t1, hm1⟩ := B.tk b m 8 h (by omega) (by omega) (by omega)
    by_cases c0 : t = 0
    · subst c0
      obtain ⟨r, m2, e2, hr, hm2⟩ := B.od (b + 1) m1 hm1 (by omega)
      refine ⟨.dat r, m2, ?_, (oddA_show hr).mono (by omega) (by omega), hm2.mono (by omega)⟩
      simp -implicitDefEqProofs [T, d_law_bent, ni, n4, e1, e2, ex, c1]
    · obtain ⟨way, m3, e3, w0, w1, hm3⟩ := B.tk (b + 1) m1 10 hm1 (by omega) (by omega) (by omega)
      obtain ⟨k0, m4, e4, k0', k1, hm4⟩ := B.tk (b + 2) m3 xs.length hm3 (by omega) (by omega) (by omega)
      obtain ⟨k, rfl⟩ : ∃ k : Nat, k0 = k := ⟨k0.toNat, by omega⟩
      have hk : k < xs.length := by omega
      have hel := biAll_mem hxs
      obtain ⟨q1, q2, q3, q4⟩ := bent_rows (n := n) hk (bdAll_show n xs (biAll_bd hxs)) rfl
      rw [← hxw] at q1 q2 q3 q4
      have fin : ∀ {ds : List PyData} {s : Sl}, (s.data = .tuple ds ∨ s.data = .list ds) → ((∀ d ∈ ds, ∃ w, ShowOk (n + 3) w d) ∧ (ds.map fun d => d.weight + 1).sum ≤ 2 * x.weight + 120) → ShowOk (n + 1 + 3) (2 * x.weight + 120) s.data := fun {ds s} hs hd => by
        obtain ⟨a, b⟩ := show_row hd.1 hd.2
        rcases hs with e | e <;> rw [e]
        · exact a
        · exact b
      have ixk : idxD (.list xs) (.int (k : Int)) = some xs[k] := y_ixL (List.getElem?_eq_getElem hk)
      by_cases c2 : way < 7
      · obtain ⟨y, m5, e5, hy, hm5⟩ := ih (b + 3) m4 xs[k] (hel _ (List.getElem_mem hk)) hm4 (by omega)
        have est : stoM (.lst xs) (.int (k : Int)) y.data = some (.lst (xs.set k y.data)) := y_st hk
        obtain ⟨t2, m6, e6, _, _, hm6⟩ := B.tk _ m5 12 hm5 (by omega) (by omega) (by omega)
        have hc : cmpD .Eq (.bool (isTy x .tuple)) (.bool (decide (0 < t2))) = some (isTy x .tuple == decide (0 < t2)) := eq_bool
        generalize hq : (isTy x .tuple == decide (0 < t2)) = q at hc
        generalize hyy : decide (0 < t2) = yy at hc
        cases q with
        | true =>
          refine ⟨.dat (.tuple (xs.set k y.data)), m6, ?_, fin (.inl rfl) (q1 y.data hy), hm6.mono (by omega)⟩
          simp -implicitDefEqProofs [T, d_law_bent, ni, n4, e1, c0, ex, c1, el, e3, e4, c2, ixk, e5, est, e6, hc, hyy]
        | false =>
          refine ⟨.own (.lst (xs.set k y.data)), m6, ?_, fin (.inr rfl) (q1 y.data hy), hm6.mono (by omega)⟩
          simp -implicitDefEqProofs [T, d_law_bent, ni, n4, e1, c0, ex, c1, el, e3, e4, c2, ixk, e5, est, e6, hc, hyy]
      · obtain ⟨t2, m6, e6, _, _, hm6⟩ := B.tk _ m4 12 hm4 (by omega) (by omega) (by omega)
        have hc : cmpD .Eq (.bool (isTy x .tuple)) (.bool (decide (0 < t2))) = some (isTy x .tuple == decide (0 < t2)) := eq_bool
        generalize hq : (isTy x .tuple == decide (0 < t2)) = q at hc
        generalize hyy : decide (0 < t2) = yy at hc
        have s1 : slcD (.list xs) none (some (k : Int)) = some (.own (.lst (xs.take k))) := by
          show some (Sl.own (.lst (cutL xs none (some (k : Int))))) = _
          rw [cut_to (by omega)]; rfl
        have s2 : slcD (.list xs) (some ((k : Int) + 1)) none = some (.own (.lst (xs.drop (k + 1)))) := by
          show some (Sl.own (.lst (cutL xs (some ((k : Int) + 1)) none))) = _
          rw [cut_dr (by omega)]; rfl
        have s3 : slcD (.list xs) (some (k : Int)) (some ((k : Int) + 1)) = some (.own (.lst [xs[k]])) := by
          show some (Sl.own (.lst (cutL xs (some (k : Int)) (some ((k : Int) + 1))))) = _
          rw [cut_from (by omega) (by omega)]
          have e1 : min ((k : Int) + 1).toNat xs.length - min (k : Int).toNat xs.length = 1 := by omega
          rw [e1, show ((k : Int)).toNat = k by omega, List.drop_eq_getElem_cons hk]
          rfl
        have a1 : binD .Add (.list (xs.take k)) (.list (xs.drop (k + 1))) = some (.own (.lst (xs.take k ++ xs.drop (k + 1)))) := y_cat (by rw [List.length_take, List.length_drop, szMax]; omega)
        have a2 : binD .Add (.list xs) (.list [xs[k]]) = some (.own (.lst (xs ++ [xs[k]]))) := y_cat (by rw [szMax]; simp; omega)
        have a3 : revD (.list xs) = some (.own (.lst xs.reverse)) := rfl
        obtain ⟨ds, hds, hix⟩ : ∃ ds : List PyData, ((∀ d ∈ ds, ∃ w, ShowOk (n + 3) w d) ∧ (ds.map fun d => d.weight + 1).sum ≤ 2 * x.weight + 120) ∧ idxD (.list [.list (xs.take k ++ xs.drop (k + 1)), .list (xs ++ [xs[k]]), .list xs.reverse]) (.int (way - 7)) = some (.list ds) := by
          have : way = 7 ∨ way = 8 ∨ way = 9 := by omega
          rcases this with rfl | rfl | rfl
          · exact ⟨_, q2, y_ixL (k := 0) rfl⟩
          · exact ⟨_, q3, y_ixL (k := 1) rfl⟩
          · exact ⟨_, q4, y_ixL (k := 2) rfl⟩
        cases q with
        | true =>
          refine ⟨.dat (.tuple ds), m6, ?_, fin (.inl rfl) hds, hm6.mono (by omega)⟩
          simp -implicitDefEqProofs [T, d_law_bent, ni, n4, e1, c0, ex, c1, el, e3, e4, c2, s1, s2, s3, a1, a2, a3, szMax, hix, e6, hc, hyy]
        | false =>
          refine ⟨.dat (.list ds), m6, ?_, fin (.inr rfl) hds, hm6.mono (by omega)⟩
          simp -implicitDefEqProofs [T, d_law_bent, ni, n4, e1, c0, ex, c1, el, e3, e4, c2, s1, s2, s3, a1, a2, a3, szMax, hix, e6, hc, hyy]
theorem bent_leaf {L : Nat} (B : BentL L) (n b : Nat) (m : MO) {i : Int} (hi : -90 ≤ i ∧ i < 900) (h : PenOk b m) (hb : b ≤ 800000000) :
    ∃ (s : Sl) (m' : MO), evF T (L + 1) .law_bent [.own m, .dat (.int i)] = some (s, [m']) ∧ ShowOk (n + 3) (2 * (PyData.int i).weight + 120) s.data ∧ PenOk (b + 5 * (n + 1)) m' := by
  refine wv fun W hW => ?_
  rw [v_fn, v_run hW rfl (by decide) rfl]
  obtain ⟨t, m1, e1, t0, t1, hm1⟩ := B.tk b m 4 h (by omega) (by omega) (by omega)
  have n1 : isTy (.int i) .int = true := rfl
  have n3 : isTy (.int i) .tuple = false := rfl
  have n4 : isTy (.int i) .list = false := rfl
  by_cases c0 : 0 < t
  · have hmul : binD .Mult (.int i) (.int 1000) = some (.dat (.int (i * 1000))) := y_mul (.inr ⟨by decide, by decide⟩)
    obtain ⟨z, hz, hzs⟩ : ∃ z : PyData, evE (evF T L) (.ite (.chain .LtE .Lt (.cst (.int 0)) (.loc 1) (.cst (.int 2))) (.cmp .Eq (.loc 1) (.cst (.int 1))) (.neg (.loc 1))) [some (.own m1), some (.dat (.int i)), none, none, none] = some (.dat z, [some (.own m1), some (.dat (.int i)), none, none, none]) ∧ ShowOk 0 30 z := by
      have hb : ∀ c : Bool, ShowOk 0 30 (.bool c) := fun c => ⟨by simp [PyData.leavesShort], by simp [PyData.showable], by simp [PyData.depth], by simp [PyData.weight]⟩
      by_cases c1 : 0 ≤ i
      · by_cases c2 : i < 2
        · exact ⟨.bool (decide (i = 1)), by simp -implicitDefEqProofs [c1, c2], hb _⟩
        · exact ⟨.int (-i), by simp -implicitDefEqProofs [c1, c2], show_mid (by omega) (by omega)⟩
      · exact ⟨.int (-i), by simp -implicitDefEqProofs [c1], show_mid (by omega) (by omega)⟩
    obtain ⟨r, m2, e2, hr, hm2⟩ := B.one (b + 1) m1 [.int (i + 1), .int (i - 1), z, .int (i * 1000)] hm1 (by omega) (by simp) (by simp)
    refine ⟨.dat r, m2, ?_, ?_, hm2.mono (by omega)⟩
    · simp -implicitDefEqProofs at hz
      simp -implicitDefEqProofs [T, d_law_bent, e1, c0, n1]
      rw [hz]
      simp -implicitDefEqProofs [e2, szMax, hmul]
    · simp only [List.mem_cons, List.not_mem_nil, or_false] at hr
      rcases hr with rfl | rfl | rfl | rfl
      · exact (show_mid (by omega) (by omega)).mono (by omega) (by omega)
      · exact (show_mid (by omega) (by omega)).mono (by omega) (by omega)
      · exact hzs.mono (by omega) (by omega)
      · exact (show_mid (by omega) (by omega)).mono (by omega) (by omega)
  · obtain ⟨r, m2, e2, hr, hm2⟩ := B.od (b + 1) m1 hm1 (by omega)
    refine ⟨.dat r, m2, ?_, (oddA_show hr).mono (by omega) (by omega), hm2.mono (by omega)⟩
    simp -implicitDefEqProofs [T, d_law_bent, e1, c0, n1, n3, n4, e2]
theorem bent_ev : ∀ (n k b : Nat) (m : MO) (x : PyData), n ≤ 1000 → bi n x = true → PenOk b m → b + 10 * n ≤ 800000000 → ∃ (s : Sl) (m' : MO), evF T (k + n + 5) .law_bent [.own m, .dat x] = some (s, [m']) ∧ ShowOk (n + 3) (2 * x.weight + 120) s.data ∧ PenOk (b + 5 * (n + 1)) m'
  | n, k, b, m, .int i, hn, hx, h, hb => by
    have hi : -90 ≤ i ∧ i < 900 := by cases n <;> simpa [bi] using hx
    have B : BentL (k + n + 4) := by have := bentL (k + n); exact this
    exact bent_leaf B n b m hi h (by omega)
  | n + 1, k, b, m, .list xs, hn, hx, h, hb => by
    simp only [bi, Bool.and_eq_true, decide_eq_true_eq] at hx
    have B : BentL (k + n + 5) := by have := bentL (k + n + 1); exact this
    exact bent_row B n b (by omega) m _ xs (.inl rfl) hx.1 hx.2 h (by omega) fun b m y hy h hb => bent_ev n k b m y (by omega) hy h hb
  | n + 1, k, b, m, .tuple xs, hn, hx, h, hb => by
    simp only [bi, Bool.and_eq_true, decide_eq_true_eq] at hx
    have B : BentL (k + n + 5) := by have := bentL (k + n + 1); exact this
    exact bent_row B n b (by omega) m _ xs (.inr rfl) hx.1 hx.2 h (by omega) fun b m y hy h hb => bent_ev n k b m y (by omega) hy h hb
  | 0, k, b, m, .list xs, hn, hx, h, hb => by simp [bi] at hx
  | 0, k, b, m, .tuple xs, hn, hx, h, hb => by simp [bi] at hx
  | n, k, b, m, .none, hn, hx, h, hb => by cases n <;> simp [bi] at hx
  | n, k, b, m, .bool _, hn, hx, h, hb => by cases n <;> simp [bi] at hx
  | n, k, b, m, .str _, hn, hx, h, hb => by cases n <;> simp [bi] at hx
  | n, k, b, m, .dict _, hn, hx, h, hb => by cases n <;> simp [bi] at hx
end
end LW

namespace LW
open PySem SP
section
theorem is_integer_ev (k : Nat) (d : PyData) : evF T (k + 1) .is_integer [.dat d] = some (.dat (.bool (isIntD d)), []) := by
  refine wv fun W hW => ?_
  rw [v_fn, v_run hW rfl (by decide) rfl]
  cases d <;> simp -implicitDefEqProofs [T, d_is_integer, isTy, isIntD]
end
section
theorem is_within_ev (k : Nat) (d : PyData) (lo hi : Int) : evF T (k + 2) .is_within [.dat d, .dat (.int lo), .dat (.int hi)] = some (.dat (.bool (isBtw lo hi d)), []) := by
  have e1 : evF T (k + 1) .is_integer [.dat d] = some (.dat (.bool (isIntD d)), []) := is_integer_ev k d
  refine wv fun W hW => ?_
  rw [v_fn, v_run hW rfl (by decide) rfl]
  cases d with
  | int i =>
    have e1 : evF T (k + 1) .is_integer [.dat (.int i)] = some (.dat (.bool true), []) := e1
    by_cases h1 : lo ≤ i
    · by_cases h2 : i ≤ hi <;> simp -implicitDefEqProofs [T, d_is_within, e1, isBtw, h1, h2]
    · simp -implicitDefEqProofs [T, d_is_within, e1, isBtw, h1]
  | _ => simp -implicitDefEqProofs [T, d_is_within, e1, isBtw, isIntD]
theorem law_is_integer_ev (k : Nat) (d : PyData) (lo hi : Int) : evF T (k + 1) .law_is_integer [.dat d, .dat (.int lo), .dat (.int hi)] = some (.dat (.bool (isBtw lo hi d)), []) := by
  refine wv fun W hW => ?_
  rw [v_fn, v_run hW rfl (by decide) rfl]
  cases d with
  | int i =>
    by_cases h1 : lo ≤ i
    · by_cases h2 : i ≤ hi <;> simp -implicitDefEqProofs [T, d_law_is_integer, isTy, isBtw, h1, h2]
    · simp -implicitDefEqProofs [T, d_law_is_integer, isTy, isBtw, h1]
  | _ => simp -implicitDefEqProofs [T, d_law_is_integer, isTy, isBtw]
theorem btw_ints {lo hi : Int} : ∀ {ys : List PyData}, ys.all (isBtw lo hi) = true → ∃ zs : List Int, ys = zs.map .int
  | [], _ => ⟨[], rfl⟩
  | y :: ys, h => by
    rw [List.all_cons, Bool.and_eq_true] at h
    obtain ⟨zs, rfl⟩ := btw_ints h.2
    cases y with
    | int i => exact ⟨i :: zs, rfl⟩
    | _ => exact absurd h.1 (by simp [isBtw])
def srtB (ys : List PyData) : Bool := PyData.eqvAll ys (sortD ys)
theorem srt_ev {lo hi : Int} {ys : List PyData} (h : ys.all (isBtw lo hi) = true) : bltD .sorted [.tuple ys] = some (.own (.lst (sortD ys))) ∧ cmpD .Eq (.list ys) (.list (sortD ys)) = some (srtB ys) := by
  obtain ⟨zs, rfl⟩ := btw_ints h
  obtain ⟨l', h1, h2⟩ := sorted_ints zs
  have h1 : sortedD [.list (zs.map .int)] = some (.own (.lst (l'.map .int))) := h1
  rw [sortedD_list] at h1
  have hok : okSort (zs.map .int) = true := by
    cases q : okSort (zs.map PyData.int) with
    | true => rfl
    | false => rw [q] at h1; simp at h1
  rw [if_pos hok] at h1
  have hs : sortD (zs.map .int) = l'.map .int := by
    injection h1 with h1; injection h1 with h1; injection h1 with h1
  refine ⟨?_, ?_⟩
  · show sortedD [.tuple (zs.map .int)] = _
    rw [sortedD_tup, if_pos hok]
  · unfold srtB
    rw [hs, eq_sm (by show sm (59 + 1) _ = true; simp [sm, sm_ints]) (by show sm (59 + 1) _ = true; simp [sm, sm_ints])]
    rfl
def posB (most : Int) : PyData → Bool
  | .tuple ys => decide (ys.length ≤ 3) && (ys.all (isBtw 0 most) && srtB ys)
  | _ => false
def stB (v n : Int) : PyData → Bool
  | .tuple [b, .tuple cs, h] => isBtw (-1) (v - 1) b && (cs.all (isBtw 0 (n - 1)) && posB cs.length h)
  | _ => false
theorem are_positions_ev (k : Nat) (most : Int) (d : PyData) (hd : ∀ ys, d = .tuple ys → ys.length ≤ 1000000) : evF T (k + 3) .are_positions [.dat d, .dat (.int most)] = some (.dat (.bool (posB most d)), []) := by
  refine wv fun W hW => ?_
  rw [v_fn, v_run hW rfl (by decide) rfl]
  cases d with
  | tuple ys =>
    have hl := hd ys rfl
    have n1 : isTy (.tuple ys) .tuple = true := rfl
    have e1 := fun (d : PyData) => show evF T (k + 2) .is_within [.dat d, .dat (.int 0), .dat (.int most)] = _ from is_within_ev k d 0 most
    have hc := comp_map (Φ := evF T (k + 2)) (tg := .name 2) (own := [2]) (elt := c_are_positions_0) (ρ := [some (.dat (.tuple ys)), some (.dat (.int most)), none]) (fun d => .bool (isBtw 0 most d)) (ds := ys) fun d _ =>
      ⟨_, (.dat (.bool (isBtw 0 most d)), [some (.dat (.tuple ys)), some (.dat (.int most)), some (.dat d)]), _, rfl, (by simp -implicitDefEqProofs [c_are_positions_0, e1]), rfl, rfl⟩
    have ha := all_bools' (f := isBtw 0 most) (xs := ys)
    have hl2 : (ys.map fun d => PyData.bool (isBtw 0 most d)).length ≤ 1000000 := by rw [List.length_map]; exact hl
    have hit : itemsD (.tuple ys) = some ys := rfl
    have hp : posB most (.tuple ys) = (decide (ys.length ≤ 3) && (ys.all (isBtw 0 most) && srtB ys)) := rfl
    rw [hp]
    have hlst : bltD .list [.tuple ys] = some (.own (.lst ys)) := rfl
    generalize (ys.map fun d => PyData.bool (isBtw 0 most d)) = bs at *
    by_cases c : ys.length ≤ 3
    · have c' : ¬ ((3 : Int) < (ys.length : Int)) := by omega
      cases hall : ys.all (isBtw 0 most) with
      | true =>
        rw [hall] at ha
        obtain ⟨q1, q2⟩ := srt_ev hall
        simp -implicitDefEqProofs [T, d_are_positions, n1, c, c', hit, hc, szMax, hl2, ha, hlst, q1, q2]
      | false =>
        rw [hall] at ha
        simp -implicitDefEqProofs [T, d_are_positions, n1, c, c', hit, hc, szMax, hl2, ha]
    · have c' : ((3 : Int) < (ys.length : Int)) := by omega
      simp -implicitDefEqProofs [T, d_are_positions, n1, c, c']
  | _ => simp -implicitDefEqProofs [T, d_are_positions, isTy, posB]
end
section
variable {v : Int} {Ls : List (List Int)} {wr rs : List PyData}
theorem st_short {n : Int} {xs : List PyData} (h : xs.length ≠ 3) : stB v n (.tuple xs) = false := by
  unfold stB
  split
  · rename_i e
    injection e with e
    subst e
    exact absurd rfl h
  · rfl
theorem is_standing_ev (k : Nat) (V : PyData) {nn w : Nat} (hV : ShowOk (nn + 2) w V) (hw : w ≤ 1000000) : evF T (k + 4) .is_standing [.dat (encS v Ls wr rs), .dat V] = some (.dat (.bool (stB v Ls.length V)), []) := by
  have hS0 : idxD (encS v Ls wr rs) (.int 0) = some (.int v) := rfl
  have hS1 : idxD (encS v Ls wr rs) (.int 1) = some (.tuple (Ls.map iT)) := rfl
  generalize encS v Ls wr rs = S at *
  refine wv fun W hW => ?_
  rw [v_fn, v_run hW rfl (by decide) rfl]
  cases V with
  | tuple xs =>
    have n1 : isTy (.tuple xs) .tuple = true := rfl
    by_cases c3 : xs.length = 3
    · obtain ⟨b, c, h, rfl⟩ : ∃ b c h, xs = [b, c, h] := by
        match xs, c3 with
        | [b, c, h], _ => exact ⟨b, c, h, rfl⟩
      have hel := show_elem hV
      have e1 := fun (d : PyData) (lo hi : Int) => show evF T (k + 3) .is_within [.dat d, .dat (.int lo), .dat (.int hi)] = _ from is_within_ev (k + 1) d lo hi
      cases c with
      | tuple cs =>
        have hcl : cs.length ≤ w := show_len (hel (.tuple cs) (by simp))
        have hc := comp_map (Φ := evF T (k + 3)) (tg := .name 2) (own := [2]) (elt := c_is_standing_0) (ρ := [some (.dat S), some (.dat (.tuple [b, .tuple cs, h])), none]) (fun d => .bool (isBtw 0 ((Ls.length : Int) - 1) d)) (ds := cs) fun d _ =>
          ⟨_, (.dat (.bool (isBtw 0 ((Ls.length : Int) - 1) d)), [some (.dat S), some (.dat (.tuple [b, .tuple cs, h])), some (.dat d)]), _, rfl, (by simp -implicitDefEqProofs [c_is_standing_0, hS1, e1]), rfl, rfl⟩
        have ha := all_bools' (f := isBtw 0 ((Ls.length : Int) - 1)) (xs := cs)
        have hl2 : (cs.map fun d => PyData.bool (isBtw 0 ((Ls.length : Int) - 1) d)).length ≤ 1000000 := by rw [List.length_map]; omega
        have hit : itemsD (.tuple cs) = some cs := rfl
        have n2 : isTy (.tuple cs) .tuple = true := rfl
        have e2 : evF T (k + 3) .are_positions [.dat h, .dat (.int cs.length)] = _ := are_positions_ev k cs.length h fun ys hy => by
          have := show_len (n := nn + 1) (w := w) (xs := ys) (by rw [← hy]; exact hel h (by simp))
          omega
        have hs : stB v Ls.length (.tuple [b, .tuple cs, h]) = (isBtw (-1) (v - 1) b && (cs.all (isBtw 0 ((Ls.length : Int) - 1)) && posB cs.length h)) := rfl
        rw [hs]
        generalize (cs.map fun d => PyData.bool (isBtw 0 ((Ls.length : Int) - 1) d)) = bs at *
        have e3 := e1 b (-1) (v - 1)
        cases hb : isBtw (-1) (v - 1) b with
        | false =>
          rw [hb] at e3
          simp -implicitDefEqProofs [T, d_is_standing, n1, hS0, e3]
        | true =>
          rw [hb] at e3
          cases hall : cs.all (isBtw 0 ((Ls.length : Int) - 1)) with
          | false =>
            rw [hall] at ha
            simp -implicitDefEqProofs [T, d_is_standing, n1, hS0, e3, n2, hit, hc, szMax, hl2, ha]
          | true =>
            rw [hall] at ha
            simp -implicitDefEqProofs [T, d_is_standing, n1, hS0, e3, n2, hit, hc, szMax, hl2, ha, e2]
      | _ =>
        have e3 := e1 b (-1) (v - 1)
        cases hb : isBtw (-1) (v - 1) b with
        | false =>
          rw [hb] at e3
          simp -implicitDefEqProofs [T, d_is_standing, isTy, hS0, e3, stB]
        | true =>
          rw [hb] at e3
          simp -implicitDefEqProofs [T, d_is_standing, isTy, hS0, e3, stB]
    · have c3' : ¬ ((xs.length : Int) = 3) := by omega
      rw [st_short c3]
      simp -implicitDefEqProofs [T, d_is_standing, n1, c3']
  | _ => simp -implicitDefEqProofs [T, d_is_standing, isTy, stB]
theorem law_is_standing_ev (k : Nat) (V : PyData) {nn w : Nat} (hV : ShowOk (nn + 2) w V) (hw : w ≤ 1000000) : evF T (k + 2) .law_is_standing [.dat (encS v Ls wr rs), .dat V] = some (.dat (.bool (stB v Ls.length V)), []) := by
  have hS0 : idxD (encS v Ls wr rs) (.int 0) = some (.int v) := rfl
  have hS1 : idxD (encS v Ls wr rs) (.int 1) = some (.tuple (Ls.map iT)) := rfl
  generalize encS v Ls wr rs = S at *
  refine wv fun W hW => ?_
  rw [v_fn, v_run hW rfl (by decide) rfl]
  have e1 := fun (d : PyData) (lo hi : Int) => show evF T (k + 1) .law_is_integer [.dat d, .dat (.int lo), .dat (.int hi)] = _ from law_is_integer_ev k d lo hi
  cases V with
  | tuple xs =>
    have n1 : isTy (.tuple xs) .tuple = true := rfl
    by_cases c3 : xs.length = 3
    · obtain ⟨b, c, h, rfl⟩ : ∃ b c h, xs = [b, c, h] := by
        match xs, c3 with
        | [b, c, h], _ => exact ⟨b, c, h, rfl⟩
      have hel := show_elem hV
      have e3 := e1 b (-1) (v - 1)
      cases c with
      | tuple cs =>
        have hcl : cs.length ≤ w := show_len (hel (.tuple cs) (by simp))
        have hs : stB v Ls.length (.tuple [b, .tuple cs, h]) = (isBtw (-1) (v - 1) b && (cs.all (isBtw 0 ((Ls.length : Int) - 1)) && posB cs.length h)) := rfl
        rw [hs]
        have n2 : isTy (.tuple cs) .tuple = true := rfl
        have hc := fun (h' : PyData) => comp_map (Φ := evF T (k + 1)) (tg := .name 5) (own := [5]) (elt := c_law_is_standing_0) (ρ := [some (.dat S), some (.dat (.tuple [b, .tuple cs, h'])), some (.dat b), some (.dat (.tuple cs)), some (.dat h'), none]) (fun d => .bool (isBtw 0 ((Ls.length : Int) - 1) d)) (ds := cs) fun d _ =>
          ⟨_, (.dat (.bool (isBtw 0 ((Ls.length : Int) - 1) d)), [some (.dat S), some (.dat (.tuple [b, .tuple cs, h'])), some (.dat b), some (.dat (.tuple cs)), some (.dat h'), some (.dat d)]), _, rfl, (by simp -implicitDefEqProofs [c_law_is_standing_0, hS1, e1]), rfl, rfl⟩
        have ha := in_false (f := isBtw 0 ((Ls.length : Int) - 1)) (xs := cs)
        have hl2 : (cs.map fun d => PyData.bool (isBtw 0 ((Ls.length : Int) - 1) d)).length ≤ 1000000 := by rw [List.length_map]; omega
        have hit : itemsD (.tuple cs) = some cs := rfl
        have hany : ∀ (f : PyData → Bool) (l : List PyData), (l.any fun x => !f x) = !l.all f := fun f l => by rw [← List.not_all_eq_any_not]
        rw [hany] at ha
        generalize (cs.map fun d => PyData.bool (isBtw 0 ((Ls.length : Int) - 1) d)) = bs at *
        cases hb : isBtw (-1) (v - 1) b with
        | false =>
          rw [hb] at e3
          simp -implicitDefEqProofs [T, d_law_is_standing, n1, hS0, e3]
        | true =>
          rw [hb] at e3
          cases h with
          | tuple ys =>
            have hyl : ys.length ≤ w := show_len (hel (.tuple ys) (by simp))
            have n3 : isTy (.tuple ys) .tuple = true := rfl
            have hp : posB cs.length (.tuple ys) = (decide (ys.length ≤ 3) && (ys.all (isBtw 0 cs.length) && srtB ys)) := rfl
            rw [hp]
            by_cases c : ys.length ≤ 3
            · have c' : ¬ ((3 : Int) < (ys.length : Int)) := by omega
              cases hall : cs.all (isBtw 0 ((Ls.length : Int) - 1)) with
              | false =>
                rw [hall] at ha
                simp -implicitDefEqProofs [T, d_law_is_standing, n1, hS0, e3, n2, n3, c', hit, hc, szMax, hl2, ha]
              | true =>
                rw [hall] at ha
                have hc2 := comp_map (Φ := evF T (k + 1)) (tg := .name 5) (own := [5]) (elt := c_law_is_standing_1) (ρ := [some (.dat S), some (.dat (.tuple [b, .tuple cs, .tuple ys])), some (.dat b), some (.dat (.tuple cs)), some (.dat (.tuple ys)), none]) (fun d => .bool (isBtw 0 (cs.length : Int) d)) (ds := ys) fun d _ =>
                  ⟨_, (.dat (.bool (isBtw 0 (cs.length : Int) d)), [some (.dat S), some (.dat (.tuple [b, .tuple cs, .tuple ys])), some (.dat b), some (.dat (.tuple cs)), some (.dat (.tuple ys)), some (.dat d)]), _, rfl, (by simp -implicitDefEqProofs [c_law_is_standing_1, e1]), rfl, rfl⟩
                have ha2 := in_false (f := isBtw 0 (cs.length : Int)) (xs := ys)
                rw [hany] at ha2
                have hl3 : (ys.map fun d => PyData.bool (isBtw 0 (cs.length : Int) d)).length ≤ 1000000 := by rw [List.length_map]; omega
                have hit2 : itemsD (.tuple ys) = some ys := rfl
                have hlst : bltD .list [.tuple ys] = some (.own (.lst ys)) := rfl
                generalize (ys.map fun d => PyData.bool (isBtw 0 (cs.length : Int) d)) = bs2 at *
                cases hall2 : ys.all (isBtw 0 (cs.length : Int)) with
                | false =>
                  rw [hall2] at ha2
                  simp -implicitDefEqProofs [T, d_law_is_standing, n1, hS0, e3, n2, n3, c', hit, hc, szMax, hl2, ha, hit2, hc2, hl3, ha2]
                | true =>
                  rw [hall2] at ha2
                  obtain ⟨q1, q2⟩ := srt_ev hall2
                  simp -implicitDefEqProofs [T, d_law_is_standing, n1, hS0, e3, n2, n3, c, c', hit, hc, szMax, hl2, ha, hit2, hc2, hl3, ha2, hlst, q1, q2]
            · have c' : ((3 : Int) < (ys.length : Int)) := by omega
              simp -implicitDefEqProofs [T, d_law_is_standing, n1, hS0, e3, n2, n3, c', c]
          | _ => simp -implicitDefEqProofs [T, d_law_is_standing, isTy, hS0, e3, posB]
      | _ =>
        cases hb : isBtw (-1) (v - 1) b with
        | false =>
          rw [hb] at e3
          simp -implicitDefEqProofs [T, d_law_is_standing, isTy, hS0, e3, stB]
        | true =>
          rw [hb] at e3
          simp -implicitDefEqProofs [T, d_law_is_standing, isTy, hS0, e3, stB]
    · have c3' : ¬ ((xs.length : Int) = 3) := by omega
      rw [st_short c3]
      simp -implicitDefEqProofs [T, d_law_is_standing, n1, c3']
  | _ => simp -implicitDefEqProofs [T, d_law_is_standing, isTy, stB]
end
end LW

namespace LW
open PySem SP
section
theorem at_int {i : Int} (h : -1000000 ≤ i) (h2 : i ≤ 1000000) : ShowOk 0 30 (.int i) := show_mid h h2
theorem at_bool {c : Bool} : ShowOk 0 30 (.bool c) := ⟨by simp [PyData.leavesShort], by simp [PyData.showable], by simp [PyData.depth], by simp [PyData.weight]⟩
theorem at_none : ShowOk 0 30 .none := ⟨by simp [PyData.leavesShort], by simp [PyData.showable], by simp [PyData.depth], by simp [PyData.weight]⟩
theorem row_t {ds : List PyData} (h : ∀ d ∈ ds, ShowOk 0 30 d) (hl : ds.length ≤ 30) : ShowOk 1 930 (.tuple ds) := (show_tup h).mono (Nat.le_refl _) (by omega)
theorem row_l {ds : List PyData} (h : ∀ d ∈ ds, ShowOk 0 30 d) (hl : ds.length ≤ 30) : ShowOk 1 930 (.list ds) := (show_lst h).mono (Nat.le_refl _) (by omega)
theorem row_i {l : List Int} (h : ∀ a ∈ l, -1000 ≤ a ∧ a ≤ 1000) (hl : l.length ≤ 30) : ShowOk 1 930 (iT l) := row_t (fun d hd => by
  obtain ⟨a, ha, rfl⟩ := List.mem_map.mp hd
  have := h a ha
  exact at_int (by omega) (by omega)) (by rw [List.length_map]; exact hl)
theorem three {a b c : PyData} (ha : ShowOk 1 930 a) (hb : ShowOk 1 930 b) (hc : ShowOk 1 930 c) : ShowOk 5 5000 (.tuple [a, b, c]) := (show_tup (n := 1) (w := 930) (ds := [a, b, c]) fun d hd => by
  simp only [List.mem_cons, List.not_mem_nil, or_false] at hd
  rcases hd with rfl | rfl | rfl
  · exact ha
  · exact hb
  · exact hc).mono (by omega) (by simp)
theorem up1 {d : PyData} (h : ShowOk 0 30 d) : ShowOk 1 930 d := h.mono (by omega) (by omega)
end
section
variable {v : Int} {Ls : List (List Int)} {wr rs : List PyData}
theorem near_ev (k b : Nat) {m : MO} (hm : PenOk b m) (hb : b ≤ 700000000) (hv0 : 1 ≤ v) (hv : v ≤ 100) (hn : Ls.length ≤ 100) {s : St} (o : StOk v Ls.length s) (hc20 : s.cs.length ≤ 20) :
    ∃ (s' : Sl) (m' : MO), evF T (k + 8) .law_near [.own m, .dat (encS v Ls wr rs), .dat (encT s)] = some (s', [m']) ∧ ShowOk 5 5000 s'.data ∧ PenOk (b + 30) m' := by
  have hS0 : idxD (encS v Ls wr rs) (.int 0) = some (.int v) := rfl
  have hS1 : idxD (encS v Ls wr rs) (.int 1) = some (.tuple (Ls.map iT)) := rfl
  generalize encS v Ls wr rs = S at *
  obtain ⟨sb, cs, hs⟩ := s
  obtain ⟨b0, b1, oc, oh, ocl, ohl⟩ := o
  simp only at b0 b1 oc oh ocl ohl hc20
  have hT : encT ⟨sb, cs, hs⟩ = .tuple [.int sb, iT cs, iT hs] := rfl
  rw [hT]
  have gB : ShowOk 1 930 (.int sb) := up1 (at_int (by omega) (by omega))
  have gC : ShowOk 1 930 (iT cs) := row_i (fun a ha => by have := oc a ha; omega) (by omega)
  have gH : ShowOk 1 930 (iT hs) := row_i (fun a ha => by have := oh a ha; omega) (by omega)
  have lnC : bltD .len [iT cs] = some (.dat (.int cs.length)) := by unfold iT; rw [y_len2, List.length_map]
  obtain ⟨way, m1, e1, w0, w1, hm1⟩ := take_ev (k + 5) b m 7 hm (by omega) (by omega) (by omega)
  refine wv fun W hW => ?_
  by_cases c0 : way = 0
  · subst c0
    obtain ⟨r, m2, e2, hr, hm2⟩ := one_of_ev (k + 4) (b + 1) m1 [.int (-2), .int (-1), .int v, .int (v - 1), .bool true, .none] hm1 (by omega) (by simp) (by simp)
    refine ⟨.dat (.tuple [r, iT cs, iT hs]), m2, ?_, ?_, hm2.mono (by omega)⟩
    · rw [v_fn, v_run hW rfl (by decide) rfl]
      simp -implicitDefEqProofs [T, d_law_near, e1, hS0, e2, szMax]
    · refine three ?_ gC gH
      simp only [List.mem_cons, List.not_mem_nil, or_false] at hr
      rcases hr with rfl | rfl | rfl | rfl | rfl | rfl
      · exact up1 (at_int (by omega) (by omega))
      · exact up1 (at_int (by omega) (by omega))
      · exact up1 (at_int (by omega) (by omega))
      · exact up1 (at_int (by omega) (by omega))
      · exact up1 at_bool
      · exact up1 at_none
  by_cases c1 : way = 1
  · subst c1
    obtain ⟨od, m2, e2, hod, hm2⟩ := one_of_ev (k + 4) (b + 1) m1 [.int Ls.length, .int (-1), .int 0, .bool false, .none] hm1 (by omega) (by simp) (by simp)
    have gO : ShowOk 0 30 od := by
      simp only [List.mem_cons, List.not_mem_nil, or_false] at hod
      rcases hod with rfl | rfl | rfl | rfl | rfl
      · exact at_int (by omega) (by omega)
      · exact at_int (by omega) (by omega)
      · exact at_int (by omega) (by omega)
      · exact at_bool
      · exact at_none
    have a1 : binD .Add (iT cs) (.tuple [od]) = some (.dat (.tuple (cs.map .int ++ [od]))) := y_catT (by rw [List.length_map]; show cs.length + 1 ≤ 1000000; omega)
    have a2 : binD .Add (.tuple [od]) (iT cs) = some (.dat (.tuple ([od] ++ cs.map .int))) := y_catT (by rw [List.length_map]; show 1 + cs.length ≤ 1000000; omega)
    have a3 : bltD .list [iT cs] = some (.own (.lst (cs.map .int))) := rfl
    have a4 : slcD (iT cs) (some 1) none = some (.dat (iT (cs.drop 1))) := by
      show some (Sl.dat (.tuple (cutL (cs.map .int) (some 1) none))) = _
      rw [cut_dr (by decide), ← List.map_drop]; rfl
    obtain ⟨r, m3, e3, hr, hm3⟩ := one_of_ev (k + 4) (b + 1 + 1) m2 [.tuple (cs.map .int ++ [od]), .list (cs.map .int), iT (cs.drop 1), .tuple ([od] ++ cs.map .int)] hm2 (by omega) (by simp) (by simp)
    refine ⟨.dat (.tuple [.int sb, r, iT hs]), m3, ?_, ?_, hm3.mono (by omega)⟩
    · rw [v_fn, v_run hW rfl (by decide) rfl]
      have q : ∀ x : List PyData, ([od] ++ x) = od :: x := fun _ => rfl
      simp only [q] at a2 e3
      generalize iT (List.drop 1 cs) = z1 at *
      simp -implicitDefEqProofs [T, d_law_near, e1, hS1, e2, a1, a2, a3, a4, e3, szMax]
    · refine three gB ?_ gH
      have ci : ∀ d ∈ cs.map PyData.int, ShowOk 0 30 d := fun d hd => by
        obtain ⟨a, ha, rfl⟩ := List.mem_map.mp hd
        have := oc a ha
        exact at_int (by omega) (by omega)
      simp only [List.mem_cons, List.not_mem_nil, or_false] at hr
      rcases hr with rfl | rfl | rfl | rfl
      · exact row_t (fun d hd => (List.mem_append.mp hd).elim (ci d) fun q => by rw [List.mem_singleton] at q; exact q ▸ gO) (by rw [List.length_append, List.length_map]; simp; omega)
      · exact row_l ci (by rw [List.length_map]; omega)
      · exact row_i (fun a ha => by have := oc a (List.mem_of_mem_drop ha); omega) (by rw [List.length_drop]; omega)
      · exact row_t (fun d hd => (List.mem_append.mp hd).elim (fun q => by rw [List.mem_singleton] at q; exact q ▸ gO) (ci d)) (by rw [List.length_append, List.length_map]; simp; omega)
  by_cases c2 : way < 4
  · have a1 : revD (iT hs) = some (.dat (iT hs.reverse)) := by
      show some (Sl.dat (.tuple (hs.map PyData.int).reverse)) = _
      rw [← List.map_reverse]; rfl
    have a2 : ∀ x : Int, binD .Add (iT hs) (.tuple [.int x]) = some (.dat (iT (hs ++ [x]))) := fun x => cat_iT (b := [x]) (by simp only [List.length_singleton]; omega)
    have a3 : binD .Add (.tuple [.int (-1)]) (iT hs) = some (.dat (iT ([-1] ++ hs))) := cat_iT (a := [-1]) (by simp only [List.length_singleton]; omega)
    have a4 : binD .Mult (.tuple [.int 0]) (.int 3) = some (.dat (iT [0, 0, 0])) := by rw [y_repT (by simp)]; rfl
    have a5 : binD .Mult (.tuple [.int 0]) (.int 4) = some (.dat (iT [0, 0, 0, 0])) := by rw [y_repT (by simp)]; rfl
    have a6 : bltD .list [iT hs] = some (.own (.lst (hs.map .int))) := rfl
    have a7 : binD .Add (.list [iT hs.reverse, iT (hs ++ [(cs.length : Int)]), iT (hs ++ [(cs.length : Int) + 1]), iT ([-1] ++ hs), iT [0, 0, 0], iT [0, 0, 0, 0], .tuple [.int cs.length, .int 0]]) (.list [.list (hs.map .int), .tuple [.bool true], .tuple [.bool false], .tuple [.none]]) =
      some (.own (.lst [iT hs.reverse, iT (hs ++ [(cs.length : Int)]), iT (hs ++ [(cs.length : Int) + 1]), iT ([-1] ++ hs), iT [0, 0, 0], iT [0, 0, 0, 0], .tuple [.int cs.length, .int 0], .list (hs.map .int), .tuple [.bool true], .tuple [.bool false], .tuple [.none]])) := y_cat (by show 7 + 4 ≤ 1000000; omega)
    obtain ⟨r, m3, e3, hr, hm3⟩ := one_of_ev (k + 4) (b + 1) m1 [iT hs.reverse, iT (hs ++ [(cs.length : Int)]), iT (hs ++ [(cs.length : Int) + 1]), iT ([-1] ++ hs), iT [0, 0, 0], iT [0, 0, 0, 0], .tuple [.int cs.length, .int 0], .list (hs.map .int), .tuple [.bool true], .tuple [.bool false], .tuple [.none]] hm1 (by omega) (by simp) (by simp)
    refine ⟨.dat (.tuple [.int sb, iT cs, r]), m3, ?_, ?_, hm3.mono (by omega)⟩
    · rw [v_fn, v_run hW rfl (by decide) rfl]
      generalize iT hs.reverse = z1 at *
      have z2 := a2 (cs.length : Int)
      have z3 := a2 ((cs.length : Int) + 1)
      generalize iT (hs ++ [(cs.length : Int)]) = z4 at *
      generalize iT (hs ++ [(cs.length : Int) + 1]) = z5 at *
      generalize iT ([-1] ++ hs) = z6 at *
      generalize iT [0, 0, 0] = z7 at *
      generalize iT [0, 0, 0, 0] = z8 at *
      simp -implicitDefEqProofs [T, d_law_near, e1, c0, c1, c2, lnC, a1, z2, z3, a3, a4, a5, a6, a7, e3, szMax]
    · refine three gB gC ?_
      have hi : ∀ a ∈ hs, -1000 ≤ a ∧ a ≤ 1000 := fun a ha => by have := oh a ha; omega
      simp only [List.mem_cons, List.not_mem_nil, or_false] at hr
      have snoc : ∀ x : Int, -1000 ≤ x → x ≤ 1000 → ∀ a ∈ hs ++ [x], -1000 ≤ a ∧ a ≤ 1000 := fun x h1 h2 a ha => (List.mem_append.mp ha).elim (hi a) fun q => by rw [List.mem_singleton] at q; omega
      have one : ∀ d : PyData, ShowOk 0 30 d → ShowOk 1 930 (.tuple [d]) := fun d hd => row_t (fun x hx => by rw [List.mem_singleton] at hx; exact hx ▸ hd) (by simp)
      rcases hr with rfl | rfl | rfl | rfl | rfl | rfl | rfl | rfl | rfl | rfl | rfl
      · exact row_i (fun a ha => hi a (List.mem_reverse.mp ha)) (by rw [List.length_reverse]; omega)
      · exact row_i (snoc _ (by omega) (by omega)) (by rw [List.length_append]; simp; omega)
      · exact row_i (snoc _ (by omega) (by omega)) (by rw [List.length_append]; simp; omega)
      · exact row_i (fun a ha => (List.mem_append.mp ha).elim (fun q => by rw [List.mem_singleton] at q; omega) (hi a)) (by rw [List.length_append]; simp; omega)
      · exact row_i (fun a ha => by simp only [List.mem_cons, List.not_mem_nil, or_false] at ha; omega) (by simp)
      · exact row_i (fun a ha => by simp only [List.mem_cons, List.not_mem_nil, or_false] at ha; omega) (by simp)
      · exact row_i (l := [(cs.length : Int), 0]) (fun a ha => by simp only [List.mem_cons, List.not_mem_nil, or_false] at ha; omega) (by simp)
      · exact row_l (fun d hd => by
          obtain ⟨a, ha, rfl⟩ := List.mem_map.mp hd
          have := hi a ha
          exact at_int (by omega) (by omega)) (by rw [List.length_map]; omega)
      · exact one _ at_bool
      · exact one _ at_bool
      · exact one _ at_none
  by_cases c4 : way = 4
  · subst c4
    obtain ⟨t, m2, e2, t0, t1, hm2⟩ := take_ev (k + 5) (b + 1) m1 3 hm1 (by omega) (by omega) (by omega)
    by_cases ct : t = 0
    · have a1 : binD .Add (iT hs) (.tuple [.int 9]) = some (.dat (iT (hs ++ [9]))) := cat_iT (b := [9]) (by simp only [List.length_singleton]; omega)
      have a2 : binD .Add (iT cs) (.tuple [.int (-1)]) = some (.dat (iT (cs ++ [-1]))) := cat_iT (b := [-1]) (by simp only [List.length_singleton]; omega)
      obtain ⟨r, m3, e3, hr, hm3⟩ := one_of_ev (k + 4) (b + 1 + 1) m2 [.tuple [.int (-2), iT cs, iT (hs ++ [9])], .tuple [.int v, iT (cs ++ [-1]), iT hs], .tuple [.int sb, .tuple [.int 9], .tuple [.int 5]]] hm2 (by omega) (by simp) (by simp)
      refine ⟨.dat r, m3, ?_, ?_, hm3.mono (by omega)⟩
      · rw [v_fn, v_run hW rfl (by decide) rfl]
        generalize iT (hs ++ [9]) = z4 at *
        generalize iT (cs ++ [-1]) = z5 at *
        simp -implicitDefEqProofs [T, d_law_near, e1, e2, ct, hS0, a1, a2, e3, szMax]
      · have h9 : ShowOk 1 930 (iT (hs ++ [9])) := row_i (fun a ha => (List.mem_append.mp ha).elim (fun q => by have := oh a q; omega) fun q => by rw [List.mem_singleton] at q; omega) (by rw [List.length_append]; simp; omega)
        have hm1' : ShowOk 1 930 (iT (cs ++ [-1])) := row_i (fun a ha => (List.mem_append.mp ha).elim (fun q => by have := oc a q; omega) fun q => by rw [List.mem_singleton] at q; omega) (by rw [List.length_append]; simp; omega)
        have o9 : ShowOk 1 930 (.tuple [.int 9]) := row_i (l := [9]) (fun a ha => by rw [List.mem_singleton] at ha; omega) (by simp)
        have o5 : ShowOk 1 930 (.tuple [.int 5]) := row_i (l := [5]) (fun a ha => by rw [List.mem_singleton] at ha; omega) (by simp)
        simp only [List.mem_cons, List.not_mem_nil, or_false] at hr
        rcases hr with rfl | rfl | rfl
        · exact three (up1 (at_int (by omega) (by omega))) gC h9
        · exact three (up1 (at_int (by omega) (by omega))) hm1' gH
        · exact three gB o9 o5
    · have a1 : slcD (.tuple [.int sb, iT cs, iT hs]) none (some 2) = some (.dat (.tuple [.int sb, iT cs])) := cut2
      have a2 : bltD .list [.tuple [.int sb, iT cs, iT hs]] = some (.own (.lst [.int sb, iT cs, iT hs])) := rfl
      have a3 : binD .Add (.tuple [.int sb, iT cs, iT hs]) (.tuple [.int 0]) = some (.dat (.tuple [.int sb, iT cs, iT hs, .int 0])) := y_catT (by show 3 + 1 ≤ 1000000; omega)
      obtain ⟨r, m3, e3, hr, hm3⟩ := one_of_ev (k + 4) (b + 1 + 1) m2 [.tuple [.int sb, iT cs], .list [.int sb, iT cs, iT hs], .tuple [.int sb, iT cs, iT hs, .int 0], .tuple [iT cs, .int sb, iT hs], .none] hm2 (by omega) (by simp) (by simp)
      refine ⟨.dat r, m3, ?_, ?_, hm3.mono (by omega)⟩
      · rw [v_fn, v_run hW rfl (by decide) rfl]
        simp -implicitDefEqProofs [T, d_law_near, e1, e2, ct, a1, a2, a3, e3, szMax]
      · simp only [List.mem_cons, List.not_mem_nil, or_false] at hr
        have rows : ∀ ds : List PyData, (∀ d ∈ ds, ShowOk 1 930 d) → ds.length ≤ 4 → ShowOk 5 5000 (.tuple ds) ∧ ShowOk 5 5000 (.list ds) := fun ds h hl => ⟨(show_tup h).mono (by omega) (by omega), (show_lst h).mono (by omega) (by omega)⟩
        have z0 : ShowOk 1 930 (.int 0) := up1 (at_int (by omega) (by omega))
        rcases hr with rfl | rfl | rfl | rfl | rfl
        · refine (rows _ (fun d hd => ?_) (by simp)).1
          simp only [List.mem_cons, List.not_mem_nil, or_false] at hd
          rcases hd with rfl | rfl <;> assumption
        · refine (rows _ (fun d hd => ?_) (by simp)).2
          simp only [List.mem_cons, List.not_mem_nil, or_false] at hd
          rcases hd with rfl | rfl | rfl <;> assumption
        · refine (rows _ (fun d hd => ?_) (by simp)).1
          simp only [List.mem_cons, List.not_mem_nil, or_false] at hd
          rcases hd with rfl | rfl | rfl | rfl <;> assumption
        · exact three gC gB gH
        · exact at_none.mono (by omega) (by omega)
  · have hbi : bi 2 (.tuple [.int sb, iT cs, iT hs]) = true := by
      have r1 : bi 1 (iT cs) = true := by
        show (decide ((cs.map PyData.int).length ≤ 1000) && biAll 0 (cs.map .int)) = true
        rw [Bool.and_eq_true, List.length_map]
        refine ⟨decide_eq_true (by omega), biAll_of fun x hx => ?_⟩
        obtain ⟨a, ha, rfl⟩ := List.mem_map.mp hx
        have := oc a ha
        simp [bi]; omega
      have r2 : bi 1 (iT hs) = true := by
        show (decide ((hs.map PyData.int).length ≤ 1000) && biAll 0 (hs.map .int)) = true
        rw [Bool.and_eq_true, List.length_map]
        refine ⟨decide_eq_true (by omega), biAll_of fun x hx => ?_⟩
        obtain ⟨a, ha, rfl⟩ := List.mem_map.mp hx
        have := oh a ha
        simp [bi]; omega
      have r3 : bi 1 (.int sb) = true := by simp [bi]; omega
      simp [bi, biAll, r1, r2, r3]
      omega
    obtain ⟨s, m2, e2, hs2, hm2⟩ := bent_ev 2 k (b + 1) m1 (.tuple [.int sb, iT cs, iT hs]) (by omega) hbi hm1 (by omega)
    have hw1 := gB.2.2.2
    have hw2 := gC.2.2.2
    have hw3 := gH.2.2.2
    have hwt : (PyData.tuple [.int sb, iT cs, iT hs]).weight ≤ 2400 := by
      have c1 := weight_iT (l := cs) fun a ha => by have := oc a ha; omega
      have c2 := weight_iT (l := hs) fun a ha => by have := oh a ha; omega
      have c3 := w_int (i := sb) (by omega) (by omega)
      have : (PyData.tuple [.int sb, iT cs, iT hs]).weight = (PyData.int sb).weight + 1 + ((iT cs).weight + 1 + ((iT hs).weight + 1 + 0)) := by simp [PyData.weight, PyData.weightAll]
      omega
    have hok : ShowOk 5 5000 s.data := hs2.mono (by omega) (by omega)
    refine ⟨s, m2, ?_, hok, hm2.mono (by omega)⟩
    cases s with
    | dat r =>
      rw [v_fn, v_run hW rfl (by decide) rfl]
      simp -implicitDefEqProofs [T, d_law_near, e1, c0, c1, c2, c4, e2]
    | own r =>
      rw [v_fn, v_run hW rfl (by decide) rfl]
      simp -implicitDefEqProofs [T, d_law_near, e1, c0, c1, c2, c4, e2]
end
end LW

namespace LW
open PySem SP
section
variable {v : Int} {Ls : List (List Int)} {ws : List Int} {Rs : List (Int × Int × Int)} {most : Nat}
theorem law_b0 (W b : Nat) (C : Sch v Ls ws Rs 5) {m : MO} (hm : PenOk b m) (hb : b ≤ 900000000) {s : St} (o : StOk v Ls.length s) (hl : s.cs.length < 15) (s0 s2 s3 s4 s7 : Option Sl) :
    ∃ s' m', evB (evF T 15) W b_law_0 [s0, some (.own m), s2, s3, s4, some (.dat (encS v Ls (ws.map .int) (Rs.map encR))), some (.dat (encT s)), s7] =
      some (.nx [s0, some (.own m'), s2, s3, s4, some (.dat (encS v Ls (ws.map .int) (Rs.map encR))), some (.dat (encT s')), s7]) ∧ StOk v Ls.length s' ∧ s'.cs.length ≤ s.cs.length + 1 ∧ PenOk (b + 1) m' := by
  have hw1 := C.w1
  have hn1 := C.n1
  have hr1 := C.r1
  have hw0 := C.w0
  have e2 : evF T 15 .law_steps [.dat (encS v Ls (ws.map .int) (Rs.map encR)), .dat (encT s)] = _ := law_steps_ev 13 o (by omega) (by omega)
  have hL3 : (lawL Rs ws s).length ≤ 3000 := by rw [← (prog_law Rs ws s).length_eq]; exact progL_len Rs ws o (by omega)
  have hne : lawL Rs ws s ≠ [] := by
    intro h
    have : (ws.map Stp.wr).length ≤ (lawL Rs ws s).length := by unfold lawL; rw [List.length_append]; omega
    rw [h, List.length_map] at this
    simp only [List.length_nil] at this
    omega
  obtain ⟨r, m3, e3, hr, hm3⟩ := one_of_ev 12 b m ((lawL Rs ws s).map encP) hm (by omega) (by simp [hne]) (by simp; omega)
  obtain ⟨st, hst, rfl⟩ := List.mem_map.mp hr
  have e4 : evF T 15 .law_next [.dat (encS v Ls (ws.map .int) (Rs.map encR)), .dat (encT s), .dat (encP st)] = _ := next_ev 13 C.eff o (by omega) hst (ws.map .int)
  obtain ⟨o3, l3⟩ := nxt_ok C.eff o C.r C.w hst (by omega)
  generalize encS v Ls (ws.map .int) (Rs.map encR) = S at *
  refine ⟨nxt Ls Rs s st, m3, ?_, o3, l3, hm3⟩
  have e3' : evF T 15 .law_one_of [.own m, .dat (.list ((lawL Rs ws s).map encP))] = some (.dat (encP st), [m3]) := e3
  generalize (lawL Rs ws s).map encP = L at *
  simp -implicitDefEqProofs [b_law_0, e2, e3', e4]
theorem law_b2 (W : Nat) {V : PyData} (hV : ShowOk 5 5000 V) (s0 s1 s2 s3 s6 s7 : Option Sl) :
    ∃ t7, evB (evF T 15) W b_law_2 [s0, s1, s2, s3, some (.dat V), some (.dat (encS v Ls (ws.map .int) (Rs.map encR))), s6, s7] =
      some (.nx [s0, s1, s2, s3, some (.dat V), some (.dat (encS v Ls (ws.map .int) (Rs.map encR))), s6, t7]) := by
  have r1 := y_reprS hV (by omega) (by omega)
  have e1 : evF T 15 .is_standing [.dat (encS v Ls (ws.map .int) (Rs.map encR)), .dat V] = _ := is_standing_ev 11 V (nn := 3) hV (by omega)
  have e2 : evF T 15 .law_is_standing [.dat (encS v Ls (ws.map .int) (Rs.map encR)), .dat V] = _ := law_is_standing_ev 13 V (nn := 3) hV (by omega)
  have e3 := fun (c : Bool) => show evF T 15 .law_same [.dat (.bool c), .dat (.bool c)] = some (.dat (.bool true), []) from same_refl 0 14 _ rfl
  generalize encS v Ls (ws.map .int) (Rs.map encR) = S at *
  refine ⟨some (.dat (.str V.shown)), ?_⟩
  simp -implicitDefEqProofs [b_law_2, r1, e1, e2, e3]
theorem law_b3 (W b : Nat) {m : MO} (hm : PenOk b m) (hb : b ≤ 600000000) (s0 s2 s3 s4 s5 s6 s7 : Option Sl) (h3 : isOwn s3 = false) :
    ∃ m' t3 t4 t5 t6 t7, evB (evF T 15) W b_law_3 [s0, some (.own m), s2, s3, s4, s5, s6, s7] =
      some (.nx [s0, some (.own m'), s2, t3, t4, t5, t6, t7]) ∧ PenOk (b + 200000) m' ∧ isOwn t3 = false := by
  obtain ⟨S, m1, e1, hS, hm1⟩ := draw_scheme_ev 10 b 5 m 3 6 hm (by omega) (by omega) (by omega) (by omega) (by omega) (by omega) (by omega)
  obtain ⟨v, Ls, ws, Rs, rfl, C⟩ := sch_full hS (by omega)
  have hn1 := C.n1
  have hv0 := C.v0
  have hv1 := C.v1
  have e1' : evF T 15 .law_draw_scheme [.own m, .dat (.int 5), .dat (.int 3), .dat (.int 6)] = some (.dat (encS v Ls (ws.map .int) (Rs.map encR)), [m1]) := e1
  obtain ⟨u, m2, e2, u0, u1, hm2⟩ := take_ev 13 (b + 100000) m1 9 hm1 (by omega) (by omega) (by omega)
  have e2' : evF T 15 .law_take [.own m1, .dat (.int 9)] = some (.dat (.int u), [m2]) := e2
  have oku : okRng 0 u = true := ok_rng (by omega) (by omega) (by omega) (by omega)
  have hul : (rngL 0 u).length = u.toNat := by rw [rngL_len]; omega
  obtain ⟨ρ1, f1, m3, s, t3, rfl, h3', o, l, hm3⟩ := for_inv (Φ := evF T 15) (W := W) (tg := .name 3) (b := b_law_0) (ds := rngL 0 u)
    (fun j ρ => ∃ m' s' t3, ρ = [s0, some (.own m'), s2, t3, s4, some (.dat (encS v Ls (ws.map .int) (Rs.map encR))), some (.dat (encT s')), s7] ∧ isOwn t3 = false ∧ StOk v Ls.length s' ∧ s'.cs.length ≤ j ∧ PenOk (b + 100001 + j) m')
    (ρ := [s0, some (.own m2), s2, s3, s4, some (.dat (encS v Ls (ws.map .int) (Rs.map encR))), some (.dat (encT ⟨-1, [], []⟩)), s7])
    ⟨m2, _, s3, rfl, h3, ⟨Int.le_refl _, (by show (-1 : Int) < v; omega), (fun _ z => nomatch z), (fun _ z => nomatch z), Nat.zero_le _, Nat.zero_le _⟩, Nat.le_refl _, hm2⟩ (fun j d ρ hd ⟨m', s', t3, hρ, h6, o, l, p⟩ => by
      subst hρ
      have hj : j < (rngL 0 u).length := (List.getElem?_eq_some_iff.mp hd).1
      obtain ⟨s3', m3, q1, q2, q3, q4⟩ := law_b0 W (b + 100001 + j) C p (by omega) o (by omega) s0 s2 (some (.dat d)) s4 s7
      exact ⟨_, _, _, rfl, q1, .inl rfl, m3, s3', _, rfl, rfl, q2, (by omega), q4⟩)
  have hl9 : s.cs.length ≤ 8 := by omega
  -- the values
  have near := fun (bb : Nat) (pen : MO) (hp : PenOk bb pen) (hbb : bb ≤ 700000000) => show ∃ (s' : Sl) (m' : MO), evF T 15 .law_near [.own pen, .dat (encS v Ls (ws.map .int) (Rs.map encR)), .dat (encT s)] = some (s', [m']) ∧ _ from near_ev (wr := ws.map .int) (rs := Rs.map encR) 7 bb hp hbb hv0 (by omega) (by omega) o (by omega)
  have hb2 := fun (V : PyData) (hV : ShowOk 5 5000 V) => law_b2 (v := v) (Ls := Ls) (ws := ws) (Rs := Rs) W hV
  have hT : ShowOk 5 5000 (encT s) := by
    obtain ⟨sb, cs, hs⟩ := s
    obtain ⟨b0, b1, oc, oh, ocl, ohl⟩ := o
    simp only at b0 b1 oc oh ocl ohl hl9
    show ShowOk 5 5000 (.tuple [.int sb, iT cs, iT hs])
    exact three (up1 (at_int (by omega) (by omega))) (row_i (fun a ha => by have := oc a ha; omega) (by omega)) (row_i (fun a ha => by have := oh a ha; omega) (by omega))
  have et : PyData.tuple [.int (-1), .tuple [], .tuple []] = encT ⟨-1, [], []⟩ := rfl
  generalize encS v Ls (ws.map .int) (Rs.map encR) = S at *
  generalize encT s = TT at *
  have h12 : (rngL 0 12).length = 12 := rfl
  have ok12 : okRng 0 12 = true := rfl
  obtain ⟨ys, ρ2, c1, ⟨m4, t3', hρ2, h3'', hm4⟩, hys, hyl⟩ := comp_all (Φ := evF T 15) (tg := .name 3) (elt := c_law_1) (own := [3])
    (fun j ρ => ∃ m' t3, ρ = [s0, some (.own m'), s2, t3, s4, some (.dat S), some (.dat TT), s7] ∧ isOwn t3 = false ∧ PenOk (b + 100001 + u.toNat + 30 * j) m') (ShowOk 5 5000)
    (ds := rngL 0 12) (ρ := [s0, some (.own m3), s2, none, s4, some (.dat S), some (.dat TT), s7]) ⟨m3, none, rfl, rfl, hm3.mono (by omega)⟩ (fun j d ρ hd ⟨m', t3, hρ, hh, p⟩ => by
      subst hρ
      have hj : j < (rngL 0 12).length := (List.getElem?_eq_some_iff.mp hd).1
      obtain ⟨s', m5, q1, q2, q3⟩ := near _ m' p (by omega)
      cases s' with
      | dat r => exact ⟨_, _, _, _, rfl, (by simp -implicitDefEqProofs [c_law_1, q1]; rfl), rfl, q2, m5, none, rfl, rfl, q3.mono (by omega)⟩
      | own r => exact ⟨_, _, _, _, rfl, (by simp -implicitDefEqProofs [c_law_1, q1]; rfl), rfl, q2, m5, none, rfl, rfl, q3.mono (by omega)⟩)
  subst hρ2
  have hall : ∀ V ∈ [TT, .none, .tuple [], .dict []] ++ ys, ShowOk 5 5000 V := fun V hV => by
    rcases List.mem_append.mp hV with h | h
    · simp only [List.mem_cons, List.not_mem_nil, or_false] at h
      rcases h with rfl | rfl | rfl | rfl
      · exact hT
      · exact at_none.mono (by omega) (by omega)
      · exact ⟨by decide, by decide, by decide, by decide⟩
      · exact ⟨by decide, by decide, by decide, by decide⟩
    · exact hys V h
  obtain ⟨ρ3, f3, t4, t7, hρ3⟩ := for_inv (Φ := evF T 15) (W := W) (tg := .name 4) (b := b_law_2) (ds := [TT, .none, .tuple [], .dict []] ++ ys)
    (fun j ρ => ∃ t4 t7, ρ = [s0, some (.own m4), s2, t3, t4, some (.dat S), some (.dat TT), t7])
    (ρ := [s0, some (.own m4), s2, t3, s4, some (.dat S), some (.dat TT), s7]) ⟨s4, s7, rfl⟩ (fun j d ρ hd ⟨t4, t7, hρ⟩ => by
      subst hρ
      obtain ⟨t7', q⟩ := hb2 d (hall d (List.mem_of_getElem? hd)) s0 (some (.own m4)) s2 t3 (some (.dat TT)) t7
      exact ⟨_, _, _, rfl, q, .inl rfl, some (.dat d), t7', rfl⟩)
  subst hρ3
  refine ⟨m4, t3, t4, some (.dat S), some (.dat TT), t7, ?_, hm4.mono (by omega), h3'⟩
  have hcat : binD .Add (.list [TT, .none, .tuple [], .dict []]) (.list ys) = some (.own (.lst ([TT, .none, .tuple [], .dict []] ++ ys))) := y_cat (by show 4 + ys.length ≤ 1000000; omega)
  have hyl2 : ys.length ≤ 1000000 := by omega
  have e1'' := e1'
  simp -implicitDefEqProofs [b_law_3, e1'', e2', et, oku, f1, ok12, c1, h3', szMax, hyl2, hcat]
  simp only [List.cons_append, List.nil_append] at f3
  rw [f3]
  rfl
end
theorem law_true (ns : List Int) (hn : ns.length ≤ 63) : ∃ ms, evF T 16 .law [.dat (.list (ns.map .int))] = some (.dat (.bool true), ms) := by
  obtain ⟨m, e0, hm⟩ := open_ev 14 ns hn
  refine wv fun W hW => ?_
  have ok3 : okRng 0 3 = true := rfl
  obtain ⟨ρ1, f1, m1, t2, t3, t4, t5, t6, t7, rfl, h3, hm1⟩ := for_inv (Φ := evF T 15) (W := W) (tg := .name 2) (b := b_law_3) (ds := rngL 0 3)
    (fun j ρ => ∃ m' t2 t3 t4 t5 t6 t7, ρ = [some (.dat (.list (ns.map .int))), some (.own m'), t2, t3, t4, t5, t6, t7] ∧ isOwn t3 = false ∧ PenOk (200000 * j) m')
    (ρ := [some (.dat (.list (ns.map .int))), some (.own m), none, none, none, none, none, none]) ⟨m, none, none, none, none, none, none, rfl, rfl, hm⟩ (fun j d ρ hd ⟨m', t2, t3, t4, t5, t6, t7, hρ, h3, hm'⟩ => by
      subst hρ
      have hj : j < (rngL 0 3).length := (List.getElem?_eq_some_iff.mp hd).1
      have h3l : (rngL 0 3).length = 3 := rfl
      obtain ⟨m2, u3, u4, u5, u6, u7, g, hm2, h3'⟩ := law_b3 W (200000 * j) hm' (by omega) (some (.dat (.list (ns.map .int)))) (some (.dat d)) t3 t4 t5 t6 t7 h3
      exact ⟨_, _, _, rfl, g, .inl rfl, m2, _, u3, u4, u5, u6, u7, rfl, h3', hm2.mono (by omega)⟩)
  refine ⟨[], ?_⟩
  have e0' : evF T 15 .law_open [.dat (.list (ns.map .int))] = some (.own m, []) := e0
  rw [show (16 : Nat) = 15 + 1 from rfl, v_fn, v_run hW rfl (by decide) rfl]
  simp -implicitDefEqProofs [T, d_law, e0', ok3]
  rw [f1]
  simp -implicitDefEqProofs
end LW

namespace LW
open PySem SP
def pg : Program := PySem.Challenge.pw_stackedputs_k03_standings_recognized
def stAt (i : Nat) : Stmt := PySem.Challenge.pw_stackedputs_k03_standings_recognized.main.body.getD i (.Pass ⟨0, 0, 0, 0⟩)
def nm : Fn → Str
  | .is_integer => "is_integer"
  | .is_within => "is_within"
  | .are_positions => "are_positions"
  | .is_standing => "is_standing"
  | .law_open => "_law_open"
  | .law_spread => "_law_spread"
  | .law_take => "_law_take"
  | .law_same => "_law_same"
  | .law_one_of => "_law_one_of"
  | .law_is_integer => "_law_is_integer"
  | .law_odd => "_law_odd"
  | .law_bent => "_law_bent"
  | .law_draw_effect => "_law_draw_effect"
  | .law_then => "_law_then"
  | .law_draw_rules => "_law_draw_rules"
  | .law_draw_scheme => "_law_draw_scheme"
  | .law_fold => "_law_fold"
  | .law_rule => "_law_rule"
  | .law_steps => "_law_steps"
  | .law_next => "_law_next"
  | .law_is_standing => "_law_is_standing"
  | .law_near => "_law_near"
  | .law => "law"
def st : Fn → Stmt
  | .is_integer => stAt 2
  | .is_within => stAt 3
  | .are_positions => stAt 6
  | .is_standing => stAt 7
  | .law_open => stAt 9
  | .law_spread => stAt 10
  | .law_take => stAt 11
  | .law_same => stAt 12
  | .law_one_of => stAt 13
  | .law_is_integer => stAt 14
  | .law_odd => stAt 15
  | .law_bent => stAt 16
  | .law_draw_effect => stAt 17
  | .law_then => stAt 18
  | .law_draw_rules => stAt 19
  | .law_draw_scheme => stAt 20
  | .law_fold => stAt 21
  | .law_rule => stAt 22
  | .law_steps => stAt 23
  | .law_next => stAt 24
  | .law_is_standing => stAt 25
  | .law_near => stAt 26
  | .law => stAt 27
def ps : Fn → List Str
  | .is_integer => ["value"]
  | .is_within => ["value", "low", "high"]
  | .are_positions => ["value", "most"]
  | .is_standing => ["scheme", "value"]
  | .law_open => ["script"]
  | .law_spread => ["cell", "at"]
  | .law_take => ["pen", "amount"]
  | .law_same => ["found", "due"]
  | .law_one_of => ["pen", "some"]
  | .law_is_integer => ["value", "low", "high"]
  | .law_odd => ["pen"]
  | .law_bent => ["pen", "value"]
  | .law_draw_effect => ["pen", "v"]
  | .law_then => ["one", "other"]
  | .law_draw_rules => ["pen", "effects", "often", "wild"]
  | .law_draw_scheme => ["pen", "most", "often", "wild"]
  | .law_fold => ["scheme", "row", "state"]
  | .law_rule => ["scheme", "a", "b"]
  | .law_steps => ["scheme", "standing"]
  | .law_next => ["scheme", "standing", "step"]
  | .law_is_standing => ["scheme", "value"]
  | .law_near => ["pen", "scheme", "standing"]
  | .law => ["script"]
def con : List (Str × PyData) := [("ABSENT", (.int (-1))), ("MOST_HOLDS", (.int 3))]
def ck : Fn → Ck Fn
  | .is_integer => ⟨nm, con, ["value"]⟩
  | .is_within => ⟨nm, con, ["value", "low", "high"]⟩
  | .are_positions => ⟨nm, con, ["value", "most", "one"]⟩
  | .is_standing => ⟨nm, con, ["scheme", "value", "one"]⟩
  | .law_open => ⟨nm, con, ["script", "cells", "k", "cell"]⟩
  | .law_spread => ⟨nm, con, ["cell", "at", "primes", "one", "two", "three"]⟩
  | .law_take => ⟨nm, con, ["pen", "amount", "found", "at", "cell"]⟩
  | .law_same => ⟨nm, con, ["found", "due", "one", "other"]⟩
  | .law_one_of => ⟨nm, con, ["pen", "some"]⟩
  | .law_is_integer => ⟨nm, con, ["value", "low", "high"]⟩
  | .law_odd => ⟨nm, con, ["pen"]⟩
  | .law_bent => ⟨nm, con, ["pen", "value", "found", "way", "k"]⟩
  | .law_draw_effect => ⟨nm, con, ["pen", "v", "way", "state"]⟩
  | .law_then => ⟨nm, con, ["one", "other", "state"]⟩
  | .law_draw_rules => ⟨nm, con, ["pen", "effects", "often", "wild", "found", "same", "a", "one", "b", "other", "due", "right", "way", "state", "c"]⟩
  | .law_draw_scheme => ⟨nm, con, ["pen", "most", "often", "wild", "again", "effects", "written", "v", "a"]⟩
  | .law_fold => ⟨nm, con, ["scheme", "row", "state", "a"]⟩
  | .law_rule => ⟨nm, con, ["scheme", "a", "b", "found", "rule"]⟩
  | .law_steps => ⟨nm, con, ["scheme", "standing", "found", "k", "base", "cells", "holds", "i", "a"]⟩
  | .law_next => ⟨nm, con, ["scheme", "standing", "step", "middle", "less", "base", "cells", "holds", "k", "c", "p", "i"]⟩
  | .law_is_standing => ⟨nm, con, ["scheme", "value", "base", "cells", "holds", "one"]⟩
  | .law_near => ⟨nm, con, ["pen", "scheme", "standing", "way", "base", "cells", "holds", "odd", "size", "some"]⟩
  | .law => ⟨nm, con, ["script", "pen", "turn", "again", "value", "scheme", "standing", "text"]⟩
theorem ck_ok : ∀ f, (ck f).nm = nm ∧ (ck f).con = con := fun f => by cases f <;> exact ⟨rfl, rfl⟩
theorem look_is_integer : chkD (ck .is_integer) (T .is_integer) (ps .is_integer) (st .is_integer) = true := by decide +kernel
theorem look_is_within : chkD (ck .is_within) (T .is_within) (ps .is_within) (st .is_within) = true := by decide +kernel
theorem look_are_positions : chkD (ck .are_positions) (T .are_positions) (ps .are_positions) (st .are_positions) = true := by decide +kernel
theorem look_is_standing : chkD (ck .is_standing) (T .is_standing) (ps .is_standing) (st .is_standing) = true := by decide +kernel
theorem look_law_open : chkD (ck .law_open) (T .law_open) (ps .law_open) (st .law_open) = true := by decide +kernel
theorem look_law_spread : chkD (ck .law_spread) (T .law_spread) (ps .law_spread) (st .law_spread) = true := by decide +kernel
theorem look_law_take : chkD (ck .law_take) (T .law_take) (ps .law_take) (st .law_take) = true := by decide +kernel
theorem look_law_same : chkD (ck .law_same) (T .law_same) (ps .law_same) (st .law_same) = true := by decide +kernel
theorem look_law_one_of : chkD (ck .law_one_of) (T .law_one_of) (ps .law_one_of) (st .law_one_of) = true := by decide +kernel
theorem look_law_is_integer : chkD (ck .law_is_integer) (T .law_is_integer) (ps .law_is_integer) (st .law_is_integer) = true := by decide +kernel
theorem look_law_odd : chkD (ck .law_odd) (T .law_odd) (ps .law_odd) (st .law_odd) = true := by decide +kernel
theorem look_law_bent : chkD (ck .law_bent) (T .law_bent) (ps .law_bent) (st .law_bent) = true := by decide +kernel
theorem look_law_draw_effect : chkD (ck .law_draw_effect) (T .law_draw_effect) (ps .law_draw_effect) (st .law_draw_effect) = true := by decide +kernel
theorem look_law_then : chkD (ck .law_then) (T .law_then) (ps .law_then) (st .law_then) = true := by decide +kernel
theorem look_law_draw_rules : chkD (ck .law_draw_rules) (T .law_draw_rules) (ps .law_draw_rules) (st .law_draw_rules) = true := by decide +kernel
theorem look_law_draw_scheme : chkD (ck .law_draw_scheme) (T .law_draw_scheme) (ps .law_draw_scheme) (st .law_draw_scheme) = true := by decide +kernel
theorem look_law_fold : chkD (ck .law_fold) (T .law_fold) (ps .law_fold) (st .law_fold) = true := by decide +kernel
theorem look_law_rule : chkD (ck .law_rule) (T .law_rule) (ps .law_rule) (st .law_rule) = true := by decide +kernel
theorem look_law_steps : chkD (ck .law_steps) (T .law_steps) (ps .law_steps) (st .law_steps) = true := by decide +kernel
theorem look_law_next : chkD (ck .law_next) (T .law_next) (ps .law_next) (st .law_next) = true := by decide +kernel
theorem look_law_is_standing : chkD (ck .law_is_standing) (T .law_is_standing) (ps .law_is_standing) (st .law_is_standing) = true := by decide +kernel
theorem look_law_near : chkD (ck .law_near) (T .law_near) (ps .law_near) (st .law_near) = true := by decide +kernel
theorem look_law : chkD (ck .law) (T .law) (ps .law) (st .law) = true := by decide +kernel
theorem look : ∀ f, chkD (ck f) (T f) (ps f) (st f) = true
  | .is_integer => look_is_integer
  | .is_within => look_is_within
  | .are_positions => look_are_positions
  | .is_standing => look_is_standing
  | .law_open => look_law_open
  | .law_spread => look_law_spread
  | .law_take => look_law_take
  | .law_same => look_law_same
  | .law_one_of => look_law_one_of
  | .law_is_integer => look_law_is_integer
  | .law_odd => look_law_odd
  | .law_bent => look_law_bent
  | .law_draw_effect => look_law_draw_effect
  | .law_then => look_law_then
  | .law_draw_rules => look_law_draw_rules
  | .law_draw_scheme => look_law_draw_scheme
  | .law_fold => look_law_fold
  | .law_rule => look_law_rule
  | .law_steps => look_law_steps
  | .law_next => look_law_next
  | .law_is_standing => look_law_is_standing
  | .law_near => look_law_near
  | .law => look_law
theorem bd_is_integer : ∀ (kV doc pm : Value) (an : Option Addr) (cdv ct : Value) (us : List Value), us.length = (ps .is_integer).length → bindArgs (PySem.W.fnOf "is_integer" "is_integer" (C8.fnArgs (st .is_integer)) (C8.fnBody (st .is_integer)) (C8.fnScope (st .is_integer)) .none kV doc pm an cdv ct) ⟨us, []⟩ = pure ((ps .is_integer).zip us) := fun _ _ _ _ _ _ us hl => match us, hl with | [_], _ => rfl
theorem bd_is_within : ∀ (kV doc pm : Value) (an : Option Addr) (cdv ct : Value) (us : List Value), us.length = (ps .is_within).length → bindArgs (PySem.W.fnOf "is_within" "is_within" (C8.fnArgs (st .is_within)) (C8.fnBody (st .is_within)) (C8.fnScope (st .is_within)) .none kV doc pm an cdv ct) ⟨us, []⟩ = pure ((ps .is_within).zip us) := fun _ _ _ _ _ _ us hl => match us, hl with | [_, _, _], _ => rfl
theorem bd_are_positions : ∀ (kV doc pm : Value) (an : Option Addr) (cdv ct : Value) (us : List Value), us.length = (ps .are_positions).length → bindArgs (PySem.W.fnOf "are_positions" "are_positions" (C8.fnArgs (st .are_positions)) (C8.fnBody (st .are_positions)) (C8.fnScope (st .are_positions)) .none kV doc pm an cdv ct) ⟨us, []⟩ = pure ((ps .are_positions).zip us) := fun _ _ _ _ _ _ us hl => match us, hl with | [_, _], _ => rfl
theorem bd_is_standing : ∀ (kV doc pm : Value) (an : Option Addr) (cdv ct : Value) (us : List Value), us.length = (ps .is_standing).length → bindArgs (PySem.W.fnOf "is_standing" "is_standing" (C8.fnArgs (st .is_standing)) (C8.fnBody (st .is_standing)) (C8.fnScope (st .is_standing)) .none kV doc pm an cdv ct) ⟨us, []⟩ = pure ((ps .is_standing).zip us) := fun _ _ _ _ _ _ us hl => match us, hl with | [_, _], _ => rfl
theorem bd_law_open : ∀ (kV doc pm : Value) (an : Option Addr) (cdv ct : Value) (us : List Value), us.length = (ps .law_open).length → bindArgs (PySem.W.fnOf "_law_open" "_law_open" (C8.fnArgs (st .law_open)) (C8.fnBody (st .law_open)) (C8.fnScope (st .law_open)) .none kV doc pm an cdv ct) ⟨us, []⟩ = pure ((ps .law_open).zip us) := fun _ _ _ _ _ _ us hl => match us, hl with | [_], _ => rfl
theorem bd_law_spread : ∀ (kV doc pm : Value) (an : Option Addr) (cdv ct : Value) (us : List Value), us.length = (ps .law_spread).length → bindArgs (PySem.W.fnOf "_law_spread" "_law_spread" (C8.fnArgs (st .law_spread)) (C8.fnBody (st .law_spread)) (C8.fnScope (st .law_spread)) .none kV doc pm an cdv ct) ⟨us, []⟩ = pure ((ps .law_spread).zip us) := fun _ _ _ _ _ _ us hl => match us, hl with | [_, _], _ => rfl
theorem bd_law_take : ∀ (kV doc pm : Value) (an : Option Addr) (cdv ct : Value) (us : List Value), us.length = (ps .law_take).length → bindArgs (PySem.W.fnOf "_law_take" "_law_take" (C8.fnArgs (st .law_take)) (C8.fnBody (st .law_take)) (C8.fnScope (st .law_take)) .none kV doc pm an cdv ct) ⟨us, []⟩ = pure ((ps .law_take).zip us) := fun _ _ _ _ _ _ us hl => match us, hl with | [_, _], _ => rfl
theorem bd_law_same : ∀ (kV doc pm : Value) (an : Option Addr) (cdv ct : Value) (us : List Value), us.length = (ps .law_same).length → bindArgs (PySem.W.fnOf "_law_same" "_law_same" (C8.fnArgs (st .law_same)) (C8.fnBody (st .law_same)) (C8.fnScope (st .law_same)) .none kV doc pm an cdv ct) ⟨us, []⟩ = pure ((ps .law_same).zip us) := fun _ _ _ _ _ _ us hl => match us, hl with | [_, _], _ => rfl
theorem bd_law_one_of : ∀ (kV doc pm : Value) (an : Option Addr) (cdv ct : Value) (us : List Value), us.length = (ps .law_one_of).length → bindArgs (PySem.W.fnOf "_law_one_of" "_law_one_of" (C8.fnArgs (st .law_one_of)) (C8.fnBody (st .law_one_of)) (C8.fnScope (st .law_one_of)) .none kV doc pm an cdv ct) ⟨us, []⟩ = pure ((ps .law_one_of).zip us) := fun _ _ _ _ _ _ us hl => match us, hl with | [_, _], _ => rfl
theorem bd_law_is_integer : ∀ (kV doc pm : Value) (an : Option Addr) (cdv ct : Value) (us : List Value), us.length = (ps .law_is_integer).length → bindArgs (PySem.W.fnOf "_law_is_integer" "_law_is_integer" (C8.fnArgs (st .law_is_integer)) (C8.fnBody (st .law_is_integer)) (C8.fnScope (st .law_is_integer)) .none kV doc pm an cdv ct) ⟨us, []⟩ = pure ((ps .law_is_integer).zip us) := fun _ _ _ _ _ _ us hl => match us, hl with | [_, _, _], _ => rfl
theorem bd_law_odd : ∀ (kV doc pm : Value) (an : Option Addr) (cdv ct : Value) (us : List Value), us.length = (ps .law_odd).length → bindArgs (PySem.W.fnOf "_law_odd" "_law_odd" (C8.fnArgs (st .law_odd)) (C8.fnBody (st .law_odd)) (C8.fnScope (st .law_odd)) .none kV doc pm an cdv ct) ⟨us, []⟩ = pure ((ps .law_odd).zip us) := fun _ _ _ _ _ _ us hl => match us, hl with | [_], _ => rfl
theorem bd_law_bent : ∀ (kV doc pm : Value) (an : Option Addr) (cdv ct : Value) (us : List Value), us.length = (ps .law_bent).length → bindArgs (PySem.W.fnOf "_law_bent" "_law_bent" (C8.fnArgs (st .law_bent)) (C8.fnBody (st .law_bent)) (C8.fnScope (st .law_bent)) .none kV doc pm an cdv ct) ⟨us, []⟩ = pure ((ps .law_bent).zip us) := fun _ _ _ _ _ _ us hl => match us, hl with | [_, _], _ => rfl
theorem bd_law_draw_effect : ∀ (kV doc pm : Value) (an : Option Addr) (cdv ct : Value) (us : List Value), us.length = (ps .law_draw_effect).length → bindArgs (PySem.W.fnOf "_law_draw_effect" "_law_draw_effect" (C8.fnArgs (st .law_draw_effect)) (C8.fnBody (st .law_draw_effect)) (C8.fnScope (st .law_draw_effect)) .none kV doc pm an cdv ct) ⟨us, []⟩ = pure ((ps .law_draw_effect).zip us) := fun _ _ _ _ _ _ us hl => match us, hl with | [_, _], _ => rfl
theorem bd_law_then : ∀ (kV doc pm : Value) (an : Option Addr) (cdv ct : Value) (us : List Value), us.length = (ps .law_then).length → bindArgs (PySem.W.fnOf "_law_then" "_law_then" (C8.fnArgs (st .law_then)) (C8.fnBody (st .law_then)) (C8.fnScope (st .law_then)) .none kV doc pm an cdv ct) ⟨us, []⟩ = pure ((ps .law_then).zip us) := fun _ _ _ _ _ _ us hl => match us, hl with | [_, _], _ => rfl
theorem bd_law_draw_rules : ∀ (kV doc pm : Value) (an : Option Addr) (cdv ct : Value) (us : List Value), us.length = (ps .law_draw_rules).length → bindArgs (PySem.W.fnOf "_law_draw_rules" "_law_draw_rules" (C8.fnArgs (st .law_draw_rules)) (C8.fnBody (st .law_draw_rules)) (C8.fnScope (st .law_draw_rules)) .none kV doc pm an cdv ct) ⟨us, []⟩ = pure ((ps .law_draw_rules).zip us) := fun _ _ _ _ _ _ us hl => match us, hl with | [_, _, _, _], _ => rfl
theorem bd_law_draw_scheme : ∀ (kV doc pm : Value) (an : Option Addr) (cdv ct : Value) (us : List Value), us.length = (ps .law_draw_scheme).length → bindArgs (PySem.W.fnOf "_law_draw_scheme" "_law_draw_scheme" (C8.fnArgs (st .law_draw_scheme)) (C8.fnBody (st .law_draw_scheme)) (C8.fnScope (st .law_draw_scheme)) .none kV doc pm an cdv ct) ⟨us, []⟩ = pure ((ps .law_draw_scheme).zip us) := fun _ _ _ _ _ _ us hl => match us, hl with | [_, _, _, _], _ => rfl
theorem bd_law_fold : ∀ (kV doc pm : Value) (an : Option Addr) (cdv ct : Value) (us : List Value), us.length = (ps .law_fold).length → bindArgs (PySem.W.fnOf "_law_fold" "_law_fold" (C8.fnArgs (st .law_fold)) (C8.fnBody (st .law_fold)) (C8.fnScope (st .law_fold)) .none kV doc pm an cdv ct) ⟨us, []⟩ = pure ((ps .law_fold).zip us) := fun _ _ _ _ _ _ us hl => match us, hl with | [_, _, _], _ => rfl
theorem bd_law_rule : ∀ (kV doc pm : Value) (an : Option Addr) (cdv ct : Value) (us : List Value), us.length = (ps .law_rule).length → bindArgs (PySem.W.fnOf "_law_rule" "_law_rule" (C8.fnArgs (st .law_rule)) (C8.fnBody (st .law_rule)) (C8.fnScope (st .law_rule)) .none kV doc pm an cdv ct) ⟨us, []⟩ = pure ((ps .law_rule).zip us) := fun _ _ _ _ _ _ us hl => match us, hl with | [_, _, _], _ => rfl
theorem bd_law_steps : ∀ (kV doc pm : Value) (an : Option Addr) (cdv ct : Value) (us : List Value), us.length = (ps .law_steps).length → bindArgs (PySem.W.fnOf "_law_steps" "_law_steps" (C8.fnArgs (st .law_steps)) (C8.fnBody (st .law_steps)) (C8.fnScope (st .law_steps)) .none kV doc pm an cdv ct) ⟨us, []⟩ = pure ((ps .law_steps).zip us) := fun _ _ _ _ _ _ us hl => match us, hl with | [_, _], _ => rfl
theorem bd_law_next : ∀ (kV doc pm : Value) (an : Option Addr) (cdv ct : Value) (us : List Value), us.length = (ps .law_next).length → bindArgs (PySem.W.fnOf "_law_next" "_law_next" (C8.fnArgs (st .law_next)) (C8.fnBody (st .law_next)) (C8.fnScope (st .law_next)) .none kV doc pm an cdv ct) ⟨us, []⟩ = pure ((ps .law_next).zip us) := fun _ _ _ _ _ _ us hl => match us, hl with | [_, _, _], _ => rfl
theorem bd_law_is_standing : ∀ (kV doc pm : Value) (an : Option Addr) (cdv ct : Value) (us : List Value), us.length = (ps .law_is_standing).length → bindArgs (PySem.W.fnOf "_law_is_standing" "_law_is_standing" (C8.fnArgs (st .law_is_standing)) (C8.fnBody (st .law_is_standing)) (C8.fnScope (st .law_is_standing)) .none kV doc pm an cdv ct) ⟨us, []⟩ = pure ((ps .law_is_standing).zip us) := fun _ _ _ _ _ _ us hl => match us, hl with | [_, _], _ => rfl
theorem bd_law_near : ∀ (kV doc pm : Value) (an : Option Addr) (cdv ct : Value) (us : List Value), us.length = (ps .law_near).length → bindArgs (PySem.W.fnOf "_law_near" "_law_near" (C8.fnArgs (st .law_near)) (C8.fnBody (st .law_near)) (C8.fnScope (st .law_near)) .none kV doc pm an cdv ct) ⟨us, []⟩ = pure ((ps .law_near).zip us) := fun _ _ _ _ _ _ us hl => match us, hl with | [_, _, _], _ => rfl
theorem bd_law : ∀ (kV doc pm : Value) (an : Option Addr) (cdv ct : Value) (us : List Value), us.length = (ps .law).length → bindArgs (PySem.W.fnOf "law" "law" (C8.fnArgs (st .law)) (C8.fnBody (st .law)) (C8.fnScope (st .law)) .none kV doc pm an cdv ct) ⟨us, []⟩ = pure ((ps .law).zip us) := fun _ _ _ _ _ _ us hl => match us, hl with | [_], _ => rfl
theorem enter {n : Nat} {P : Program} {w : World} {K : PySem.W.Frag} {h : Heap} {mg : Str → Option Value} {fa : Addr} (X : K.In h) (G : h.Ns mainGlobals mg) (hfa : mg "law" = some (.ref fa)) (zs : ∀ x ∈ bltNames, PySem.W.nsIn K mainGlobals x = some none) (cn : ConOk w K mg con)
    (h_is_integer : ∃ a fd, AtD K mg "is_integer" (st .is_integer) (ps .is_integer) a fd) (h_is_within : ∃ a fd, AtD K mg "is_within" (st .is_within) (ps .is_within) a fd) (h_are_positions : ∃ a fd, AtD K mg "are_positions" (st .are_positions) (ps .are_positions) a fd) (h_is_standing : ∃ a fd, AtD K mg "is_standing" (st .is_standing) (ps .is_standing) a fd) (h_law_open : ∃ a fd, AtD K mg "_law_open" (st .law_open) (ps .law_open) a fd) (h_law_spread : ∃ a fd, AtD K mg "_law_spread" (st .law_spread) (ps .law_spread) a fd) (h_law_take : ∃ a fd, AtD K mg "_law_take" (st .law_take) (ps .law_take) a fd) (h_law_same : ∃ a fd, AtD K mg "_law_same" (st .law_same) (ps .law_same) a fd) (h_law_one_of : ∃ a fd, AtD K mg "_law_one_of" (st .law_one_of) (ps .law_one_of) a fd) (h_law_is_integer : ∃ a fd, AtD K mg "_law_is_integer" (st .law_is_integer) (ps .law_is_integer) a fd) (h_law_odd : ∃ a fd, AtD K mg "_law_odd" (st .law_odd) (ps .law_odd) a fd) (h_law_bent : ∃ a fd, AtD K mg "_law_bent" (st .law_bent) (ps .law_bent) a fd) (h_law_draw_effect : ∃ a fd, AtD K mg "_law_draw_effect" (st .law_draw_effect) (ps .law_draw_effect) a fd) (h_law_then : ∃ a fd, AtD K mg "_law_then" (st .law_then) (ps .law_then) a fd) (h_law_draw_rules : ∃ a fd, AtD K mg "_law_draw_rules" (st .law_draw_rules) (ps .law_draw_rules) a fd) (h_law_draw_scheme : ∃ a fd, AtD K mg "_law_draw_scheme" (st .law_draw_scheme) (ps .law_draw_scheme) a fd) (h_law_fold : ∃ a fd, AtD K mg "_law_fold" (st .law_fold) (ps .law_fold) a fd) (h_law_rule : ∃ a fd, AtD K mg "_law_rule" (st .law_rule) (ps .law_rule) a fd) (h_law_steps : ∃ a fd, AtD K mg "_law_steps" (st .law_steps) (ps .law_steps) a fd) (h_law_next : ∃ a fd, AtD K mg "_law_next" (st .law_next) (ps .law_next) a fd) (h_law_is_standing : ∃ a fd, AtD K mg "_law_is_standing" (st .law_is_standing) (ps .law_is_standing) a fd) (h_law_near : ∃ a fd, AtD K mg "_law_near" (st .law_near) (ps .law_near) a fd) (h_law : ∃ a fd, AtD K mg "law" (st .law) (ps .law) a fd) :
    ∃ fd : FuncData, L2.Binds K fd ["script"] [] ∧ ∀ base : Heap, K.In base → base.Ns mainGlobals mg → (∃ o, base.get? sysModules = some o) → FnG P w K mg base n (evF T n .law) fa fd ["script"] := by
  have at_ : ∀ f, ∃ a fd, AtD K mg (nm f) (st f) (ps f) a fd := fun f => by cases f <;> assumption
  obtain ⟨a, fd, hd⟩ := h_law
  have M : ∀ f, Mgs (ck f) w K mg := fun f => mgs_mk X G zs (by rw [(ck_ok f).2]; exact cn)
  have e := hfa.symm.trans hd.mgf
  cases e
  refine ⟨fd, hd.bn, fun base _ _ hs => ?_⟩
  obtain ⟨a2, fd2, hd2, g⟩ := all_g (P := P) (base := base) (k := ck) (T := T) (con := con) ck_ok look M hs at_ n .law
  have e2 := hd.mgf.symm.trans hd2.mgf
  cases e2
  obtain ⟨oc, od, dV, kV, doc, pm, an, cdv, ct, osl, e3, l3, _⟩ := hd.fn.ex
  obtain ⟨oc2, od2, dV2, kV2, doc2, pm2, an2, cdv2, ct2, osl2, e4, l4, _⟩ := hd2.fn.ex
  rw [l3] at l4
  have e5 : fd = fd2 := by injection l4 with l4; injection l4 with _ _ l4 _; injection l4
  rw [e5]
  exact g

end LW

open PySem PySem.W PyProof.Rows
set_option maxHeartbeats 0 in
theorem PySem.Challenge.cw_stackedputs_k03_standings_recognized_holds : PySem.Challenge.rw_stackedputs_k03_standings_recognized.Holds := by
  w_on; o_law; k_head; (case hw => w_witness2)
  k_fill
  refine SP.walk_ofS (l := PySem.Challenge.rw_stackedputs_k03_standings_recognized) (n := 63) (k := 16) (x := "script") (fn := SP.evF LW.T 16 .law) rfl (by decide) rfl ⟨rfl, by decide, by decide⟩ ?hI (fun w h Y => PySem.W.kIn_of Y) ?hK ?F LW.law_true
  case hI => decide +kernel
  case hK => intro w; exact rfl
  case F =>
    intro w mg fa h KX G hmg
    refine' LW.enter KX G hmg (SP.zs_mk ?z1 ?z2 ?z3 ?z4 ?z5 ?z6 ?z7 ?z8 ?z9 ?z10 ?z11 ?z12 ?z13 ?z14 ?z15 ?z16 ?z17 ?z18 ?z19) ?con (SP.at_mk (x := "is_integer") (st := LW.st .is_integer) (ps := LW.ps .is_integer) KX G (LW.bd_is_integer) ?a0 ?l0 ?c0 ?k0) (SP.at_mk (x := "is_within") (st := LW.st .is_within) (ps := LW.ps .is_within) KX G (LW.bd_is_within) ?a1 ?l1 ?c1 ?k1) (SP.at_mk (x := "are_positions") (st := LW.st .are_positions) (ps := LW.ps .are_positions) KX G (LW.bd_are_positions) ?a2 ?l2 ?c2 ?k2) (SP.at_mk (x := "is_standing") (st := LW.st .is_standing) (ps := LW.ps .is_standing) KX G (LW.bd_is_standing) ?a3 ?l3 ?c3 ?k3) (SP.at_mk (x := "_law_open") (st := LW.st .law_open) (ps := LW.ps .law_open) KX G (LW.bd_law_open) ?a4 ?l4 ?c4 ?k4) (SP.at_mk (x := "_law_spread") (st := LW.st .law_spread) (ps := LW.ps .law_spread) KX G (LW.bd_law_spread) ?a5 ?l5 ?c5 ?k5) (SP.at_mk (x := "_law_take") (st := LW.st .law_take) (ps := LW.ps .law_take) KX G (LW.bd_law_take) ?a6 ?l6 ?c6 ?k6) (SP.at_mk (x := "_law_same") (st := LW.st .law_same) (ps := LW.ps .law_same) KX G (LW.bd_law_same) ?a7 ?l7 ?c7 ?k7) (SP.at_mk (x := "_law_one_of") (st := LW.st .law_one_of) (ps := LW.ps .law_one_of) KX G (LW.bd_law_one_of) ?a8 ?l8 ?c8 ?k8) (SP.at_mk (x := "_law_is_integer") (st := LW.st .law_is_integer) (ps := LW.ps .law_is_integer) KX G (LW.bd_law_is_integer) ?a9 ?l9 ?c9 ?k9) (SP.at_mk (x := "_law_odd") (st := LW.st .law_odd) (ps := LW.ps .law_odd) KX G (LW.bd_law_odd) ?a10 ?l10 ?c10 ?k10) (SP.at_mk (x := "_law_bent") (st := LW.st .law_bent) (ps := LW.ps .law_bent) KX G (LW.bd_law_bent) ?a11 ?l11 ?c11 ?k11) (SP.at_mk (x := "_law_draw_effect") (st := LW.st .law_draw_effect) (ps := LW.ps .law_draw_effect) KX G (LW.bd_law_draw_effect) ?a12 ?l12 ?c12 ?k12) (SP.at_mk (x := "_law_then") (st := LW.st .law_then) (ps := LW.ps .law_then) KX G (LW.bd_law_then) ?a13 ?l13 ?c13 ?k13) (SP.at_mk (x := "_law_draw_rules") (st := LW.st .law_draw_rules) (ps := LW.ps .law_draw_rules) KX G (LW.bd_law_draw_rules) ?a14 ?l14 ?c14 ?k14) (SP.at_mk (x := "_law_draw_scheme") (st := LW.st .law_draw_scheme) (ps := LW.ps .law_draw_scheme) KX G (LW.bd_law_draw_scheme) ?a15 ?l15 ?c15 ?k15) (SP.at_mk (x := "_law_fold") (st := LW.st .law_fold) (ps := LW.ps .law_fold) KX G (LW.bd_law_fold) ?a16 ?l16 ?c16 ?k16) (SP.at_mk (x := "_law_rule") (st := LW.st .law_rule) (ps := LW.ps .law_rule) KX G (LW.bd_law_rule) ?a17 ?l17 ?c17 ?k17) (SP.at_mk (x := "_law_steps") (st := LW.st .law_steps) (ps := LW.ps .law_steps) KX G (LW.bd_law_steps) ?a18 ?l18 ?c18 ?k18) (SP.at_mk (x := "_law_next") (st := LW.st .law_next) (ps := LW.ps .law_next) KX G (LW.bd_law_next) ?a19 ?l19 ?c19 ?k19) (SP.at_mk (x := "_law_is_standing") (st := LW.st .law_is_standing) (ps := LW.ps .law_is_standing) KX G (LW.bd_law_is_standing) ?a20 ?l20 ?c20 ?k20) (SP.at_mk (x := "_law_near") (st := LW.st .law_near) (ps := LW.ps .law_near) KX G (LW.bd_law_near) ?a21 ?l21 ?c21 ?k21) (SP.at_mk (x := "law") (st := LW.st .law) (ps := LW.ps .law) KX G (LW.bd_law) ?a22 ?l22 ?c22 ?k22)
    (case z1 => k_is)
    (case z2 => k_is)
    (case z3 => k_is)
    (case z4 => k_is)
    (case z5 => k_is)
    (case z6 => k_is)
    (case z7 => k_is)
    (case z8 => k_is)
    (case z9 => k_is)
    (case z10 => k_is)
    (case z11 => k_is)
    (case z12 => k_is)
    (case z13 => k_is)
    (case z14 => k_is)
    (case z15 => k_is)
    (case z16 => k_is)
    (case z17 => k_is)
    (case z18 => k_is)
    (case z19 => k_is)
    (case a0 => k_is); (case l0 => k_is); (case c0 => k_is); (case k0 => k_is)
    (case a1 => k_is); (case l1 => k_is); (case c1 => k_is); (case k1 => k_is)
    (case a2 => k_is); (case l2 => k_is); (case c2 => k_is); (case k2 => k_is)
    (case a3 => k_is); (case l3 => k_is); (case c3 => k_is); (case k3 => k_is)
    (case a4 => k_is); (case l4 => k_is); (case c4 => k_is); (case k4 => k_is)
    (case a5 => k_is); (case l5 => k_is); (case c5 => k_is); (case k5 => k_is)
    (case a6 => k_is); (case l6 => k_is); (case c6 => k_is); (case k6 => k_is)
    (case a7 => k_is); (case l7 => k_is); (case c7 => k_is); (case k7 => k_is)
    (case a8 => k_is); (case l8 => k_is); (case c8 => k_is); (case k8 => k_is)
    (case a9 => k_is); (case l9 => k_is); (case c9 => k_is); (case k9 => k_is)
    (case a10 => k_is); (case l10 => k_is); (case c10 => k_is); (case k10 => k_is)
    (case a11 => k_is); (case l11 => k_is); (case c11 => k_is); (case k11 => k_is)
    (case a12 => k_is); (case l12 => k_is); (case c12 => k_is); (case k12 => k_is)
    (case a13 => k_is); (case l13 => k_is); (case c13 => k_is); (case k13 => k_is)
    (case a14 => k_is); (case l14 => k_is); (case c14 => k_is); (case k14 => k_is)
    (case a15 => k_is); (case l15 => k_is); (case c15 => k_is); (case k15 => k_is)
    (case a16 => k_is); (case l16 => k_is); (case c16 => k_is); (case k16 => k_is)
    (case a17 => k_is); (case l17 => k_is); (case c17 => k_is); (case k17 => k_is)
    (case a18 => k_is); (case l18 => k_is); (case c18 => k_is); (case k18 => k_is)
    (case a19 => k_is); (case l19 => k_is); (case c19 => k_is); (case k19 => k_is)
    (case a20 => k_is); (case l20 => k_is); (case c20 => k_is); (case k20 => k_is)
    (case a21 => k_is); (case l21 => k_is); (case c21 => k_is); (case k21 => k_is)
    (case a22 => k_is); (case l22 => k_is); (case c22 => k_is); (case k22 => k_is)
    case con => refine' (SP.con_int KX G (SP.con_int KX G SP.con_nil ?uMOST_HOLDS) ?uABSENT); (case uABSENT => k_is); (case uMOST_HOLDS => k_is)

